import PyProof.Rows.All
import Wide.All
import OpenK.AllK
import Wide.FinOn
import OpenK.KMake
import OpenK.TopRead
import OpenK.KCls
import OpenK.KWalk
import OpenK.KCell
import KE.KEqDat
import KE.KItem
import KE.KStateDown
import PyProof.IsiHeapPairs
import PyProof.IsiPairs
import PyProof.WalkInts
import PyProof.TypeOfCall
import KE.KDictSum
import PyProof.Rows.SumAny
import OpenK.KCall
import Wide.BridgeG
import Open.Boot
import PySem.Challenge.RW_k9_0036
set_option Elab.async false
set_option linter.all false
set_option autoImplicit false
set_option genSizeOf false
set_option genInjectivity false
set_option bootstrap.genMatcherCode false
noncomputable section
set_option compiler.extract_closed false
namespace ML
inductive V where
  | none
  | bool (b : Bool)
  | int (i : Int)
  | str (k : Nat)
  | flt (b : UInt64)
  | ref (a : Nat)
inductive O where
  | list (xs : List V)
  | ro (xs : List V)
  | tup (xs : List V)
  | inst (c : Nat) (fs : List (Nat × V))
  | dict (es : List (Int × V))
noncomputable def O.seq? : O → Option (List V)
  | .list xs => some xs
  | .ro xs => some xs
  | .tup xs => some xs
  | _ => none
noncomputable def O.lst? : O → Option (List V)
  | .list xs => some xs
  | .ro xs => some xs
  | _ => none
noncomputable abbrev Heap := Nat → Option O
noncomputable def Heap.upd (H : Heap) (a : Nat) (o : O) : Heap := fun b => if b = a then some o else H b
noncomputable def Heap.le (H H' : Heap) : Prop := ∀ a o, H a = some o → H' a = some o
noncomputable abbrev Loc := List (Option V)
inductive Flow where
  | next | brk | cont
  | ret (v : V)
inductive Bop where | add | sub | mul | fdiv | mod | pow
inductive Cop where | eq | ne | lt | le | gt | ge | is | isnot | isin | notin
inductive Prim where
  | len | abs | min | max | sum | sorted | list
  | tyList | tyInt | tyTuple | tyBool
  | isList | isBool | isCanopy
  | nan
  | degs | rooms
  | lrange
  | spare
mutual
inductive E where
  | var (i : Nat)
  | lit (v : V)
  | bop (o : Bop) (a b : E)
  | neg (a : E)
  | cmp (o : Cop) (a b : E)
  | cmp2 (o1 o2 : Cop) (a b c : E)
  | and (a b : E)
  | or (a b : E)
  | not (a : E)
  | call (f : Nat) (args : List E)
  | meth (f : Nat) (self : E) (args : List E)
  | new (c : Nat) (args : List E)
  | prim (p : Prim) (args : List E)
  | attr (o : E) (i : Nat)
  | idx (o i : E)
  | slice (o : E) (lo hi : Option E)
  | list (es : List E)
  | tup (es : List E)
  | dict0
  | comp (elt : E) (k : Nat) (src : Src) (cond : Option E)
inductive Src where
  | rng1 (n : E)
  | rng2 (a b : E)
  | rng3 (a b : E) (down : Bool)
  | rngS (a b st : E)
  | of (e : E)
  | zip (a b : E)
end
inductive S where
  | assign (i : Nat) (e : E)
  | unpack (is : List Nat) (e : E)
  | setAttr (o : E) (i : Nat) (e : E)
  | setIdx (o i e : E)
  | delIdx (o i : E)
  | append (o e : E)
  | expr (e : E)
  | ret (e : Option E)
  | ite (c : E) (a b : List S)
  | whl (c : E) (b : List S)
  | for1 (tgt : List Nat) (src : Src) (b : List S)
  | brk
  | pass
set_option genInjectivity true in
inductive D where
  | none
  | int (i : Int)
  | str (k : Nat)
  | list (ds : List D)
  | tup (ds : List D)
inductive All2 {α β : Type} (R : α → β → Prop) : List α → List β → Prop where
  | nil : All2 R [] []
  | cons {a b as bs} : R a b → All2 R as bs → All2 R (a :: as) (b :: bs)
theorem All2.length {α β : Type} {R : α → β → Prop} : ∀ {l : List α} {m : List β}, All2 R l m → l.length = m.length
  | _, _, .nil => rfl
  | _, _, .cons _ r => congrArg (· + 1) r.length
theorem All2.append {α β : Type} {R : α → β → Prop} : ∀ {l l' : List α} {m m' : List β}, All2 R l m → All2 R l' m' → All2 R (l ++ l') (m ++ m')
  | _, _, _, _, .nil, y => y
  | _, _, _, _, .cons a r, y => .cons a (r.append y)
theorem All2.get {α β : Type} {R : α → β → Prop} : ∀ {l : List α} {m : List β} {i : Nat} {b : β}, All2 R l m → m[i]? = some b → ∃ a, l[i]? = some a ∧ R a b
  | _, _, 0, _, .cons a _, e => by cases e; exact ⟨_, rfl, a⟩
  | _, _, i + 1, _, .cons _ r, e => r.get (i := i) e
theorem All2.get' {α β : Type} {R : α → β → Prop} : ∀ {l : List α} {m : List β} {i : Nat} {a : α}, All2 R l m → l[i]? = some a → ∃ b, m[i]? = some b ∧ R a b
  | _, _, 0, _, .cons a _, e => by cases e; exact ⟨_, rfl, a⟩
  | _, _, i + 1, _, .cons _ r, e => r.get' (i := i) e
noncomputable def RdA : V → D → Prop
  | .none, .none => True
  | .int i, .int j => i = j
  | .str k, .str l => k = l
  | _, _ => False
noncomputable def Rd (H : Heap) : Nat → V → D → Prop
  | 0, v, d => RdA v d
  | n + 1, v, d => RdA v d ∨
      (∃ a o xs ds, v = .ref a ∧ H a = some o ∧ o.lst? = some xs ∧ d = .list ds ∧ All2 (Rd H n) xs ds) ∨
      (∃ a xs ds, v = .ref a ∧ H a = some (.tup xs) ∧ d = .tup ds ∧ All2 (Rd H n) xs ds)
noncomputable def lim : Nat := 1000000
noncomputable def mid (i : Int) : Prop := -(2 ^ 62) ≤ i ∧ i < 2 ^ 62
noncomputable abbrev PV := V → Heap → Prop
noncomputable abbrev PS := Flow → Loc → Heap → Prop
theorem absG {G : Prop} (h : ∀ C : Prop, (G → C) → C) : G := h G id
noncomputable def allocW (o : O) (H : Heap) (Q : PV) : Prop := ∀ a, H a = none → Q (.ref a) (H.upd a o)
noncomputable def f225 : UInt64 := 0x4002000000000000
noncomputable def f275 : UInt64 := 0x4006000000000000
noncomputable def f35 : UInt64 := 0x400C000000000000
noncomputable def f45 : UInt64 := 0x4012000000000000
noncomputable def f55 : UInt64 := 0x4016000000000000
noncomputable def twice (b : UInt64) : Option UInt64 := if b == f225 then some f45 else if b == f275 then some f55 else none
noncomputable def less1 (b : UInt64) : Option UInt64 := if b == f45 then some f35 else if b == f55 then some f45 else none
noncomputable def halfOf (b : UInt64) : Option Int := if b == f35 then some 3 else if b == f45 then some 4 else none
noncomputable def intW2 (a b : V) (F : Int → Int → Prop) : Prop :=
  match a with
  | .int x => (match b with | .int y => F x y | _ => False)
  | _ => False
noncomputable def addL (p q : Nat) (H : Heap) (Q : PV) : Prop :=
  match H p with
  | some (.list xs) => (match H q with
    | some (.list ys) => xs.length + ys.length ≤ lim ∧ allocW (.list (xs ++ ys)) H Q
    | _ => False)
  | _ => False
noncomputable def addW (a b : V) (H : Heap) (Q : PV) : Prop :=
  match a with
  | .int x => (match b with | .int y => Q (.int (x + y)) H | _ => False)
  | .ref p => (match b with | .ref q => addL p q H Q | _ => False)
  | _ => False
noncomputable def mulW (a b : V) (H : Heap) (Q : PV) : Prop :=
  match a with
  | .int x => (match b with
    | .int y => (mid x ∨ mid y) ∧ Q (.int (x * y)) H
    | _ => False)
  | _ => False
noncomputable def bopW (op : Bop) (a b : V) (H : Heap) (Q : PV) : Prop :=
  match op with
  | .add => addW a b H Q
  | .sub => intW2 a b fun x y => Q (.int (x - y)) H
  | .mul => mulW a b H Q
  | .fdiv => intW2 a b fun x y => 0 < y ∧ y < 2 ^ 30 ∧ Q (.int (x / y)) H
  | .mod => intW2 a b fun x y => 0 < y ∧ Q (.int (x % y)) H
  | .pow => intW2 a b fun x y => 0 ≤ y ∧ y < 64 ∧ 0 ≤ x ∧ x < 2 ^ 16 ∧ Q (.int (x ^ y.toNat)) H
noncomputable def negW (a : V) (H : Heap) (Q : PV) : Prop :=
  match a with
  | .int x => Q (.int (-x)) H
  | _ => False
noncomputable def isSame? : V → V → Option Bool
  | .none, .none => some true
  | .bool a, .bool b => some (a == b)
  | .none, .bool _ => some false
  | .bool _, .none => some false
  | .none, .ref _ => some false
  | .ref _, .none => some false
  | .bool _, .ref _ => some false
  | .ref _, .bool _ => some false
  | .int _, .none => some false
  | .none, .int _ => some false
  | .flt _, .none => some false
  | .none, .flt _ => some false
  | .str _, .none => some false
  | .int _, .bool _ => some false
  | .int _, .ref _ => some false
  | _, _ => none
noncomputable def notTup : Option O → Prop
  | some (.tup _) => False
  | some _ => True
  | none => False
noncomputable def isW (a b : V) (H : Heap) (Q : Bool → Prop) : Prop :=
  match a, b with
  | .ref p, .ref q => (p = q → Q true) ∧ (p ≠ q → notTup (H p) ∧ (H q).isSome = true ∧ Q false)
  | a, b => match isSame? a b with
    | some r => Q r
    | none => False
noncomputable def depthMax : Nat := 5
noncomputable def qnan : UInt64 := 0x7ff8000000000000
noncomputable def eqW (a b : V) (H : Heap) (Q : Bool → Prop) : Prop :=
  (∃ da db, Rd H depthMax a da ∧ Rd H depthMax b db ∧ ∀ r : Bool, (r = true ↔ da = db) → Q r) ∨
  (∃ (p q : Nat) (ps : List Nat), a = .ref p ∧ b = .ref q ∧ H p = some (.list (ps.map V.ref)) ∧ H q = some (.list (ps.map V.ref)) ∧ Q true)
noncomputable def inW (a b : V) (H : Heap) (Q : Bool → Prop) : Prop :=
  False
noncomputable def ordW (f : Int → Int → Bool) (a b : V) (Q : Bool → Prop) : Prop := intW2 a b fun x y => Q (f x y)
noncomputable def eqsW (fi : Int → Int → Bool) (fb : Bool → Bool → Bool) (fs : Nat → Nat → Bool) (Fl : Int → UInt64 → Prop) (a b : V) (E : Prop) (Q : Bool → Prop) : Prop :=
  match a with
  | .int x => (match b with | .int y => Q (fi x y) | _ => E)
  | .bool x => (match b with | .bool y => Q (fb x y) | _ => E)
  | .str x => (match b with | .str y => Q (fs x y) | _ => E)
  | _ => E
noncomputable def cmpW (op : Cop) (a b : V) (H : Heap) (Q : Bool → Prop) : Prop :=
  match op with
  | .lt => ordW (fun x y => decide (x < y)) a b Q
  | .le => ordW (fun x y => decide (x ≤ y)) a b Q
  | .gt => ordW (fun x y => decide (y < x)) a b Q
  | .ge => ordW (fun x y => decide (y ≤ x)) a b Q
  | .eq => eqsW (fun x y => decide (x = y)) (fun x y => decide (x = y)) (fun x y => decide (x = y)) (fun _ _ => False) a b (eqW a b H Q) Q
  | .ne => eqsW (fun x y => decide (x ≠ y)) (fun x y => decide (x ≠ y)) (fun x y => decide (x ≠ y)) (fun x b => eqW (.int x) (.flt b) H fun r => Q (!r)) a b (eqW a b H fun r => Q (!r)) Q
  | .is => isW a b H Q
  | .isnot => isW a b H fun r => Q (!r)
  | .isin => inW a b H Q
  | .notin => inW a b H fun r => Q (!r)
noncomputable def truthW (v : V) (_H : Heap) (Q : Bool → Prop) : Prop :=
  match v with
  | .none => Q false
  | .bool b => Q b
  | .int i => Q (decide (i ≠ 0))
  | _ => False
noncomputable def O.dic? : O → Option (List (Int × V))
  | .dict es => some es
  | _ => none
noncomputable def idxO (x : O) (k : Int) (Q : V → Prop) : Prop :=
  match x.dic? with
  | some es => ∃ v, es.lookup k = some v ∧ Q v
  | none => 0 ≤ k ∧ k < lim ∧ ∃ xs v, x.seq? = some xs ∧ xs[k.toNat]? = some v ∧ Q v
noncomputable def idxW (o i : V) (H : Heap) (Q : V → Prop) : Prop :=
  match o, i with
  | .ref p, .int k =>
    match H p with
    | some x => idxO x k Q
    | none => False
  | _, _ => False
noncomputable def cut {α : Type} (xs : List α) (lo hi : Option Int) : List α :=
  let ys := match hi with | some h => xs.take h.toNat | none => xs
  match lo with | some l => ys.drop l.toNat | none => ys
noncomputable def partOk : Option V → Option (Option Int) → Prop
  | none, r => r = some none
  | some (.int i), r => 0 ≤ i ∧ r = some (some i)
  | some _, _ => False
noncomputable def part? : Option V → Option (Option Int)
  | none => some none
  | some (.int i) => some (some i)
  | some _ => none
noncomputable def nonneg? : Option Int → Prop
  | none => True
  | some i => 0 ≤ i
noncomputable def tsliceW (xs : List V) (l h : Option Int) (H : Heap) (Q : PV) : Prop :=
  match l, h with
  | none, some k => 0 ≤ k ∧ k.toNat < xs.length ∧ xs.length ≤ lim ∧ allocW (.tup (xs.take k.toNat)) H Q
  | _, _ => False
noncomputable def sliceW (o : V) (lo hi : Option V) (H : Heap) (Q : PV) : Prop :=
  match o, part? lo, part? hi with
  | .ref p, some l, some h =>
    match H p with
    | some x => nonneg? l ∧ nonneg? h ∧ ∃ xs, x.lst? = some xs ∧ xs.length ≤ lim ∧ allocW (.list (cut xs l h)) H Q
    | none => False
  | _, _, _ => False
noncomputable def setF (fs : List (Nat × V)) (i : Nat) (v : V) : List (Nat × V) :=
  match fs with
  | [] => [(i, v)]
  | (j, w) :: r => if j = i then (i, v) :: r else (j, w) :: setF r i v
noncomputable def attrW (o : V) (i : Nat) (H : Heap) (Q : V → Prop) : Prop :=
  match o with
  | .ref p => match H p with
    | some (.inst _ fs) => ∃ v, fs.lookup i = some v ∧ Q v
    | _ => False
  | _ => False
noncomputable def setAttrW (o : V) (i : Nat) (v : V) (H : Heap) (Q : Heap → Prop) : Prop :=
  match o with
  | .ref p => match H p with
    | some (.inst c fs) => fs.length ≤ 100 ∧ Q (H.upd p (.inst c (setF fs i v)))
    | _ => False
  | _ => False
noncomputable def dset (es : List (Int × V)) (k : Int) (v : V) : List (Int × V) :=
  match es with
  | [] => [(k, v)]
  | (j, w) :: r => if j = k then (j, v) :: r else (j, w) :: dset r k v
noncomputable def setIdxW (o i v : V) (H : Heap) (Q : Heap → Prop) : Prop :=
  match o, i with
  | .ref p, .int k => match H p with
    | some (.list xs) => 0 ≤ k ∧ k < xs.length ∧ k < lim ∧ Q (H.upd p (.list (xs.set k.toNat v)))
    | some (.dict es) => es.length ≤ lim ∧ Q (H.upd p (.dict (dset es k v)))
    | _ => False
  | _, _ => False
noncomputable def delIdxW (o i : V) (H : Heap) (Q : Heap → Prop) : Prop :=
  match o, i with
  | .ref p, .int k => match H p with
    | some (.list xs) => 0 ≤ k ∧ k < xs.length ∧ xs.length ≤ lim ∧ Q (H.upd p (.list (xs.eraseIdx k.toNat)))
    | _ => False
  | _, _ => False
noncomputable def appendW (o v : V) (H : Heap) (Q : Heap → Prop) : Prop :=
  match o with
  | .ref p => match H p with
    | some (.list xs) => xs.length ≤ lim ∧ Q (H.upd p (.list (xs ++ [v])))
    | _ => False
  | _ => False
noncomputable def isCanW (vs : List V) (H : Heap) (Q : PV) : Prop :=
  match vs with
  | [.ref a] => (match H a with
    | some (.inst 1 _) => Q (.bool true) H
    | _ => False)
  | _ => False
noncomputable def nanW (vs : List V) (H : Heap) (Q : PV) : Prop :=
  match vs with
  | [] => Q (.flt qnan) H
  | _ => False
noncomputable def degsL : List V := [.int 2, .int 2, .int 3, .int 4, .flt f225, .flt f225, .flt f225, .flt f275]
noncomputable def roomsL : List V := [.int 64, .int 64, .int 64, .int 64, .int 3, .int 3, .int 3, .int 4]
noncomputable def gList : Prim → List V
  | .degs => degsL
  | .rooms => roomsL
  | _ => []
noncomputable def tabW (xs vs : List V) (H : Heap) (Q : PV) : Prop :=
  match vs with
  | [.int i] => 0 ≤ i ∧ i < 2 ^ 60 ∧ ∃ v, xs[i.toNat]? = some v ∧ Q v H
  | _ => False
noncomputable def ints? : List V → Option (List Int)
  | [] => some []
  | .int i :: r => (ints? r).map (i :: ·)
  | _ => none
noncomputable def lenW (vs : List V) (H : Heap) (Q : PV) : Prop :=
  match vs with
  | [.ref a] => (match H a with
    | some x => (∃ xs, x.seq? = some xs ∧ Q (.int xs.length) H)
    | none => False)
  | _ => False
noncomputable def int1W (f : Int → V) (vs : List V) (H : Heap) (Q : PV) : Prop :=
  match vs with
  | [.int i] => Q (f i) H
  | _ => False
noncomputable def int2W (f : Int → Int → V) (vs : List V) (H : Heap) (Q : PV) : Prop :=
  match vs with
  | [.int i, .int j] => Q (f i j) H
  | _ => False
noncomputable def lstW (vs : List V) (H : Heap) (Q : PV) : Prop :=
  match vs with
  | [.ref a] => (match H a with
    | some x => x.lst?.isSome = true ∧ Q (.bool true) H
    | none => False)
  | _ => False
noncomputable def tupW (vs : List V) (H : Heap) (Q : PV) : Prop :=
  match vs with
  | [.ref a] => (match H a with
    | some (.tup _) => Q (.bool true) H
    | _ => False)
  | _ => False
noncomputable def bool1W (vs : List V) (H : Heap) (Q : PV) : Prop :=
  match vs with
  | [.bool _] => Q (.bool true) H
  | _ => False
noncomputable def copyW (vs : List V) (H : Heap) (Q : PV) : Prop :=
  match vs with
  | [.ref a] => (match H a with
    | some x => ∃ xs, x.seq? = some xs ∧ xs.length ≤ lim ∧ allocW (.list xs) H Q
    | none => False)
  | _ => False
noncomputable def sumZ : List Int → Int
  | [] => 0
  | x :: r => x + sumZ r
noncomputable def sumW (vs : List V) (H : Heap) (Q : PV) : Prop :=
  match vs with
  | [.ref a] => (match H a with
    | some x => ∃ ns, x.lst? = some (ns.map V.int) ∧ Q (.int (sumZ ns)) H
    | none => False)
  | _ => False
noncomputable def O.keys? : O → Option (List V)
  | .dict es => some (es.map fun e => .int e.1)
  | x => x.lst?
noncomputable def sortW (vs : List V) (H : Heap) (Q : PV) : Prop :=
  match vs with
  | [.ref a] => (match H a with
    | some x => (∃ ns, x.keys? = some (ns.map V.int) ∧ ns.length < 64 ∧ ∀ ks : List Int, ks.Perm ns → ks.Pairwise (· ≤ ·) → allocW (.list (ks.map V.int)) H Q)
    | none => False)
  | _ => False
noncomputable def lrangeW (vs : List V) (H : Heap) (Q : PV) : Prop :=
  match vs with
  | [.int n] => n ≤ lim ∧ 0 ≤ n ∧ allocW (.list ((List.range n.toNat).map fun i : Nat => V.int i)) H Q
  | _ => False
noncomputable def primW (p : Prim) (vs : List V) (H : Heap) (Q : PV) : Prop :=
  match p with
  | .len => lenW vs H Q
  | .abs => int1W (fun i => .int i.natAbs) vs H Q
  | .min => int2W (fun i j => .int (if j < i then j else i)) vs H Q
  | .max => int2W (fun i j => .int (if i < j then j else i)) vs H Q
  | .tyList => lstW vs H Q
  | .isList => lstW vs H Q
  | .tyTuple => tupW vs H Q
  | .tyInt => int1W (fun _ => .bool true) vs H Q
  | .tyBool => bool1W vs H Q
  | .isBool => bool1W vs H Q
  | .list => copyW vs H Q
  | .sum => sumW vs H Q
  | .sorted => sortW vs H Q
  | .isCanopy => isCanW vs H Q
  | _ => False
noncomputable def rngList (a n : Int) : List V := (List.range (n - a).toNat).map fun i : Nat => V.int (a + i)
noncomputable def rngStep (a n st : Int) : List V := (List.range ((n - a + (st - 1)) / st).toNat).map fun i : Nat => V.int (a + i * st)
noncomputable def rngDown (a n : Int) : List V := (List.range (a - n).toNat).map fun i : Nat => V.int (a - i)
noncomputable def bindTo (tgt : List Nat) (x : V) (H : Heap) (m : Loc) (Q : Loc → Prop) : Prop :=
  match tgt with
  | [i] => Q (m.set i (some x))
  | [i, j] => match x with
    | .ref p => match H p with
      | some (.tup [u, v]) => Q ((m.set i (some u)).set j (some v))
      | _ => False
    | _ => False
  | _ => False
noncomputable def setAll (m : Loc) : List Nat → List V → Loc
  | i :: is, v :: vs => setAll (m.set i (some v)) is vs
  | _, _ => m
noncomputable def unpW (tgt : List Nat) (x : V) (H : Heap) (m : Loc) (Q : Loc → Prop) : Prop :=
  match x with
  | .ref p => match H p with
    | some (.tup vs) => vs.length = tgt.length ∧ Q (setAll m tgt vs)
    | _ => False
  | _ => False
noncomputable def bindNew (k : Nat) (x : V) (_H : Heap) (m : Loc) (Q : Loc → Prop) : Prop :=
  match k with
  | 1 => Q (m ++ [some x])
  | _ => False
noncomputable def compW (elt : Loc → Heap → PV → Prop) (cond : Loc → Heap → (Bool → Heap → Prop) → Prop) (k : Nat) (ok : Heap → Prop) (m : Loc) : List V → List V → Heap → PV → Prop
  | [], acc, H, Q => ok H ∧ acc.length ≤ lim ∧ allocW (.list acc) H Q
  | x :: xs, acc, H, Q => ok H ∧ acc.length ≤ lim ∧ bindNew k x H m fun m' => cond m' H fun b H =>
      if b then elt m' H fun v H => ∃ H', H'.le H ∧ compW elt cond k ok m xs (acc ++ [v]) H' Q
      else compW elt cond k ok m xs acc H Q
noncomputable def varW (o : Option (Option V)) (Q : V → Prop) : Prop :=
  match o with
  | some (some v) => Q v
  | _ => False
noncomputable def methCls (f : Nat) : Nat := if f ≤ 4 then 0 else 1
noncomputable def isInst (H : Heap) (c : Nat) : V → Prop
  | .ref p => (match H p with | some (.inst c' _) => c' = c | _ => False)
  | _ => False
noncomputable def rng1W (x : V) (Q : List V → Prop) : Prop :=
  match x with
  | .int n => mid n ∧ Q (rngList 0 n)
  | _ => False
noncomputable def rng2W (down : Bool) (x y : V) (Q : List V → Prop) : Prop :=
  match x, y with
  | .int a, .int b => mid a ∧ mid b ∧ Q (if down then rngDown a b else rngList a b)
  | _, _ => False
noncomputable def rngSW (x y z : V) (Q : List V → Prop) : Prop :=
  match x, y, z with
  | .int a, .int b, .int c => mid a ∧ mid b ∧ 0 < c ∧ c ≤ 1000000 ∧ Q (rngStep a b c)
  | _, _, _ => False
noncomputable def ofW (x : V) (H : Heap) (Q : List V → (Heap → Prop) → Prop) : Prop :=
  match x with
  | .ref p => (match H p with | some o => ∃ xs, o.lst? = some xs ∧ Q xs (fun H => H p = some o) | none => False)
  | _ => False
noncomputable def isLst (H : Heap) : V → Prop
  | .ref p => (match H p with | some (.list _) => True | _ => False)
  | _ => False
noncomputable def dropW (v : V) (P : Prop) : Prop :=
  match v with
  | .ref _ => False
  | _ => P
noncomputable def thenW (k : Loc → Heap → Prop) (Q : PS) : PS := fun fl m H =>
  match fl with
  | .next => k m H
  | fl => Q fl m H
noncomputable def turnW (k : Loc → Heap → Prop) (Q : PS) : PS := fun fl m H => ∃ H', H'.le H ∧
  match fl with
  | .next | .cont => k m H'
  | .brk => Q .next m H'
  | .ret v => Q (.ret v) m H'
noncomputable def forW (body : Loc → Heap → PS → Prop) (tgt : List Nat) (ok : Heap → Prop) : List V → Loc → Heap → PS → Prop
  | [], m, H, Q => ok H ∧ Q .next m H
  | x :: xs, m, H, Q => ok H ∧ bindTo tgt x H m fun m => body m H (turnW (fun m H => forW body tgt ok xs m H Q) Q)
noncomputable def whileW (test : Loc → Heap → (Bool → Heap → Prop) → Prop) (body : Loc → Heap → PS → Prop) (m : Loc) (H : Heap) (Q : PS) : Prop :=
  ∃ (I : Nat → Loc → Heap → Prop) (n : Nat), I n m H ∧ ∀ n m H, I n m H → test m H fun b H =>
    if b then body m H (turnW (fun m H => ∃ k, k < n ∧ I k m H) Q) else Q .next m H
noncomputable abbrev Orac := Nat → List V → Heap → PV → Prop
noncomputable def boolW (v : V) (Q : Bool → Prop) : Prop :=
  match v with
  | .bool r => Q r
  | _ => False
noncomputable abbrev outW (t : Bool) (v : V) (H : Heap) (Q : PV) : Prop :=
  match t with
  | true => truthW v H fun r => Q (.bool r) H
  | false => Q v H
noncomputable def notW (t : Bool) (v : V) (H : Heap) (Q : PV) : Prop :=
  match t with
  | true => boolW v fun r => Q (.bool (!r)) H
  | false => truthW v H fun r => Q (.bool (!r)) H
noncomputable def andW (t : Bool) (v : V) (H : Heap) (k : Prop) (Q : PV) : Prop :=
  match t with
  | true => boolW v fun r => if r then k else Q (.bool false) H
  | false => truthW v H fun r => if r then k else Q v H
noncomputable def orW (t : Bool) (v : V) (H : Heap) (k : Prop) (Q : PV) : Prop :=
  match t with
  | true => boolW v fun r => if r then Q (.bool true) H else k
  | false => truthW v H fun r => if r then Q v H else k
section
variable (Φ : Orac)
mutual
noncomputable def wpG : E → Bool → Loc → Heap → PV → Prop
  | .var i, t, m, H, Q => varW m[i]? fun v => outW t v H Q
  | .lit v, t, _, H, Q => outW t v H Q
  | .bop o a b, t, m, H, Q => wpG a false m H fun x H => wpG b false m H fun y H => bopW o x y H fun v H => outW t v H Q
  | .neg a, t, m, H, Q => wpG a false m H fun x H => negW x H fun v H => outW t v H Q
  | .cmp o a b, _, m, H, Q => wpG a false m H fun x H => wpG b false m H fun y H => cmpW o x y H fun r => Q (.bool r) H
  | .cmp2 o1 o2 a b c, _, m, H, Q => wpG a false m H fun x H => wpG b false m H fun y H => cmpW o1 x y H fun r =>
      if r then wpG c false m H fun z H => cmpW o2 y z H fun r => Q (.bool r) H else Q (.bool false) H
  | .and a b, t, m, H, Q => wpG a t m H fun x H => andW t x H (wpG b t m H Q) Q
  | .or a b, t, m, H, Q => wpG a t m H fun x H => orW t x H (wpG b t m H Q) Q
  | .not a, t, m, H, Q => wpG a t m H fun x H => notW t x H Q
  | .call f args, t, m, H, Q => wpEs args m H fun vs H => Φ f vs H fun v H => outW t v H Q
  | .meth f self args, t, m, H, Q => wpG self false m H fun x H => isInst H (methCls f) x ∧ wpEs args m H fun vs H => Φ f (x :: vs) H fun v H => outW t v H Q
  | .new c args, t, m, H, Q => wpEs args m H fun vs H => ∀ a, H a = none → Φ c (.ref a :: vs) (H.upd a (.inst c [])) fun r H => r = .none ∧ outW t (.ref a) H Q
  | .prim p args, t, m, H, Q => wpEs args m H fun vs H => primW p vs H fun v H => outW t v H Q
  | .attr o i, t, m, H, Q => wpG o false m H fun x H => attrW x i H fun v => outW t v H Q
  | .idx o i, t, m, H, Q => wpG o false m H fun x H => wpG i false m H fun y H => idxW x y H fun v => outW t v H Q
  | .slice o lo hi, t, m, H, Q => wpG o false m H fun x H => wpO lo m H fun l H => wpO hi m H fun h H => sliceW x l h H fun v H => outW t v H Q
  | .list es, t, m, H, Q => wpEs es m H fun vs H => allocW (.list vs) H fun v H => outW t v H Q
  | .tup es, t, m, H, Q => wpEs es m H fun vs H => allocW (.tup vs) H fun v H => outW t v H Q
  | .dict0, t, _, H, Q => allocW (.dict []) H fun v H => outW t v H Q
  | .comp elt k src cond, t, m, H, Q => wpSrc src m H fun xs ok H => compW (wpG elt false) (fun m H Q => wpC cond m H Q) k ok m xs [] H fun v H => outW t v H Q
noncomputable def wpO : Option E → Loc → Heap → (Option V → Heap → Prop) → Prop
  | none, _, H, Q => Q none H
  | some e, m, H, Q => wpG e false m H fun v H => Q (some v) H
noncomputable def wpEs : List E → Loc → Heap → (List V → Heap → Prop) → Prop
  | [], _, H, Q => Q [] H
  | e :: es, m, H, Q => wpG e false m H fun v H => wpEs es m H fun vs H => Q (v :: vs) H
noncomputable def wpSrc : Src → Loc → Heap → (List V → (Heap → Prop) → Heap → Prop) → Prop
  | .rng1 n, m, H, Q => wpG n false m H fun x H => rng1W x fun xs => Q xs (fun _ => True) H
  | .rng2 a b, m, H, Q => wpG a false m H fun x H => wpG b false m H fun y H => rng2W false x y fun xs => Q xs (fun _ => True) H
  | .rng3 a b down, m, H, Q => wpG a false m H fun x H => wpG b false m H fun y H => rng2W down x y fun xs => Q xs (fun _ => True) H
  | .rngS a b c, m, H, Q => wpG a false m H fun x H => wpG b false m H fun y H => wpG c false m H fun z H => rngSW x y z fun xs => Q xs (fun _ => True) H
  | .of e, m, H, Q => wpG e false m H fun x H => ofW x H fun xs ok => Q xs ok H
  | .zip _ _, _, _, _ => False
noncomputable def wpC : Option E → Loc → Heap → (Bool → Heap → Prop) → Prop
  | none, _, H, Q => Q true H
  | some e, m, H, Q => wpG e true m H fun v H => boolW v fun r => Q r H
end
noncomputable abbrev wpE (e : E) (m : Loc) (H : Heap) (Q : PV) : Prop := wpG Φ e false m H Q
noncomputable def wpT (e : E) (m : Loc) (H : Heap) (Q : Bool → Heap → Prop) : Prop := wpG Φ e true m H fun v H => boolW v fun r => Q r H
mutual
noncomputable def wpS : S → Loc → Heap → PS → Prop
  | .assign i e, m, H, Q => wpE Φ e m H fun v H => Q .next (m.set i (some v)) H
  | .unpack is e, m, H, Q => wpE Φ e m H fun v H => unpW is v H m fun m => Q .next m H
  | .setAttr o i e, m, H, Q => wpE Φ e m H fun v H => wpE Φ o m H fun x H => setAttrW x i v H fun H => Q .next m H
  | .setIdx o i e, m, H, Q => wpE Φ e m H fun v H => wpE Φ o m H fun x H => wpE Φ i m H fun y H => setIdxW x y v H fun H => Q .next m H
  | .delIdx o i, m, H, Q => wpE Φ o m H fun x H => wpE Φ i m H fun y H => delIdxW x y H fun H => Q .next m H
  | .append o e, m, H, Q => wpE Φ o m H fun x H => isLst H x ∧ wpE Φ e m H fun v H => appendW x v H fun H => Q .next m H
  | .expr e, m, H, Q => wpE Φ e m H fun v H => dropW v (Q .next m H)
  | .ret none, m, H, Q => Q (.ret .none) m H
  | .ret (some e), m, H, Q => wpE Φ e m H fun v H => Q (.ret v) m H
  | .ite c a b, m, H, Q => wpT Φ c m H fun r H => if r then wpSs a m H Q else wpSs b m H Q
  | .whl c b, m, H, Q => whileW (wpT Φ c) (wpSs b) m H Q
  | .for1 tgt src b, m, H, Q => wpSrc Φ src m H fun xs ok H => forW (wpSs b) tgt ok xs m H Q
  | .brk, m, H, Q => Q .brk m H
  | .pass, m, H, Q => Q .next m H
noncomputable def wpSs : List S → Loc → Heap → PS → Prop
  | [], m, H, Q => Q .next m H
  | s :: r, m, H, Q => wpS s m H (thenW (fun m H => wpSs r m H Q) Q)
end
end
structure Fn where
  np : Nat
  nv : Nat
  body : List S
noncomputable def Fn.start (fn : Fn) (vs : List V) : Loc := vs.map some ++ List.replicate (fn.nv - fn.np) none
noncomputable def Flow.val : Flow → V
  | .ret v => v
  | _ => .none
structure Sys (D : Nat → Option Fn) where
  Φ : Orac
  call : ∀ {f fn vs H Q}, D f = some fn → vs.length = fn.np →
    wpSs Φ fn.body (fn.start vs) H (fun fl _ H' => ∃ H'', H''.le H' ∧ Q fl.val H'') → Φ f vs H Q
section
variable {Φ : Orac} {m : Loc} {H : Heap}
theorem w_var {i Q} : wpE Φ (.var i) m H Q = (varW m[i]? fun v => Q v H) := rfl
theorem w_lit {v Q} : wpE Φ (.lit v) m H Q = Q v H := rfl
theorem w_bop {o a b Q} : wpE Φ (.bop o a b) m H Q = wpE Φ a m H fun x H => wpE Φ b m H fun y H => bopW o x y H Q := rfl
theorem w_neg {a Q} : wpE Φ (.neg a) m H Q = wpE Φ a m H fun x H => negW x H Q := rfl
theorem w_cmp {o a b Q} : wpE Φ (.cmp o a b) m H Q = wpE Φ a m H fun x H => wpE Φ b m H fun y H => cmpW o x y H fun r => Q (.bool r) H := rfl
theorem w_cmp2 {o1 o2 a b c Q} : wpE Φ (.cmp2 o1 o2 a b c) m H Q = wpE Φ a m H fun x H => wpE Φ b m H fun y H => cmpW o1 x y H fun r =>
      if r then wpE Φ c m H fun z H => cmpW o2 y z H fun r => Q (.bool r) H else Q (.bool false) H := rfl
theorem w_and {a b Q} : wpE Φ (.and a b) m H Q = wpE Φ a m H fun x H => truthW x H fun r => if r then wpE Φ b m H Q else Q x H := rfl
theorem w_or {a b Q} : wpE Φ (.or a b) m H Q = wpE Φ a m H fun x H => truthW x H fun r => if r then Q x H else wpE Φ b m H Q := rfl
theorem w_not {a Q} : wpE Φ (.not a) m H Q = wpE Φ a m H fun x H => truthW x H fun r => Q (.bool (!r)) H := rfl
theorem w_call {f args Q} : wpE Φ (.call f args) m H Q = wpEs Φ args m H fun vs H => Φ f vs H Q := rfl
theorem w_meth {f self args Q} : wpE Φ (.meth f self args) m H Q = wpE Φ self m H fun x H => isInst H (methCls f) x ∧ wpEs Φ args m H fun vs H => Φ f (x :: vs) H Q := rfl
theorem w_new {c args Q} : wpE Φ (.new c args) m H Q = wpEs Φ args m H fun vs H => ∀ a, H a = none → Φ c (.ref a :: vs) (H.upd a (.inst c [])) fun r H => r = .none ∧ Q (.ref a) H := rfl
theorem w_prim {p args Q} : wpE Φ (.prim p args) m H Q = wpEs Φ args m H fun vs H => primW p vs H Q := rfl
theorem w_attr {o i Q} : wpE Φ (.attr o i) m H Q = wpE Φ o m H fun x H => attrW x i H fun v => Q v H := rfl
theorem w_idx {o i Q} : wpE Φ (.idx o i) m H Q = wpE Φ o m H fun x H => wpE Φ i m H fun y H => idxW x y H fun v => Q v H := rfl
theorem w_slice {o lo hi Q} : wpE Φ (.slice o lo hi) m H Q = wpE Φ o m H fun x H => wpO Φ lo m H fun l H => wpO Φ hi m H fun h H => sliceW x l h H Q := rfl
theorem w_list {es Q} : wpE Φ (.list es) m H Q = wpEs Φ es m H fun vs H => allocW (.list vs) H Q := rfl
theorem w_tup {es Q} : wpE Φ (.tup es) m H Q = wpEs Φ es m H fun vs H => allocW (.tup vs) H Q := rfl
theorem w_dict0 {Q} : wpE Φ .dict0 m H Q = allocW (.dict []) H Q := rfl
theorem w_comp {elt k src cond Q} : wpE Φ (.comp elt k src cond) m H Q = wpSrc Φ src m H fun xs ok H => compW (wpE Φ elt) (wpC Φ cond) k ok m xs [] H Q := rfl
theorem w_onone {Q} : wpO Φ none m H Q = Q none H := rfl
theorem w_osome {e Q} : wpO Φ (some e) m H Q = wpE Φ e m H fun v H => Q (some v) H := rfl
theorem w_enil {Q} : wpEs Φ [] m H Q = Q [] H := rfl
theorem w_econs {e es Q} : wpEs Φ (e :: es) m H Q = wpE Φ e m H fun v H => wpEs Φ es m H fun vs H => Q (v :: vs) H := rfl
theorem w_rng1 {n Q} : wpSrc Φ (.rng1 n) m H Q = wpE Φ n m H fun x H => rng1W x fun xs => Q xs (fun _ => True) H := rfl
theorem w_rng2 {a b Q} : wpSrc Φ (.rng2 a b) m H Q = wpE Φ a m H fun x H => wpE Φ b m H fun y H => rng2W false x y fun xs => Q xs (fun _ => True) H := rfl
theorem w_rng3 {a b d Q} : wpSrc Φ (.rng3 a b d) m H Q = wpE Φ a m H fun x H => wpE Φ b m H fun y H => rng2W d x y fun xs => Q xs (fun _ => True) H := rfl
theorem w_rngS {a b c Q} : wpSrc Φ (.rngS a b c) m H Q = wpE Φ a m H fun x H => wpE Φ b m H fun y H => wpE Φ c m H fun z H => rngSW x y z fun xs => Q xs (fun _ => True) H := rfl
theorem w_of {e Q} : wpSrc Φ (.of e) m H Q = wpE Φ e m H fun x H => ofW x H fun xs ok => Q xs ok H := rfl
theorem w_cnone {Q} : wpC Φ none m H Q = Q true H := rfl
theorem w_csome {e Q} : wpC Φ (some e) m H Q = wpT Φ e m H Q := rfl
theorem t_not {a Q} : wpT Φ (.not a) m H Q = wpT Φ a m H fun r H => Q (!r) H := rfl
theorem t_and {a b Q} : wpT Φ (.and a b) m H Q = wpT Φ a m H fun r H => if r then wpT Φ b m H Q else Q false H := rfl
theorem t_or {a b Q} : wpT Φ (.or a b) m H Q = wpT Φ a m H fun r H => if r then Q true H else wpT Φ b m H Q := rfl
theorem t_cmp {o a b Q} : wpT Φ (.cmp o a b) m H Q = wpE Φ a m H fun x H => wpE Φ b m H fun y H => cmpW o x y H fun r => Q r H := rfl
theorem t_cmp2 {o1 o2 a b c Q} : wpT Φ (.cmp2 o1 o2 a b c) m H Q = wpE Φ a m H fun x H => wpE Φ b m H fun y H => cmpW o1 x y H fun r =>
      if r then wpE Φ c m H fun z H => cmpW o2 y z H fun r => Q r H else Q false H := rfl
theorem t_var {i Q} : wpT Φ (.var i) m H Q = wpE Φ (.var i) m H fun v H => truthW v H fun r => Q r H := rfl
theorem t_lit {v Q} : wpT Φ (.lit v) m H Q = wpE Φ (.lit v) m H fun v H => truthW v H fun r => Q r H := rfl
theorem t_call {f as Q} : wpT Φ (.call f as) m H Q = wpE Φ (.call f as) m H fun v H => truthW v H fun r => Q r H := rfl
theorem t_meth {f o as Q} : wpT Φ (.meth f o as) m H Q = wpE Φ (.meth f o as) m H fun v H => truthW v H fun r => Q r H := rfl
theorem t_idx {o i Q} : wpT Φ (.idx o i) m H Q = wpE Φ (.idx o i) m H fun v H => truthW v H fun r => Q r H := rfl
theorem t_prim {p as Q} : wpT Φ (.prim p as) m H Q = wpE Φ (.prim p as) m H fun v H => truthW v H fun r => Q r H := rfl
theorem t_bop {o a b Q} : wpT Φ (.bop o a b) m H Q = wpE Φ (.bop o a b) m H fun v H => truthW v H fun r => Q r H := rfl
variable {Q : PS}
theorem s_assign {i e} : wpS Φ (.assign i e) m H Q = wpE Φ e m H fun v H => Q .next (m.set i (some v)) H := rfl
theorem s_unpack {is e} : wpS Φ (.unpack is e) m H Q = wpE Φ e m H fun v H => unpW is v H m fun m => Q .next m H := rfl
theorem s_setAttr {o i e} : wpS Φ (.setAttr o i e) m H Q = wpE Φ e m H fun v H => wpE Φ o m H fun x H => setAttrW x i v H fun H => Q .next m H := rfl
theorem s_setIdx {o i e} : wpS Φ (.setIdx o i e) m H Q = wpE Φ e m H fun v H => wpE Φ o m H fun x H => wpE Φ i m H fun y H => setIdxW x y v H fun H => Q .next m H := rfl
theorem s_delIdx {o i} : wpS Φ (.delIdx o i) m H Q = wpE Φ o m H fun x H => wpE Φ i m H fun y H => delIdxW x y H fun H => Q .next m H := rfl
theorem s_append {o e} : wpS Φ (.append o e) m H Q = wpE Φ o m H fun x H => isLst H x ∧ wpE Φ e m H fun v H => appendW x v H fun H => Q .next m H := rfl
theorem s_expr {e} : wpS Φ (.expr e) m H Q = wpE Φ e m H fun v H => dropW v (Q .next m H) := rfl
theorem s_ret0 : wpS Φ (.ret none) m H Q = Q (.ret .none) m H := rfl
theorem s_ret {e} : wpS Φ (.ret (some e)) m H Q = wpE Φ e m H fun v H => Q (.ret v) m H := rfl
theorem s_ite {c a b} : wpS Φ (.ite c a b) m H Q = wpT Φ c m H fun r H => if r then wpSs Φ a m H Q else wpSs Φ b m H Q := rfl
theorem s_whl {c b} : wpS Φ (.whl c b) m H Q = whileW (wpT Φ c) (wpSs Φ b) m H Q := rfl
theorem s_for {t src b} : wpS Φ (.for1 t src b) m H Q = wpSrc Φ src m H fun xs ok H => forW (wpSs Φ b) t ok xs m H Q := rfl
theorem s_brk : wpS Φ .brk m H Q = Q .brk m H := rfl
theorem s_pass : wpS Φ .pass m H Q = Q .next m H := rfl
theorem s_nil : wpSs Φ [] m H Q = Q .next m H := rfl
theorem s_cons {s r} : wpSs Φ (s :: r) m H Q = wpS Φ s m H (thenW (fun m H => wpSs Φ r m H Q) Q) := rfl
end
end ML
namespace ML
variable {Φ : Orac} {m : Loc} {H : Heap}
theorem Heap.le_refl (H : Heap) : H.le H := fun _ _ h => h
theorem Heap.le_trans {H1 H2 H3 : Heap} (a : H1.le H2) (b : H2.le H3) : H1.le H3 := fun x o h => b x o (a x o h)
theorem upd_self {H : Heap} {a : Nat} {o : O} : (H.upd a o) a = some o := by simp [Heap.upd]
theorem upd_ne {H : Heap} {a p : Nat} {o : O} (h : p ≠ a) : (H.upd a o) p = H p := by simp [Heap.upd, h]
theorem upd_fresh {H : Heap} {a p : Nat} {o o' : O} (ha : H a = none) (hp : H p = some o') : (H.upd a o) p = some o' := by
  rw [upd_ne (fun e => by rw [e, ha] at hp; cases hp)]; exact hp
theorem ne_of_look {H : Heap} {a p : Nat} {o : O} (ha : H a = none) (hp : H p = some o) : p ≠ a := fun e => by rw [e, ha] at hp; cases hp
theorem Heap.le_upd {H : Heap} {a : Nat} {o : O} (ha : H a = none) : H.le (H.upd a o) := fun _ _ h => upd_fresh ha h
section
variable {Φ : Orac} {m : Loc} {H : Heap} {Q : PV}
theorem r_var {i v} (h : m[i]? = some (some v)) (k : Q v H) : wpE Φ (.var i) m H Q := by rw [w_var, h]; exact k
theorem r_lit {v} (k : Q v H) : wpE Φ (.lit v) m H Q := by rw [w_lit]; exact k
theorem r_bop {o a b} (k : wpE Φ a m H fun x H => wpE Φ b m H fun y H => bopW o x y H Q) : wpE Φ (.bop o a b) m H Q := by rw [w_bop]; exact k
theorem r_prim {p args} (k : wpEs Φ args m H fun vs H => primW p vs H Q) : wpE Φ (.prim p args) m H Q := by rw [w_prim]; exact k
theorem r_attr {o i} (k : wpE Φ o m H fun x H => attrW x i H fun v => Q v H) : wpE Φ (.attr o i) m H Q := by rw [w_attr]; exact k
theorem r_idx {o i} (k : wpE Φ o m H fun x H => wpE Φ i m H fun y H => idxW x y H fun v => Q v H) : wpE Φ (.idx o i) m H Q := by rw [w_idx]; exact k
theorem r_tup {es} (k : wpEs Φ es m H fun vs H => allocW (.tup vs) H Q) : wpE Φ (.tup es) m H Q := by rw [w_tup]; exact k
theorem r_comp {elt n src cond} (k : wpSrc Φ src m H fun xs ok H => compW (wpE Φ elt) (wpC Φ cond) n ok m xs [] H Q) : wpE Φ (.comp elt n src cond) m H Q := by rw [w_comp]; exact k
theorem r_enil {Q : List V → Heap → Prop} (k : Q [] H) : wpEs Φ [] m H Q := by rw [w_enil]; exact k
theorem r_econs {e es} {Q : List V → Heap → Prop} (k : wpE Φ e m H fun v H => wpEs Φ es m H fun vs H => Q (v :: vs) H) : wpEs Φ (e :: es) m H Q := by rw [w_econs]; exact k
section
variable {Q : List V → (Heap → Prop) → Heap → Prop}
theorem r_of {e} (k : wpE Φ e m H fun x H => ofW x H fun xs ok => Q xs ok H) : wpSrc Φ (.of e) m H Q := by rw [w_of]; exact k
end
section
variable {Q : Bool → Heap → Prop}
theorem r_cnone (k : Q true H) : wpC Φ none m H Q := by rw [w_cnone]; exact k
theorem r_csome {e} (k : wpT Φ e m H Q) : wpC Φ (some e) m H Q := by rw [w_csome]; exact k
theorem q_not {a} (k : wpT Φ a m H fun r H => Q (!r) H) : wpT Φ (.not a) m H Q := by rw [t_not]; exact k
theorem q_and {a b} (k : wpT Φ a m H fun r H => if r then wpT Φ b m H Q else Q false H) : wpT Φ (.and a b) m H Q := by rw [t_and]; exact k
theorem q_cmp {o a b} (k : wpE Φ a m H fun x H => wpE Φ b m H fun y H => cmpW o x y H fun r => Q r H) : wpT Φ (.cmp o a b) m H Q := by rw [t_cmp]; exact k
theorem q_meth {f o as} (k : wpE Φ (.meth f o as) m H fun v H => truthW v H fun r => Q r H) : wpT Φ (.meth f o as) m H Q := by rw [t_meth]; exact k
end
section
variable {Q : PS}
end
theorem v_subI {x y} (k : Q (.int (x - y)) H) : bopW .sub (.int x) (.int y) H Q := k
theorem v_mulI {x y} (h : mid x ∨ mid y) (k : Q (.int (x * y)) H) : bopW .mul (.int x) (.int y) H Q := ⟨h, k⟩
theorem v_fdivI {x y} (h : 0 < y) (h' : y < 2 ^ 30) (k : Q (.int (x / y)) H) : bopW .fdiv (.int x) (.int y) H Q := ⟨h, h', k⟩
theorem v_modI {x y} (h : 0 < y) (k : Q (.int (x % y)) H) : bopW .mod (.int x) (.int y) H Q := ⟨h, k⟩
theorem v_addL {p q xs ys} (h1 : H p = some (.list xs)) (h2 : H q = some (.list ys)) (hl : xs.length + ys.length ≤ lim) (k : ∀ a, H a = none → Q (.ref a) (H.upd a (.list (xs ++ ys)))) :
    bopW .add (.ref p) (.ref q) H Q := by show addL p q H Q; unfold addL; simp only [h1, h2]; exact ⟨hl, k⟩
theorem v_alloc {o} (k : ∀ a, H a = none → Q (.ref a) (H.upd a o)) : allocW o H Q := k
theorem v_attr {p i c fs v} {Q : V → Prop} (h : H p = some (.inst c fs)) (hl : fs.lookup i = some v) (k : Q v) : attrW (.ref p) i H Q := by unfold attrW; simp only [h]; exact ⟨v, hl, k⟩
theorem v_setAttr {p i c fs fs' v} {Q : Heap → Prop} (h : H p = some (.inst c fs)) (hn : fs.length ≤ 100) (hf : setF fs i v = fs') (k : Q (H.upd p (.inst c fs'))) : setAttrW (.ref p) i v H Q := by subst hf; unfold setAttrW; simp only [h]; exact ⟨hn, k⟩
theorem v_idx {p x xs v} {k : Int} {Q : V → Prop} (h : H p = some x) (hs : x.seq? = some xs) (h0 : 0 ≤ k) (h1 : k < lim) (hv : xs[k.toNat]? = some v) (K : Q v) : idxW (.ref p) (.int k) H Q := by
  unfold idxW; simp only [h]
  cases x with
  | dict => cases hs
  | inst => cases hs
  | _ => exact ⟨h0, h1, xs, v, hs, hv, K⟩
theorem v_idxD {p es v} {k : Int} {Q : V → Prop} (h : H p = some (.dict es)) (hv : es.lookup k = some v) (K : Q v) : idxW (.ref p) (.int k) H Q := by
  unfold idxW; simp only [h]; exact ⟨v, hv, K⟩
theorem v_setD {p es v} {i : Int} {Q : Heap → Prop} (h : H p = some (.dict es)) (hz : es.length ≤ lim) (k : Q (H.upd p (.dict (dset es i v)))) : setIdxW (.ref p) (.int i) v H Q := by unfold setIdxW; simp only [h]; exact ⟨hz, k⟩
theorem v_copy {p x xs} (h : H p = some x) (hs : x.seq? = some xs) (hz : xs.length ≤ lim) (k : ∀ a, H a = none → Q (.ref a) (H.upd a (.list xs))) : primW .list [.ref p] H Q := by
  show copyW [.ref p] H Q
  unfold copyW; simp only [h]; exact ⟨xs, hs, hz, k⟩
theorem v_sort {p x ns} (h : H p = some x) (hs : x.keys? = some (ns.map V.int)) (hz : ns.length < 64) (k : ∀ ks : List Int, ks.Perm ns → ks.Pairwise (· ≤ ·) → ∀ a, H a = none → Q (.ref a) (H.upd a (.list (ks.map V.int)))) : primW .sorted [.ref p] H Q := by
  show sortW [.ref p] H Q
  unfold sortW; simp only [h]
  exact ⟨ns, hs, hz, k⟩
theorem v_slice {p x xs lo hi l h'} (h : H p = some x) (hs : x.lst? = some xs) (hl : part? lo = some l) (hh : part? hi = some h') (n1 : nonneg? l) (n2 : nonneg? h') (hz : xs.length ≤ lim)
    (k : ∀ a, H a = none → Q (.ref a) (H.upd a (.list (cut xs l h')))) : sliceW (.ref p) lo hi H Q := by
  cases x with
  | tup _ => cases hs
  | _ => unfold sliceW; simp only [hl, hh, h]; exact ⟨n1, n2, xs, hs, hz, k⟩
theorem v_isCan {p fs} (h : H p = some (.inst 1 fs)) (k : Q (.bool true) H) : primW .isCanopy [.ref p] H Q := by show isCanW [.ref p] H Q; unfold isCanW; simp only [h]; exact k
theorem v_append {p xs v} {Q : Heap → Prop} (h : H p = some (.list xs)) (hz : xs.length ≤ lim) (k : Q (H.upd p (.list (xs ++ [v])))) : appendW (.ref p) v H Q := by unfold appendW; simp only [h]; exact ⟨hz, k⟩
theorem v_del {p xs} {i : Int} {Q : Heap → Prop} (h : H p = some (.list xs)) (h0 : 0 ≤ i) (h1 : i < xs.length) (hz : xs.length ≤ lim) (k : Q (H.upd p (.list (xs.eraseIdx i.toNat)))) : delIdxW (.ref p) (.int i) H Q := by unfold delIdxW; simp only [h]; exact ⟨h0, h1, hz, k⟩
theorem v_len {p x xs} (h : H p = some x) (hs : x.seq? = some xs) (k : Q (.int xs.length) H) : primW .len [.ref p] H Q := by
  show lenW [.ref p] H Q
  unfold lenW; simp only [h]
  exact ⟨xs, hs, k⟩
theorem v_isInst {p c fs} (h : H p = some (.inst c fs)) {P : Prop} (k : P) : isInst H c (.ref p) ∧ P := by refine ⟨?_, k⟩; unfold isInst; simp only [h]
theorem v_isLst {p xs} (h : H p = some (.list xs)) {P : Prop} (k : P) : isLst H (.ref p) ∧ P := by refine ⟨?_, k⟩; unfold isLst; simp only [h]
theorem v_eqI {x y} {Q : Bool → Prop} (k : Q (decide (x = y))) : cmpW .eq (.int x) (.int y) H Q := k
theorem v_eqS {x y} {Q : Bool → Prop} (k : Q (decide (x = y))) : cmpW .eq (.str x) (.str y) H Q := k
theorem v_tB {b} {Q : Bool → Prop} (k : Q b) : truthW (.bool b) H Q := k
theorem v_rng1 {n} {Q : List V → Prop} (h : mid n) (k : Q (rngList 0 n)) : rng1W (.int n) Q := ⟨h, k⟩
theorem v_rngD {a b} {Q : List V → Prop} (h : mid a) (h' : mid b) (k : Q (rngDown a b)) : rng2W true (.int a) (.int b) Q := ⟨h, h', k⟩
theorem v_of {p o xs} {Q : List V → (Heap → Prop) → Prop} (h : H p = some o) (hs : o.lst? = some xs) (k : Q xs (fun H => H p = some o)) : ofW (.ref p) H Q := by
  unfold ofW; simp only [h]
  exact ⟨xs, hs, k⟩
theorem v_if {c : Bool} {A B : Prop} (h1 : c = true → A) (h2 : c = false → B) : if c = true then A else B := by cases c with | true => exact h1 rfl | false => exact h2 rfl
end
section
variable {Φ : Orac} {m : Loc} {H : Heap} {Q : PV} {QB : Bool → Prop} {QV : V → Prop} {QS : PS} {QL : List V → Prop} {K : Loc → Heap → Prop} {P : Prop}
theorem z_var {v : V} : varW (some (some v)) QV = QV v := rfl
theorem z_addI {x y} : bopW .add (.int x) (.int y) H Q = Q (.int (x + y)) H := rfl
theorem z_subI {x y} : bopW .sub (.int x) (.int y) H Q = Q (.int (x - y)) H := rfl
theorem z_negI {x} : negW (.int x) H Q = Q (.int (-x)) H := rfl
theorem z_lt {x y} : cmpW .lt (.int x) (.int y) H QB = QB (decide (x < y)) := rfl
theorem z_le {x y} : cmpW .le (.int x) (.int y) H QB = QB (decide (x ≤ y)) := rfl
theorem z_gt {x y} : cmpW .gt (.int x) (.int y) H QB = QB (decide (y < x)) := rfl
theorem z_ge {x y} : cmpW .ge (.int x) (.int y) H QB = QB (decide (y ≤ x)) := rfl
theorem z_eqI {x y} : cmpW .eq (.int x) (.int y) H QB = QB (decide (x = y)) := rfl
theorem z_neI {x y} : cmpW .ne (.int x) (.int y) H QB = QB (decide (x ≠ y)) := rfl
theorem z_eqB {x y} : cmpW .eq (.bool x) (.bool y) H QB = QB (decide (x = y)) := rfl
theorem z_neB {x y} : cmpW .ne (.bool x) (.bool y) H QB = QB (decide (x ≠ y)) := rfl
theorem z_eqS {x y} : cmpW .eq (.str x) (.str y) H QB = QB (decide (x = y)) := rfl
theorem z_neS {x y} : cmpW .ne (.str x) (.str y) H QB = QB (decide (x ≠ y)) := rfl
theorem z_is {x y} : cmpW .is x y H QB = isW x y H QB := rfl
theorem z_isnot {x y} : cmpW .isnot x y H QB = isW x y H fun r => QB (!r) := rfl
theorem z_isNN : isW .none .none H QB = QB true := rfl
theorem z_isBB {a b : Bool} : isW (.bool a) (.bool b) H QB = QB (a == b) := rfl
theorem z_isRN {p} : isW (.ref p) .none H QB = QB false := rfl
theorem z_isIN {p} : isW (.int p) .none H QB = QB false := rfl
theorem z_isBN {p} : isW (.bool p) .none H QB = QB false := rfl
theorem z_isSN {p} : isW (.str p) .none H QB = QB false := rfl
theorem z_isFN {p} : isW (.flt p) .none H QB = QB false := rfl
theorem z_isNB {p} : isW .none (.bool p) H QB = QB false := rfl
theorem z_isRB {p b} : isW (.ref p) (.bool b) H QB = QB false := rfl
theorem z_isIB {p b} : isW (.int p) (.bool b) H QB = QB false := rfl
theorem z_tN : truthW .none H QB = QB false := rfl
theorem z_tB {b} : truthW (.bool b) H QB = QB b := rfl
theorem z_tI {i} : truthW (.int i) H QB = QB (decide (i ≠ 0)) := rfl
theorem z_abs {i} : primW .abs [.int i] H Q = Q (.int i.natAbs) H := rfl
theorem z_min {i j} : primW .min [.int i, .int j] H Q = Q (.int (if j < i then j else i)) H := rfl
theorem z_max {i j} : primW .max [.int i, .int j] H Q = Q (.int (if i < j then j else i)) H := rfl
theorem z_tyInt {i} : primW .tyInt [.int i] H Q = Q (.bool true) H := rfl
theorem z_tyBool {i} : primW .tyBool [.bool i] H Q = Q (.bool true) H := rfl
theorem z_isBool {i} : primW .isBool [.bool i] H Q = Q (.bool true) H := rfl
theorem z_dropN : dropW .none P = P := rfl
theorem z_dropB {b} : dropW (.bool b) P = P := rfl
theorem z_dropI {b} : dropW (.int b) P = P := rfl
theorem z_then : thenW K QS .next m H = K m H := rfl
theorem z_thenB : thenW K QS .brk m H = QS .brk m H := rfl
theorem z_thenR {v} : thenW K QS (.ret v) m H = QS (.ret v) m H := rfl
theorem z_ifT {A B : Prop} : (if true = true then A else B) = A := rfl
theorem z_ifF {A B : Prop} : (if false = true then A else B) = B := rfl
theorem z_new1 {x : V} {Q : Loc → Prop} : bindNew 1 x H m Q = Q (m ++ [some x]) := rfl
theorem z_to1 {i : Nat} {x : V} {Q : Loc → Prop} : bindTo [i] x H m Q = Q (m.set i (some x)) := rfl
theorem z_mapN {α β : Type} {f : α → β} : List.map f [] = [] := rfl
theorem z_mapC {α β : Type} {f : α → β} {a : α} {l : List α} : List.map f (a :: l) = f a :: List.map f l := rfl
theorem z_appN {α : Type} {l : List α} : [] ++ l = l := rfl
theorem z_appC {α : Type} {a : α} {l r : List α} : (a :: l) ++ r = a :: (l ++ r) := rfl
theorem z_set0 {α : Type} {a b : α} {l : List α} : (a :: l).set 0 b = b :: l := rfl
theorem z_setS {α : Type} {a b : α} {l : List α} {n : Nat} : (a :: l).set (n + 1) b = a :: l.set n b := rfl
theorem z_get0 {α : Type} {a : α} {l : List α} : (a :: l)[0]? = some a := rfl
theorem z_getS {α : Type} {a : α} {l : List α} {n : Nat} : (a :: l)[n + 1]? = l[n]? := rfl
theorem z_notT : (!true) = false := rfl
theorem z_notF : (!false) = true := rfl
end
end ML
namespace ML
noncomputable def f_Node_init : Fn := ⟨4, 4, [
  .setAttr (.var 0) 0 (.var 1),
  .setAttr (.var 0) 1 (.var 2),
  .setAttr (.var 0) 2 (.var 3)]⟩
noncomputable def f_Canopy_init : Fn := ⟨2, 2, [
  .setAttr (.var 0) 3 (.var 1),
  .setAttr (.var 0) 4 (.new 0 [(.list []), (.list []), (.list [])]),
  .setAttr (.var 0) 5 (.lit (.int 0))]⟩
noncomputable def f_is_leaf : Fn := ⟨1, 1, [
  .ret (some (.cmp .eq (.prim .len [(.attr (.var 0) 2)]) (.lit (.int 0))))]⟩
noncomputable def f_slot : Fn := ⟨2, 5, [
  .assign 2 (.lit (.int 0)),
  .assign 3 (.prim .len [(.attr (.var 0) 0)]),
  .whl (.cmp .lt (.var 2) (.var 3)) [
    .assign 4 (.bop .fdiv (.bop .add (.var 2) (.var 3)) (.lit (.int 2))),
    .ite (.cmp .lt (.idx (.attr (.var 0) 0) (.var 4)) (.var 1)) [
      .assign 2 (.bop .add (.var 4) (.lit (.int 1)))] [
      .assign 3 (.var 4)]],
  .ret (some (.var 2))]⟩
noncomputable def f_lay : Fn := ⟨4, 4, [
  .setAttr (.var 0) 0 (.var 1),
  .setAttr (.var 0) 1 (.var 2),
  .setAttr (.var 0) 2 (.var 3)]⟩
noncomputable def f_row_with : Fn := ⟨3, 3, [
  .ret (some (.bop .add (.bop .add (.slice (.var 0) none (some (.var 1))) (.list [(.var 2)])) (.slice (.var 0) (some (.bop .add (.var 1) (.lit (.int 1)))) none)))]⟩
noncomputable def f_row_without : Fn := ⟨2, 2, [
  .ret (some (.bop .add (.slice (.var 0) none (some (.var 1))) (.slice (.var 0) (some (.bop .add (.var 1) (.lit (.int 1)))) none)))]⟩
noncomputable def f_adopt : Fn := ⟨3, 3, [
  .setAttr (.var 0) 4 (.var 1),
  .setAttr (.var 0) 5 (.var 2)]⟩
noncomputable def f_lookup : Fn := ⟨2, 4, [
  .assign 2 (.attr (.var 0) 4),
  .whl (.not (.meth 2 (.var 2) [])) [
    .assign 3 (.meth 3 (.var 2) [(.var 1)]),
    .ite (.and (.cmp .lt (.var 3) (.prim .len [(.attr (.var 2) 0)])) (.cmp .eq (.idx (.attr (.var 2) 0) (.var 3)) (.var 1))) [
      .ret (some (.idx (.attr (.var 2) 1) (.var 3)))] [],
    .assign 2 (.idx (.attr (.var 2) 2) (.var 3))],
  .assign 3 (.meth 3 (.var 2) [(.var 1)]),
  .ite (.and (.cmp .lt (.var 3) (.prim .len [(.attr (.var 2) 0)])) (.cmp .eq (.idx (.attr (.var 2) 0) (.var 3)) (.var 1))) [
    .ret (some (.idx (.attr (.var 2) 1) (.var 3)))] [],
  .ret (some (.lit .none))]⟩
noncomputable def f_height : Fn := ⟨1, 3, [
  .assign 1 (.attr (.var 0) 4),
  .assign 2 (.lit (.int 0)),
  .whl (.not (.meth 2 (.var 1) [])) [
    .assign 1 (.idx (.attr (.var 1) 2) (.lit (.int 0))),
    .assign 2 (.bop .add (.var 2) (.lit (.int 1)))],
  .ret (some (.var 2))]⟩
noncomputable def f_split_child : Fn := ⟨3, 8, [
  .assign 3 (.attr (.var 0) 3),
  .assign 4 (.idx (.attr (.var 1) 2) (.var 2)),
  .assign 5 (.new 0 [(.slice (.attr (.var 4) 0) (some (.var 3)) none), (.slice (.attr (.var 4) 1) (some (.var 3)) none), (.slice (.attr (.var 4) 2) (some (.var 3)) none)]),
  .assign 6 (.idx (.attr (.var 4) 0) (.bop .sub (.var 3) (.lit (.int 1)))),
  .assign 7 (.idx (.attr (.var 4) 1) (.bop .sub (.var 3) (.lit (.int 1)))),
  .expr (.meth 4 (.var 4) [(.slice (.attr (.var 4) 0) none (some (.bop .sub (.var 3) (.lit (.int 1))))), (.slice (.attr (.var 4) 1) none (some (.bop .sub (.var 3) (.lit (.int 1))))), (.slice (.attr (.var 4) 2) none (some (.var 3)))]),
  .expr (.meth 4 (.var 1) [(.bop .add (.bop .add (.slice (.attr (.var 1) 0) none (some (.var 2))) (.list [(.var 6)])) (.slice (.attr (.var 1) 0) (some (.var 2)) none)), (.bop .add (.bop .add (.slice (.attr (.var 1) 1) none (some (.var 2))) (.list [(.var 7)])) (.slice (.attr (.var 1) 1) (some (.var 2)) none)), (.bop .add (.bop .add (.slice (.attr (.var 1) 2) none (some (.bop .add (.var 2) (.lit (.int 1))))) (.list [(.var 5)])) (.slice (.attr (.var 1) 2) (some (.bop .add (.var 2) (.lit (.int 1)))) none))])]⟩
noncomputable def f_put : Fn := ⟨3, 7, [
  .assign 3 (.bop .sub (.bop .mul (.lit (.int 2)) (.attr (.var 0) 3)) (.lit (.int 1))),
  .ite (.cmp .eq (.prim .len [(.attr (.attr (.var 0) 4) 0)]) (.var 3)) [
    .assign 4 (.attr (.var 0) 4),
    .setAttr (.var 0) 4 (.new 0 [(.list []), (.list []), (.list [(.var 4)])]),
    .expr (.meth 10 (.var 0) [(.attr (.var 0) 4), (.lit (.int 0))])] [],
  .assign 5 (.attr (.var 0) 4),
  .whl (.not (.meth 2 (.var 5) [])) [
    .assign 6 (.meth 3 (.var 5) [(.var 1)]),
    .ite (.and (.cmp .lt (.var 6) (.prim .len [(.attr (.var 5) 0)])) (.cmp .eq (.idx (.attr (.var 5) 0) (.var 6)) (.var 1))) [
      .expr (.meth 4 (.var 5) [(.slice (.attr (.var 5) 0) none none), (.call 5 [(.attr (.var 5) 1), (.var 6), (.var 2)]), (.slice (.attr (.var 5) 2) none none)]),
      .ret (some (.lit .none))] [],
    .ite (.cmp .eq (.prim .len [(.attr (.idx (.attr (.var 5) 2) (.var 6)) 0)]) (.var 3)) [
      .expr (.meth 10 (.var 0) [(.var 5), (.var 6)]),
      .ite (.cmp .eq (.idx (.attr (.var 5) 0) (.var 6)) (.var 1)) [
        .expr (.meth 4 (.var 5) [(.slice (.attr (.var 5) 0) none none), (.call 5 [(.attr (.var 5) 1), (.var 6), (.var 2)]), (.slice (.attr (.var 5) 2) none none)]),
        .ret (some (.lit .none))] [],
      .ite (.cmp .lt (.idx (.attr (.var 5) 0) (.var 6)) (.var 1)) [
        .assign 6 (.bop .add (.var 6) (.lit (.int 1)))] []] [],
    .assign 5 (.idx (.attr (.var 5) 2) (.var 6))],
  .assign 6 (.meth 3 (.var 5) [(.var 1)]),
  .ite (.and (.cmp .lt (.var 6) (.prim .len [(.attr (.var 5) 0)])) (.cmp .eq (.idx (.attr (.var 5) 0) (.var 6)) (.var 1))) [
    .expr (.meth 4 (.var 5) [(.slice (.attr (.var 5) 0) none none), (.call 5 [(.attr (.var 5) 1), (.var 6), (.var 2)]), (.list [])]),
    .ret (some (.lit .none))] [],
  .expr (.meth 4 (.var 5) [(.bop .add (.bop .add (.slice (.attr (.var 5) 0) none (some (.var 6))) (.list [(.var 1)])) (.slice (.attr (.var 5) 0) (some (.var 6)) none)), (.bop .add (.bop .add (.slice (.attr (.var 5) 1) none (some (.var 6))) (.list [(.var 2)])) (.slice (.attr (.var 5) 1) (some (.var 6)) none)), (.list [])]),
  .setAttr (.var 0) 5 (.bop .add (.attr (.var 0) 5) (.lit (.int 1))),
  .ret (some (.lit .none))]⟩
noncomputable def f_merge_children : Fn := ⟨3, 5, [
  .assign 3 (.idx (.attr (.var 1) 2) (.var 2)),
  .assign 4 (.idx (.attr (.var 1) 2) (.bop .add (.var 2) (.lit (.int 1)))),
  .expr (.meth 4 (.var 3) [(.bop .add (.bop .add (.attr (.var 3) 0) (.list [(.idx (.attr (.var 1) 0) (.var 2))])) (.attr (.var 4) 0)), (.bop .add (.bop .add (.attr (.var 3) 1) (.list [(.idx (.attr (.var 1) 1) (.var 2))])) (.attr (.var 4) 1)), (.bop .add (.attr (.var 3) 2) (.attr (.var 4) 2))]),
  .expr (.meth 4 (.var 1) [(.call 6 [(.attr (.var 1) 0), (.var 2)]), (.call 6 [(.attr (.var 1) 1), (.var 2)]), (.call 6 [(.attr (.var 1) 2), (.bop .add (.var 2) (.lit (.int 1)))])])]⟩
noncomputable def f_borrow_from_left : Fn := ⟨3, 7, [
  .assign 3 (.idx (.attr (.var 1) 2) (.bop .sub (.var 2) (.lit (.int 1)))),
  .assign 4 (.idx (.attr (.var 1) 2) (.var 2)),
  .assign 5 (.bop .sub (.prim .len [(.attr (.var 3) 0)]) (.lit (.int 1))),
  .assign 6 (.slice (.attr (.var 3) 2) (some (.bop .add (.var 5) (.lit (.int 1)))) none),
  .expr (.meth 4 (.var 4) [(.bop .add (.list [(.idx (.attr (.var 1) 0) (.bop .sub (.var 2) (.lit (.int 1))))]) (.attr (.var 4) 0)), (.bop .add (.list [(.idx (.attr (.var 1) 1) (.bop .sub (.var 2) (.lit (.int 1))))]) (.attr (.var 4) 1)), (.bop .add (.var 6) (.attr (.var 4) 2))]),
  .expr (.meth 4 (.var 1) [(.call 5 [(.attr (.var 1) 0), (.bop .sub (.var 2) (.lit (.int 1))), (.idx (.attr (.var 3) 0) (.var 5))]), (.call 5 [(.attr (.var 1) 1), (.bop .sub (.var 2) (.lit (.int 1))), (.idx (.attr (.var 3) 1) (.var 5))]), (.slice (.attr (.var 1) 2) none none)]),
  .expr (.meth 4 (.var 3) [(.slice (.attr (.var 3) 0) none (some (.var 5))), (.slice (.attr (.var 3) 1) none (some (.var 5))), (.slice (.attr (.var 3) 2) none (some (.bop .add (.var 5) (.lit (.int 1)))))])]⟩
noncomputable def f_borrow_from_right : Fn := ⟨3, 6, [
  .assign 3 (.idx (.attr (.var 1) 2) (.var 2)),
  .assign 4 (.idx (.attr (.var 1) 2) (.bop .add (.var 2) (.lit (.int 1)))),
  .assign 5 (.slice (.attr (.var 4) 2) none (some (.lit (.int 1)))),
  .expr (.meth 4 (.var 3) [(.bop .add (.attr (.var 3) 0) (.list [(.idx (.attr (.var 1) 0) (.var 2))])), (.bop .add (.attr (.var 3) 1) (.list [(.idx (.attr (.var 1) 1) (.var 2))])), (.bop .add (.attr (.var 3) 2) (.var 5))]),
  .expr (.meth 4 (.var 1) [(.call 5 [(.attr (.var 1) 0), (.var 2), (.idx (.attr (.var 4) 0) (.lit (.int 0)))]), (.call 5 [(.attr (.var 1) 1), (.var 2), (.idx (.attr (.var 4) 1) (.lit (.int 0)))]), (.slice (.attr (.var 1) 2) none none)]),
  .expr (.meth 4 (.var 4) [(.slice (.attr (.var 4) 0) (some (.lit (.int 1))) none), (.slice (.attr (.var 4) 1) (some (.lit (.int 1))) none), (.slice (.attr (.var 4) 2) (some (.lit (.int 1))) none)])]⟩
noncomputable def f_fill_child : Fn := ⟨3, 4, [
  .assign 3 (.attr (.var 0) 3),
  .ite (.or (.cmp .ge (.prim .len [(.attr (.idx (.attr (.var 1) 2) (.var 2)) 0)]) (.var 3)) (.cmp .lt (.prim .len [(.attr (.var 1) 2)]) (.lit (.int 2)))) [
    .ret (some (.var 2))] [],
  .ite (.and (.cmp .gt (.var 2) (.lit (.int 0))) (.cmp .ge (.prim .len [(.attr (.idx (.attr (.var 1) 2) (.bop .sub (.var 2) (.lit (.int 1)))) 0)]) (.var 3))) [
    .expr (.meth 13 (.var 0) [(.var 1), (.var 2)]),
    .ret (some (.var 2))] [],
  .ite (.and (.cmp .lt (.var 2) (.bop .sub (.prim .len [(.attr (.var 1) 2)]) (.lit (.int 1)))) (.cmp .ge (.prim .len [(.attr (.idx (.attr (.var 1) 2) (.bop .add (.var 2) (.lit (.int 1)))) 0)]) (.var 3))) [
    .expr (.meth 14 (.var 0) [(.var 1), (.var 2)]),
    .ret (some (.var 2))] [],
  .ite (.cmp .gt (.var 2) (.lit (.int 0))) [
    .expr (.meth 12 (.var 0) [(.var 1), (.bop .sub (.var 2) (.lit (.int 1)))]),
    .ret (some (.bop .sub (.var 2) (.lit (.int 1))))] [],
  .expr (.meth 12 (.var 0) [(.var 1), (.var 2)]),
  .ret (some (.var 2))]⟩
noncomputable def f_least_below : Fn := ⟨2, 2, [
  .whl (.not (.meth 2 (.var 1) [])) [
    .assign 1 (.idx (.attr (.var 1) 2) (.lit (.int 0)))],
  .ret (some (.tup [(.idx (.attr (.var 1) 0) (.lit (.int 0))), (.idx (.attr (.var 1) 1) (.lit (.int 0)))]))]⟩
noncomputable def f_greatest_below : Fn := ⟨2, 3, [
  .whl (.not (.meth 2 (.var 1) [])) [
    .assign 1 (.idx (.attr (.var 1) 2) (.bop .sub (.prim .len [(.attr (.var 1) 2)]) (.lit (.int 1))))],
  .assign 2 (.bop .sub (.prim .len [(.attr (.var 1) 0)]) (.lit (.int 1))),
  .ret (some (.tup [(.idx (.attr (.var 1) 0) (.var 2)), (.idx (.attr (.var 1) 1) (.var 2))]))]⟩
noncomputable def f_delete : Fn := ⟨2, 8, [
  .ite (.cmp .is (.meth 8 (.var 0) [(.var 1)]) (.lit .none)) [
    .ret (some (.lit (.bool false)))] [],
  .assign 2 (.attr (.var 0) 3),
  .assign 3 (.attr (.var 0) 4),
  .whl (.not (.meth 2 (.var 3) [])) [
    .assign 4 (.meth 3 (.var 3) [(.var 1)]),
    .ite (.and (.cmp .lt (.var 4) (.prim .len [(.attr (.var 3) 0)])) (.cmp .eq (.idx (.attr (.var 3) 0) (.var 4)) (.var 1))) [
      .assign 5 (.idx (.attr (.var 3) 2) (.var 4)),
      .assign 6 (.idx (.attr (.var 3) 2) (.bop .add (.var 4) (.lit (.int 1)))),
      .ite (.cmp .ge (.prim .len [(.attr (.var 5) 0)]) (.var 2)) [
        .assign 7 (.meth 17 (.var 0) [(.var 5)]),
        .expr (.meth 4 (.var 3) [(.call 5 [(.attr (.var 3) 0), (.var 4), (.idx (.var 7) (.lit (.int 0)))]), (.call 5 [(.attr (.var 3) 1), (.var 4), (.idx (.var 7) (.lit (.int 1)))]), (.slice (.attr (.var 3) 2) none none)]),
        .assign 1 (.idx (.var 7) (.lit (.int 0))),
        .assign 3 (.var 5)] [
        .ite (.cmp .ge (.prim .len [(.attr (.var 6) 0)]) (.var 2)) [
          .assign 7 (.meth 16 (.var 0) [(.var 6)]),
          .expr (.meth 4 (.var 3) [(.call 5 [(.attr (.var 3) 0), (.var 4), (.idx (.var 7) (.lit (.int 0)))]), (.call 5 [(.attr (.var 3) 1), (.var 4), (.idx (.var 7) (.lit (.int 1)))]), (.slice (.attr (.var 3) 2) none none)]),
          .assign 1 (.idx (.var 7) (.lit (.int 0))),
          .assign 3 (.var 6)] [
          .expr (.meth 12 (.var 0) [(.var 3), (.var 4)]),
          .assign 3 (.var 5)]]] [
      .assign 4 (.meth 15 (.var 0) [(.var 3), (.var 4)]),
      .assign 3 (.idx (.attr (.var 3) 2) (.var 4))]],
  .assign 4 (.meth 3 (.var 3) [(.var 1)]),
  .expr (.meth 4 (.var 3) [(.call 6 [(.attr (.var 3) 0), (.var 4)]), (.call 6 [(.attr (.var 3) 1), (.var 4)]), (.list [])]),
  .setAttr (.var 0) 5 (.bop .sub (.attr (.var 0) 5) (.lit (.int 1))),
  .ite (.and (.cmp .eq (.prim .len [(.attr (.attr (.var 0) 4) 0)]) (.lit (.int 0))) (.not (.meth 2 (.attr (.var 0) 4) []))) [
    .setAttr (.var 0) 4 (.idx (.attr (.attr (.var 0) 4) 2) (.lit (.int 0)))] [],
  .ret (some (.lit (.bool true)))]⟩
noncomputable def f_pairs_below : Fn := ⟨2, 8, [
  .assign 2 (.list []),
  .assign 3 (.list [(.tup [(.var 1), (.neg (.lit (.int 1)))])]),
  .whl (.cmp .gt (.prim .len [(.var 3)]) (.lit (.int 0))) [
    .assign 4 (.idx (.var 3) (.bop .sub (.prim .len [(.var 3)]) (.lit (.int 1)))),
    .delIdx (.var 3) (.bop .sub (.prim .len [(.var 3)]) (.lit (.int 1))),
    .assign 5 (.idx (.var 4) (.lit (.int 0))),
    .ite (.cmp .ge (.idx (.var 4) (.lit (.int 1))) (.lit (.int 0))) [
      .append (.var 2) (.tup [(.idx (.attr (.var 5) 0) (.idx (.var 4) (.lit (.int 1)))), (.idx (.attr (.var 5) 1) (.idx (.var 4) (.lit (.int 1))))])] [
      .ite (.meth 2 (.var 5) []) [
        .for1 [6] (.rng1 (.prim .len [(.attr (.var 5) 0)])) [
          .append (.var 2) (.tup [(.idx (.attr (.var 5) 0) (.var 6)), (.idx (.attr (.var 5) 1) (.var 6))])]] [
        .for1 [7] (.rng3 (.bop .sub (.prim .max [(.prim .len [(.attr (.var 5) 2)]), (.bop .add (.prim .len [(.attr (.var 5) 0)]) (.lit (.int 1)))]) (.lit (.int 1))) (.neg (.lit (.int 1))) true) [
          .ite (.cmp .lt (.var 7) (.prim .len [(.attr (.var 5) 2)])) [
            .append (.var 3) (.tup [(.idx (.attr (.var 5) 2) (.var 7)), (.neg (.lit (.int 1)))])] [],
          .ite (.cmp .gt (.var 7) (.lit (.int 0))) [
            .append (.var 3) (.tup [(.var 5), (.bop .sub (.var 7) (.lit (.int 1)))])] []]]]],
  .ret (some (.var 2))]⟩
noncomputable def f_pairs : Fn := ⟨1, 1, [
  .ret (some (.meth 19 (.var 0) [(.attr (.var 0) 4)]))]⟩
noncomputable def f_shape_ok : Fn := ⟨3, 9, [
  .assign 3 (.attr (.var 0) 3),
  .assign 4 (.list [(.tup [(.var 1), (.var 2)])]),
  .whl (.cmp .gt (.prim .len [(.var 4)]) (.lit (.int 0))) [
    .assign 5 (.idx (.var 4) (.bop .sub (.prim .len [(.var 4)]) (.lit (.int 1)))),
    .delIdx (.var 4) (.bop .sub (.prim .len [(.var 4)]) (.lit (.int 1))),
    .assign 6 (.idx (.var 5) (.lit (.int 0))),
    .assign 7 (.prim .len [(.attr (.var 6) 0)]),
    .ite (.or (.cmp .ne (.prim .len [(.attr (.var 6) 1)]) (.var 7)) (.cmp .gt (.var 7) (.bop .sub (.bop .mul (.lit (.int 2)) (.var 3)) (.lit (.int 1))))) [
      .ret (some (.lit (.bool false)))] [],
    .ite (.and (.not (.idx (.var 5) (.lit (.int 1)))) (.cmp .lt (.var 7) (.bop .sub (.var 3) (.lit (.int 1))))) [
      .ret (some (.lit (.bool false)))] [],
    .ite (.and (.cmp .ne (.prim .len [(.attr (.var 6) 2)]) (.lit (.int 0))) (.cmp .ne (.prim .len [(.attr (.var 6) 2)]) (.bop .add (.var 7) (.lit (.int 1))))) [
      .ret (some (.lit (.bool false)))] [],
    .for1 [8] (.of (.attr (.var 6) 2)) [
      .append (.var 4) (.tup [(.var 8), (.lit (.bool false))])]],
  .ret (some (.lit (.bool true)))]⟩
noncomputable def f_keys_ok : Fn := ⟨4, 12, [
  .assign 4 (.list [(.tup [(.var 1), (.var 2), (.var 3)])]),
  .whl (.cmp .gt (.prim .len [(.var 4)]) (.lit (.int 0))) [
    .assign 5 (.idx (.var 4) (.bop .sub (.prim .len [(.var 4)]) (.lit (.int 1)))),
    .delIdx (.var 4) (.bop .sub (.prim .len [(.var 4)]) (.lit (.int 1))),
    .assign 6 (.idx (.var 5) (.lit (.int 0))),
    .assign 7 (.attr (.var 6) 0),
    .for1 [8] (.rng1 (.prim .len [(.var 7)])) [
      .ite (.and (.cmp .isnot (.idx (.var 5) (.lit (.int 1))) (.lit .none)) (.cmp .le (.idx (.var 7) (.var 8)) (.idx (.var 5) (.lit (.int 1))))) [
        .ret (some (.lit (.bool false)))] [],
      .ite (.and (.cmp .isnot (.idx (.var 5) (.lit (.int 2))) (.lit .none)) (.cmp .ge (.idx (.var 7) (.var 8)) (.idx (.var 5) (.lit (.int 2))))) [
        .ret (some (.lit (.bool false)))] [],
      .ite (.and (.cmp .gt (.var 8) (.lit (.int 0))) (.cmp .le (.idx (.var 7) (.var 8)) (.idx (.var 7) (.bop .sub (.var 8) (.lit (.int 1)))))) [
        .ret (some (.lit (.bool false)))] []],
    .for1 [9] (.rng1 (.prim .len [(.attr (.var 6) 2)])) [
      .assign 10 (.idx (.var 5) (.lit (.int 1))),
      .assign 11 (.idx (.var 5) (.lit (.int 2))),
      .ite (.cmp .gt (.var 9) (.lit (.int 0))) [
        .assign 10 (.idx (.var 7) (.bop .sub (.var 9) (.lit (.int 1))))] [],
      .ite (.cmp .lt (.var 9) (.prim .len [(.var 7)])) [
        .assign 11 (.idx (.var 7) (.var 9))] [],
      .append (.var 4) (.tup [(.idx (.attr (.var 6) 2) (.var 9)), (.var 10), (.var 11)])]],
  .ret (some (.lit (.bool true)))]⟩
noncomputable def f_leaf_level : Fn := ⟨2, 7, [
  .assign 2 (.neg (.lit (.int 1))),
  .assign 3 (.list [(.tup [(.var 1), (.lit (.int 0))])]),
  .whl (.cmp .gt (.prim .len [(.var 3)]) (.lit (.int 0))) [
    .assign 4 (.idx (.var 3) (.bop .sub (.prim .len [(.var 3)]) (.lit (.int 1)))),
    .delIdx (.var 3) (.bop .sub (.prim .len [(.var 3)]) (.lit (.int 1))),
    .assign 5 (.idx (.var 4) (.lit (.int 0))),
    .ite (.meth 2 (.var 5) []) [
      .ite (.cmp .eq (.var 2) (.neg (.lit (.int 1)))) [
        .assign 2 (.idx (.var 4) (.lit (.int 1)))] [
        .ite (.cmp .ne (.var 2) (.idx (.var 4) (.lit (.int 1)))) [
          .ret (some (.neg (.lit (.int 1))))] []]] [],
    .for1 [6] (.of (.attr (.var 5) 2)) [
      .append (.var 3) (.tup [(.var 6), (.bop .add (.idx (.var 4) (.lit (.int 1))) (.lit (.int 1)))])]],
  .ret (some (.var 2))]⟩
noncomputable def f_check : Fn := ⟨1, 1, [
  .ite (.not (.meth 21 (.var 0) [(.attr (.var 0) 4), (.lit (.bool true))])) [
    .ret (some (.lit (.bool false)))] [],
  .ite (.not (.meth 22 (.var 0) [(.attr (.var 0) 4), (.lit .none), (.lit .none)])) [
    .ret (some (.lit (.bool false)))] [],
  .ite (.cmp .lt (.meth 23 (.var 0) [(.attr (.var 0) 4)]) (.lit (.int 0))) [
    .ret (some (.lit (.bool false)))] [],
  .ret (some (.cmp .eq (.meth 26 (.var 0) [(.attr (.var 0) 4)]) (.attr (.var 0) 5)))]⟩
noncomputable def f_range_below : Fn := ⟨4, 13, [
  .assign 4 (.list []),
  .assign 5 (.list [(.tup [(.var 1), (.neg (.lit (.int 1)))])]),
  .whl (.cmp .gt (.prim .len [(.var 5)]) (.lit (.int 0))) [
    .assign 6 (.idx (.var 5) (.bop .sub (.prim .len [(.var 5)]) (.lit (.int 1)))),
    .delIdx (.var 5) (.bop .sub (.prim .len [(.var 5)]) (.lit (.int 1))),
    .assign 7 (.idx (.var 6) (.lit (.int 0))),
    .assign 8 (.attr (.var 7) 0),
    .ite (.cmp .ge (.idx (.var 6) (.lit (.int 1))) (.lit (.int 0))) [
      .append (.var 4) (.tup [(.idx (.var 8) (.idx (.var 6) (.lit (.int 1)))), (.idx (.attr (.var 7) 1) (.idx (.var 6) (.lit (.int 1))))])] [
      .ite (.meth 2 (.var 7) []) [
        .for1 [9] (.rng1 (.prim .len [(.var 8)])) [
          .ite (.and (.cmp .le (.var 2) (.idx (.var 8) (.var 9))) (.cmp .le (.idx (.var 8) (.var 9)) (.var 3))) [
            .append (.var 4) (.tup [(.idx (.var 8) (.var 9)), (.idx (.attr (.var 7) 1) (.var 9))])] []]] [
        .for1 [10] (.rng3 (.bop .sub (.prim .max [(.prim .len [(.attr (.var 7) 2)]), (.bop .add (.prim .len [(.var 8)]) (.lit (.int 1)))]) (.lit (.int 1))) (.neg (.lit (.int 1))) true) [
          .assign 11 (.and (.cmp .lt (.var 10) (.prim .len [(.var 8)])) (.cmp .le (.idx (.var 8) (.var 10)) (.var 2))),
          .assign 12 (.and (.cmp .gt (.var 10) (.lit (.int 0))) (.and (.cmp .lt (.bop .sub (.var 10) (.lit (.int 1))) (.prim .len [(.var 8)])) (.cmp .ge (.idx (.var 8) (.bop .sub (.var 10) (.lit (.int 1)))) (.var 3)))),
          .ite (.and (.cmp .lt (.var 10) (.prim .len [(.attr (.var 7) 2)])) (.and (.not (.var 11)) (.not (.var 12)))) [
            .append (.var 5) (.tup [(.idx (.attr (.var 7) 2) (.var 10)), (.neg (.lit (.int 1)))])] [],
          .ite (.and (.cmp .gt (.var 10) (.lit (.int 0))) (.and (.cmp .le (.var 2) (.idx (.var 8) (.bop .sub (.var 10) (.lit (.int 1))))) (.cmp .le (.idx (.var 8) (.bop .sub (.var 10) (.lit (.int 1)))) (.var 3)))) [
            .append (.var 5) (.tup [(.var 7), (.bop .sub (.var 10) (.lit (.int 1)))])] []]]]],
  .ret (some (.var 4))]⟩
noncomputable def f_count_below : Fn := ⟨2, 6, [
  .assign 2 (.lit (.int 0)),
  .assign 3 (.list [(.var 1)]),
  .whl (.cmp .gt (.prim .len [(.var 3)]) (.lit (.int 0))) [
    .assign 4 (.idx (.var 3) (.bop .sub (.prim .len [(.var 3)]) (.lit (.int 1)))),
    .delIdx (.var 3) (.bop .sub (.prim .len [(.var 3)]) (.lit (.int 1))),
    .assign 2 (.bop .add (.var 2) (.prim .len [(.attr (.var 4) 0)])),
    .for1 [5] (.of (.attr (.var 4) 2)) [
      .append (.var 3) (.var 5)]],
  .ret (some (.var 2))]⟩
noncomputable def f_rank_of : Fn := ⟨2, 6, [
  .assign 2 (.lit (.int 0)),
  .assign 3 (.attr (.var 0) 4),
  .whl (.not (.meth 2 (.var 3) [])) [
    .assign 4 (.meth 3 (.var 3) [(.var 1)]),
    .assign 2 (.bop .add (.var 2) (.var 4)),
    .for1 [5] (.rng1 (.var 4)) [
      .assign 2 (.bop .add (.var 2) (.meth 26 (.var 0) [(.idx (.attr (.var 3) 2) (.var 5))]))],
    .ite (.and (.cmp .lt (.var 4) (.prim .len [(.attr (.var 3) 0)])) (.cmp .eq (.idx (.attr (.var 3) 0) (.var 4)) (.var 1))) [
      .ret (some (.bop .add (.var 2) (.meth 26 (.var 0) [(.idx (.attr (.var 3) 2) (.var 4))])))] [],
    .assign 3 (.idx (.attr (.var 3) 2) (.var 4))],
  .ret (some (.bop .add (.var 2) (.meth 3 (.var 3) [(.var 1)])))]⟩
noncomputable def f_select_key : Fn := ⟨2, 6, [
  .ite (.cmp .lt (.var 1) (.lit (.int 0))) [
    .ret (some (.lit .none))] [],
  .assign 2 (.attr (.var 0) 4),
  .whl (.not (.meth 2 (.var 2) [])) [
    .assign 3 (.lit .none),
    .for1 [4] (.rng1 (.prim .len [(.attr (.var 2) 2)])) [
      .assign 5 (.meth 26 (.var 0) [(.idx (.attr (.var 2) 2) (.var 4))]),
      .ite (.cmp .lt (.var 1) (.var 5)) [
        .assign 3 (.idx (.attr (.var 2) 2) (.var 4)),
        .brk] [],
      .assign 1 (.bop .sub (.var 1) (.var 5)),
      .ite (.cmp .lt (.var 4) (.prim .len [(.attr (.var 2) 0)])) [
        .ite (.cmp .eq (.var 1) (.lit (.int 0))) [
          .ret (some (.idx (.attr (.var 2) 0) (.var 4)))] [],
        .assign 1 (.bop .sub (.var 1) (.lit (.int 1)))] []],
    .ite (.cmp .is (.var 3) (.lit .none)) [
      .ret (some (.lit .none))] [],
    .assign 2 (.var 3)],
  .ite (.cmp .lt (.var 1) (.prim .len [(.attr (.var 2) 0)])) [
    .ret (some (.idx (.attr (.var 2) 0) (.var 1)))] [],
  .ret (some (.lit .none))]⟩
noncomputable def f_flat_below : Fn := ⟨2, 8, [
  .assign 2 (.list []),
  .assign 3 (.list [(.var 1)]),
  .whl (.cmp .gt (.prim .len [(.var 3)]) (.lit (.int 0))) [
    .assign 4 (.idx (.var 3) (.bop .sub (.prim .len [(.var 3)]) (.lit (.int 1)))),
    .delIdx (.var 3) (.bop .sub (.prim .len [(.var 3)]) (.lit (.int 1))),
    .append (.var 2) (.prim .len [(.attr (.var 4) 0)]),
    .for1 [5] (.of (.attr (.var 4) 0)) [
      .append (.var 2) (.var 5)],
    .for1 [6] (.of (.attr (.var 4) 1)) [
      .append (.var 2) (.var 6)],
    .append (.var 2) (.prim .len [(.attr (.var 4) 2)]),
    .for1 [7] (.rng3 (.bop .sub (.prim .len [(.attr (.var 4) 2)]) (.lit (.int 1))) (.neg (.lit (.int 1))) true) [
      .append (.var 3) (.idx (.attr (.var 4) 2) (.var 7))]],
  .ret (some (.var 2))]⟩
noncomputable def f_flat : Fn := ⟨1, 1, [
  .ret (some (.bop .add (.list [(.attr (.var 0) 3)]) (.meth 30 (.var 0) [(.attr (.var 0) 4)])))]⟩
noncomputable def f_model_put : Fn := ⟨3, 6, [
  .assign 3 (.list []),
  .assign 4 (.lit (.bool false)),
  .for1 [5] (.of (.var 0)) [
    .ite (.and (.not (.var 4)) (.cmp .lt (.var 1) (.idx (.var 5) (.lit (.int 0))))) [
      .append (.var 3) (.tup [(.var 1), (.var 2)]),
      .assign 4 (.lit (.bool true))] [],
    .ite (.cmp .eq (.idx (.var 5) (.lit (.int 0))) (.var 1)) [
      .append (.var 3) (.tup [(.var 1), (.var 2)]),
      .assign 4 (.lit (.bool true))] [
      .append (.var 3) (.var 5)]],
  .ite (.not (.var 4)) [
    .append (.var 3) (.tup [(.var 1), (.var 2)])] [],
  .ret (some (.var 3))]⟩
noncomputable def f_model_delete : Fn := ⟨2, 2, [
  .ret (some (.comp (.var 2) 1 (.of (.var 0)) (some (.cmp .ne (.idx (.var 2) (.lit (.int 0))) (.var 1)))))]⟩
noncomputable def f_run_on_canopy : Fn := ⟨2, 4, [
  .assign 2 (.new 1 [(.var 1)]),
  .for1 [3] (.of (.var 0)) [
    .ite (.cmp .eq (.idx (.var 3) (.lit (.int 0))) (.lit (.str 0))) [
      .expr (.meth 11 (.var 2) [(.idx (.var 3) (.lit (.int 1))), (.idx (.var 3) (.lit (.int 2)))])] [
      .expr (.meth 18 (.var 2) [(.idx (.var 3) (.lit (.int 1)))])]],
  .ret (some (.var 2))]⟩
noncomputable def f_run_on_model : Fn := ⟨1, 3, [
  .assign 1 (.list []),
  .for1 [2] (.of (.var 0)) [
    .ite (.cmp .eq (.idx (.var 2) (.lit (.int 0))) (.lit (.str 0))) [
      .assign 1 (.call 32 [(.var 1), (.idx (.var 2) (.lit (.int 1))), (.idx (.var 2) (.lit (.int 2)))])] [
      .assign 1 (.call 33 [(.var 1), (.idx (.var 2) (.lit (.int 1)))])]],
  .ret (some (.var 1))]⟩
end ML
namespace ML
open PySem (Expr Stmt Str NameKind Scope Comprehension)
structure Tab where
  fns : List (Str × Nat)
  cls : List (Str × Nat)
  mts : List (Str × Nat)
  ats : List (Str × Nat)
  sts : List (Str × Nat)
  lv : List (Nat × Nat)
structure Ctx where
  kinds : List (Str × NameKind)
  ν : List (Str × Nat)
  next : Nat
  tab : Tab
  top : Nat
noncomputable def Ctx.fits (c : Ctx) (f : Nat) : Bool := match c.tab.lv.lookup f with
  | some l => l < c.top
  | none => false
noncomputable def Ctx.isGlob (c : Ctx) (x : Str) : Bool := c.kinds.lookup x == some .globalImplicit
noncomputable def isVarKind : NameKind → Bool
  | .local | .cell | .free => true
  | _ => false
noncomputable def innerNames (ν : List (Str × Nat)) : List (Str × NameKind) → Nat → List (Str × Nat)
  | [], _ => []
  | (x, .local) :: r, n => if x == ".0" then innerNames ν r n else (x, n) :: innerNames ν r (n + 1)
  | (x, .cell) :: r, n => (x, n) :: innerNames ν r (n + 1)
  | (x, .free) :: r, n => (match ν.lookup x with | some i => (x, i) :: innerNames ν r n | none => innerNames ν r n)
  | _ :: r, n => innerNames ν r n
noncomputable def innerCount : List (Str × NameKind) → Nat
  | [] => 0
  | (x, .local) :: r => if x == ".0" then innerCount r else innerCount r + 1
  | (_, .cell) :: r => innerCount r + 1
  | _ :: r => innerCount r
noncomputable def Ctx.inner (c : Ctx) (sc : Scope) : Ctx := { c with kinds := sc.names, ν := innerNames c.ν sc.names c.next, next := c.next + innerCount sc.names }
noncomputable def Ctx.inner1 (c : Ctx) (sc : Scope) (x : Str) : Ctx := { c with kinds := sc.names, ν := (x, c.next) :: c.ν, next := c.next + 1 }
noncomputable def compName (c : Ctx) (sc : Scope) (x : Str) (p : Str × NameKind) : Bool := match p.2 with
  | .cell => false
  | .free => (c.ν.lookup p.1).isSome && (c.kinds.lookup p.1 == some .cell || c.kinds.lookup p.1 == some .free)
  | .local => sc.names.lookup p.1 == some .local && (p.1 == x || c.ν.lookup p.1 == none)
  | _ => true
noncomputable def compOk (c : Ctx) (sc : Scope) (x : Str) : Bool := sc.kind == .function && sc.names.lookup x == some .local && sc.names.all (compName c sc x)
noncomputable def trOp : PySem.Operator → Option Bop
  | .Add => some .add | .Sub => some .sub | .Mult => some .mul | .FloorDiv => some .fdiv | .Mod => some .mod
  | _ => none
noncomputable def trCmp : PySem.CmpOp → Cop
  | .Eq => .eq | .NotEq => .ne | .Lt => .lt | .LtE => .le | .Gt => .gt | .GtE => .ge | .Is => .is | .IsNot => .isnot | .In => .isin | .NotIn => .notin
noncomputable def trPrim (x : Str) (n : Nat) : Option Prim :=
  if x == "len" && n == 1 then some .len
  else if x == "max" && n == 2 then some .max
  else if x == "list" && n == 1 then some .list
  else if x == "sorted" && n == 1 then some .sorted
  else none
noncomputable def trTy (x : Str) : Option Prim :=
  none
noncomputable def trIsi (x : Str) : Option Prim :=
  none
noncomputable def trConst (c : Ctx) : PySem.Const → Option E
  | .none => some (.lit .none)
  | .bool b => some (.lit (.bool b))
  | .int i => some (.lit (.int i))
  | .float b => some (.lit (.flt b))
  | .str s => (c.tab.sts.lookup s).map fun k => .lit (.str k)
  | _ => none
noncomputable def nameOf (e : Expr) : Option Str := if h : e.ctorIdx = 23 then Expr.Name.elim (motive_1 := fun _ => Option Str) e h (fun x _ => some x) else none
structure CallX where
  f : Expr
  args : List Expr
  kws : List PySem.Keyword
  pos : PySem.Pos
noncomputable def callOf (e : Expr) : Option CallX := if h : e.ctorIdx = 16 then Expr.Call.elim (motive_1 := fun _ => Option CallX) e h (fun f a k p => some ⟨f, a, k, p⟩) else none
structure AttrX where
  o : Expr
  x : Str
  pos : PySem.Pos
noncomputable def attrOf (e : Expr) : Option AttrX := if h : e.ctorIdx = 20 then Expr.Attribute.elim (motive_1 := fun _ => Option AttrX) e h (fun o x p => some ⟨o, x, p⟩) else none
structure SubX where
  o : Expr
  i : Expr
noncomputable def subOf (e : Expr) : Option SubX := if h : e.ctorIdx = 21 then Expr.Subscript.elim (motive_1 := fun _ => Option SubX) e h (fun o i _ => some ⟨o, i⟩) else none
structure SliceX where
  lo : Option Expr
  hi : Option Expr
  st : Option Expr
noncomputable def sliceOf (e : Expr) : Option SliceX := if h : e.ctorIdx = 26 then Expr.Slice.elim (motive_1 := fun _ => Option SliceX) e h (fun l u t _ => some ⟨l, u, t⟩) else none
noncomputable def isNil {α : Type} : List α → Bool
  | [] => true
  | _ => false
noncomputable def bareCall (e : Expr) : Bool := match callOf e with
  | some c => isNil c.args && isNil c.kws && (nameOf c.f).isSome
  | none => false
noncomputable def isSlice (e : Expr) : Bool := e.ctorIdx == 26
noncomputable def isStar (e : Expr) : Bool := e.ctorIdx == 22
noncomputable def isComp (e : Expr) : Bool := e.ctorIdx == 8 || e.ctorIdx == 9 || e.ctorIdx == 10
noncomputable def asNot : Bool → E → E
  | true, e => .not e
  | false, e => e
noncomputable def gName (c : Ctx) (e : Expr) : Option Str := match nameOf e with
  | some y => if c.isGlob y then some y else none
  | none => none
noncomputable def typeOfArg (c : Ctx) (t : Expr) : List Expr → Option Expr
  | [a] => if gName c t == some "type" then some a else none
  | _ => none
noncomputable def typeCall (c : Ctx) (e : Expr) : Option Expr := match callOf e with
  | some x => if isNil x.kws then typeOfArg c x.f x.args else none
  | none => none
noncomputable def isOp : PySem.CmpOp → Option Bool
  | .Is => some false
  | .IsNot => some true
  | _ => none
noncomputable def typeTest (c : Ctx) (l : Expr) (op : PySem.CmpOp) (r : Expr) : Option (Expr × Prim × Bool) :=
  match typeCall c l with
  | some a => (match isOp op with
    | some neg => (match gName c r with
      | some y => (trTy y).map fun q => (a, q, neg)
      | none => none)
    | none => none)
  | none => none
noncomputable def mapO {α β : Type} (f : α → Option β) : List α → Option (List β)
  | [] => some []
  | a :: r => match f a with
    | some b => (match mapO f r with | some bs => some (b :: bs) | none => none)
    | none => none
noncomputable def trEs (f : Expr → Option E) (es : List Expr) : Option (List E) := if es.any isStar || !decide (es.length ≤ 20) then none else mapO f es
noncomputable def trO (f : Expr → Option E) : Option Expr → Option (Option E)
  | none => some none
  | some e => (f e).map some
noncomputable def trBool (f : Expr → Option E) (op : PySem.BoolOp) : List Expr → Option E
  | [] => none
  | [e] => f e
  | e :: r => match op with
    | .And => do some (.and (← f e) (← trBool f op r))
    | .Or => do some (.or (← f e) (← trBool f op r))
noncomputable def trIsiC (c : Ctx) (tr : Expr → Option E) : List Expr → Option E
  | [a, b] => (match gName c b with
    | some y => if isStar a then none else (match trIsi y with
      | some q => do some (.prim q [← tr a])
      | none => if y == "Canopy" && c.tab.cls.lookup ("Canopy" : Str) == some 1 then do some (.prim .isCanopy [← tr a]) else none
      )
    | none => none)
  | _ => none
noncomputable def isNanC : PySem.Const → Bool
  | .str x => x == "nan"
  | _ => false
noncomputable def isNanE (e : Expr) : Bool := if h : e.ctorIdx = 19 then Expr.Constant.elim (motive_1 := fun _ => Bool) e h (fun k _ _ => isNanC k) else false
noncomputable def trNan : List Expr → Option E
  | [e] => if isNanE e then some (.prim .nan []) else none
  | _ => none
noncomputable def trPrimC (c : Ctx) (tr : Expr → Option E) (f : Str) (args : List Expr) : Option E :=
    match trPrim f args.length with
    | some p => do some (.prim p (← trEs tr args))
    | none => none
noncomputable def trCall (c : Ctx) (tr : Expr → Option E) (f : Str) (args : List Expr) : Option E :=
  if !c.isGlob f then none else
  match c.tab.fns.lookup f with
  | some i => if c.fits i then do some (.call i (← trEs tr args)) else none
  | none => match c.tab.cls.lookup f with
    | some i => if c.fits i then do some (.new i (← trEs tr args)) else none
    | none =>
      if f == "isinstance" then trIsiC c tr args else
      trPrimC c tr f args
noncomputable def isOneC : PySem.Const → Bool
  | .int i => i == 1
  | _ => false
noncomputable def isOneE (e : Expr) : Bool := if h : e.ctorIdx = 19 then Expr.Constant.elim (motive_1 := fun _ => Bool) e h (fun k _ _ => isOneC k) else false
noncomputable def isSub : PySem.UnaryOp → Bool
  | .USub => true
  | _ => false
noncomputable def isOne (e : Expr) : Bool := if h : e.ctorIdx = 3 then Expr.UnaryOp.elim (motive_1 := fun _ => Bool) e h (fun op x _ => isSub op && isOneE x) else false
noncomputable def trRange (tr : Expr → Option E) : List Expr → Option Src
  | [n] => if isStar n then none else do some (.rng1 (← tr n))
  | [a, b, s] => if isStar a || isStar b then none else if isOne s then do some (.rng3 (← tr a) (← tr b) true) else
    none
  | _ => none
noncomputable def rangeArgs (c : Ctx) (e : Expr) : Option (List Expr) := match callOf e with
  | some x => if isNil x.kws && gName c x.f == some "range" then some x.args else none
  | none => none
noncomputable def isSetE (e : Expr) : Bool := e.ctorIdx == 7
noncomputable def trSrc (c : Ctx) (tr : Expr → Option E) (e : Expr) : Option Src := match rangeArgs c e with
  | some as => trRange tr as
  | none => if isSetE e then none else do some (.of (← tr e))
noncomputable def trCond (tr : Expr → Option E) : List Expr → Option (Option E)
  | [] => some none
  | [t] => do some (some (← tr t))
  | _ => none
noncomputable def trVar (c : Ctx) (x : Str) : Option E := match c.kinds.lookup x with
  | some k => if isVarKind k && !(x == "__debug__") && !(x == "__classdict__") then (c.ν.lookup x).map .var else none
  | none => none
noncomputable def trBin (f : Expr → Option E) (l : Expr) (op : PySem.Operator) (r : Expr) : Option E := do some (.bop (← trOp op) (← f l) (← f r))
noncomputable def trUn (f : Expr → Option E) (op : PySem.UnaryOp) (x : Expr) : Option E := match op with
  | .Not => do some (.not (← f x))
  | .USub => do some (.neg (← f x))
  | _ => none
noncomputable def trTy1 (f : Expr → Option E) (q : Prim) (neg : Bool) (a : Expr) : Option E := if isStar a then none else do some (asNot neg (.prim q [← f a]))
noncomputable def trCmp1 (c : Ctx) (f : Expr → Option E) (l : Expr) (op : PySem.CmpOp) (r : Expr) : Option E :=
  do some (.cmp (trCmp op) (← f l) (← f r))
noncomputable def trCmps (c : Ctx) (f : Expr → Option E) (l : Expr) : List PySem.CmpOp → List Expr → Option E
  | [op], [r] => trCmp1 c f l op r
  | _, _ => none
noncomputable def trMeth (c : Ctx) (f : Expr → Option E) (o : Expr) (name : Str) (args : List Expr) (fits : Bool) : Option E :=
  if bareCall o || !fits then none else
  match c.tab.mts.lookup name with
  | some i => if c.fits i then do some (.meth i (← f o) (← trEs f args)) else none
  | none => none
noncomputable def trCalls (c : Ctx) (f : Expr → Option E) (cp : PySem.Pos) (args : List Expr) (g : Expr) : Option E := match nameOf g with
  | some x => trCall c f x args
  | none => match attrOf g with
    | some a => trMeth c f a.o a.x args (a.pos.endLine == cp.line)
    | none => none
noncomputable def trAttr (c : Ctx) (f : Expr → Option E) (o : Expr) (a : Str) : Option E := if bareCall o then none else
  match c.tab.ats.lookup a with
  | some i => do some (.attr (← f o) i)
  | none => none
noncomputable def trSub (f : Expr → Option E) (o i : Expr) : Option E := match sliceOf i with
  | some x => if x.st.isSome then none else do some (.slice (← f o) (← trO f x.lo) (← trO f x.hi))
  | none => do some (.idx (← f o) (← f i))
noncomputable def trComp1 (c : Ctx) (f : Ctx → Expr → Option E) (elt : Expr) (sc : Scope) (iter : Expr) (ifs : List Expr) (t : Expr) : Option E := match nameOf t with
  | some x => if compOk c sc x then do
      some (.comp (← f (c.inner1 sc x) elt) 1 (← trSrc c (f c) iter) (← trCond (f (c.inner1 sc x)) ifs))
    else none
  | none => none
noncomputable def trComps (c : Ctx) (f : Ctx → Expr → Option E) (elt : Expr) (sc : Scope) : List Comprehension → Option E
  | [g] => if g.is_async == 0 then trComp1 c f elt sc g.iter g.ifs g.target else none
  | _ => none
noncomputable def trE1 (c : Ctx) (f : Ctx → Expr → Option E) : Expr → Option E
  | .Constant k _ _ => trConst c k
  | .Name x _ => trVar c x
  | .BinOp l op r _ => trBin (f c) l op r
  | .UnaryOp op x _ => trUn (f c) op x
  | .BoolOp op vs _ => trBool (f c) op vs
  | .Compare l ops rs _ => trCmps c (f c) l ops rs
  | .Call g args [] cp => trCalls c (f c) cp args g
  | .Attribute o a _ => trAttr c (f c) o a
  | .Subscript o i _ => trSub (f c) o i
  | .List es _ => do some (.list (← trEs (f c) es))
  | .Tuple es _ _ => do some (.tup (← trEs (f c) es))
  | .ListComp elt gs sc _ => trComps c f elt sc gs
  | .Dict [] [] _ => some .dict0
  | _ => none
noncomputable def trE : Nat → Ctx → Expr → Option E
  | 0, _, _ => none
  | n + 1, c, e => trE1 c (trE n) e
noncomputable def trName (c : Ctx) (x : Str) : Option Nat :=
  match c.kinds.lookup x with
  | some .local | some .cell => c.ν.lookup x
  | _ => none
noncomputable def deep : Nat := 40
noncomputable def trSetIdx (c : Ctx) (v t : Expr) : Option S := match subOf t with
  | some x => if isComp v || isSlice x.i then none else do some (.setIdx (← trE deep c x.o) (← trE deep c x.i) (← trE deep c v))
  | none => none
noncomputable def trSetAttr (c : Ctx) (v : Expr) (x : AttrX) : Option S := if isComp v then none else match c.tab.ats.lookup x.x with
  | some i => do some (.setAttr (← trE deep c x.o) i (← trE deep c v))
  | none => none
noncomputable def trAssign (c : Ctx) (v t : Expr) : Option S := match nameOf t with
  | some x => do some (.assign (← trName c x) (← trE deep c v))
  | none => match attrOf t with
    | some x => trSetAttr c v x
    | none => trSetIdx c v t
noncomputable def trExprS (c : Ctx) (v : Expr) : Option S := if isComp v then none else do some (.expr (← trE deep c v))
noncomputable def one? {α : Type} : List α → Option α
  | [e] => some e
  | _ => none
structure AppX where
  o : Expr
  e : Expr
  fit : Bool
noncomputable def appendOf (v : Expr) : Option AppX := match callOf v with
  | some x => if isNil x.kws then (match attrOf x.f with
    | some a => if a.x == "append" then (one? x.args).map fun e => ⟨a.o, e, a.pos.endLine == x.pos.line⟩ else none
    | none => none) else none
  | none => none
noncomputable def trAppend (c : Ctx) (o e : Expr) (fit : Bool) : Option S := if bareCall o || isStar e || !fit then none else do some (.append (← trE deep c o) (← trE deep c e))
noncomputable def trDel (c : Ctx) (ts : List Expr) : Option S := match one? ts with
  | some t => (match subOf t with
    | some x => if isSlice x.i then none else do some (.delIdx (← trE deep c x.o) (← trE deep c x.i))
    | none => none)
  | none => none
noncomputable def trRet (c : Ctx) : Option Expr → Option S
  | none => some (.ret none)
  | some e => do some (.ret (some (← trE deep c e)))
noncomputable def trForS (c : Ctx) (iter : Expr) (b : Option (List S)) (t : Expr) : Option S := match nameOf t with
  | some x => do some (.for1 [← trName c x] (← trSrc c (trE deep c) iter) (← b))
  | none => none
noncomputable def trS1 (c : Ctx) (f : Stmt → Option S) : Stmt → Option S
  | .Assign [t] v _ => trAssign c v t
  | .Delete ts _ => trDel c ts
  | .Expr v _ => (match appendOf v with
    | some x => trAppend c x.o x.e x.fit
    | none => trExprS c v)
  | .Return e _ => trRet c e
  | .If t a b _ => do some (.ite (← trE deep c t) (← mapO f a) (← mapO f b))
  | .While t b [] _ => do some (.whl (← trE deep c t) (← mapO f b))
  | .For t iter b [] _ => trForS c iter (mapO f b) t
  | .Break _ => some .brk
  | .Pass _ => some .pass
  | _ => none
noncomputable def trS : Nat → Ctx → Stmt → Option S
  | 0, _, _ => none
  | n + 1, c, s => trS1 c (trS n c) s
noncomputable def ownNames (names : List (Str × NameKind)) : List Str := (names.filter fun p => p.2 == .local || p.2 == .cell).map (·.1)
noncomputable def nodupB : List Str → Bool
  | [] => true
  | x :: r => !r.contains x && nodupB r
noncomputable def fCtx (tab : Tab) (top : Nat) (sc : Scope) : Ctx := ⟨sc.names, (ownNames sc.names).zipIdx, (ownNames sc.names).length, tab, top⟩
noncomputable def fShape (params : List Str) (sc : Scope) : Bool :=
  nodupB (sc.names.map (·.1)) && (ownNames sc.names).take params.length == params && sc.kind == .function && !sc.isGenerator && !sc.isCoroutine && sc.names.all fun p => !(p.2 == .free)
noncomputable def trF (tab : Tab) (top : Nat) (params : List Str) (sc : Scope) (body : List Stmt) : Option Fn :=
  if fShape params sc then
    match mapO (trS deep (fCtx tab top sc)) body with
    | some b => some ⟨params.length, (ownNames sc.names).length, b⟩
    | none => none
  else none
theorem nameOf_ok {e : Expr} {y : Str} (h : nameOf e = some y) : ∃ p, e = .Name y p := by
  unfold nameOf at h
  by_cases q : e.ctorIdx = 23
  · revert h
    refine Expr.Name.elim e q fun x p h => ?_
    cases h
    exact ⟨p, rfl⟩
  · rw [dif_neg q] at h; cases h
theorem callOf_ok {e : Expr} {x : CallX} (h : callOf e = some x) : e = .Call x.f x.args x.kws x.pos := by
  unfold callOf at h
  by_cases q : e.ctorIdx = 16
  · revert h
    refine Expr.Call.elim e q fun f a k p h => ?_
    cases h
    rfl
  · rw [dif_neg q] at h; cases h
theorem attrOf_ok {e : Expr} {x : AttrX} (h : attrOf e = some x) : e = .Attribute x.o x.x x.pos := by
  unfold attrOf at h
  by_cases q : e.ctorIdx = 20
  · revert h
    refine Expr.Attribute.elim e q fun o x p h => ?_
    cases h
    rfl
  · rw [dif_neg q] at h; cases h
theorem subOf_ok {e : Expr} {x : SubX} (h : subOf e = some x) : ∃ p, e = .Subscript x.o x.i p := by
  unfold subOf at h
  by_cases q : e.ctorIdx = 21
  · revert h
    refine Expr.Subscript.elim e q fun o i p h => ?_
    cases h
    exact ⟨p, rfl⟩
  · rw [dif_neg q] at h; cases h
theorem sliceOf_ok {e : Expr} {x : SliceX} (h : sliceOf e = some x) : ∃ p, e = .Slice x.lo x.hi x.st p := by
  unfold sliceOf at h
  by_cases q : e.ctorIdx = 26
  · revert h
    refine Expr.Slice.elim e q fun l u t p h => ?_
    cases h
    exact ⟨p, rfl⟩
  · rw [dif_neg q] at h; cases h
theorem isNil_ok {α : Type} {l : List α} (h : isNil l = true) : l = [] := by
  cases l with
  | nil => rfl
  | cons _ _ => cases h
theorem one_ok {α : Type} {l : List α} {e : α} (h : one? l = some e) : l = [e] := by
  match l, h with
  | [x], h => cases h; rfl
  | [], h => cases h
  | _ :: _ :: _, h => cases h
end ML
namespace ML
open PySem (Str)
noncomputable def coreFns : List (Str × Nat) := [("row_with", 5), ("row_without", 6), ("model_put", 32), ("model_delete", 33), ("run_on_canopy", 34), ("run_on_model", 35), ("law_invariants_hold_after_every_deed", 36), ("law_canopy_agrees_with_the_model", 37),
  ("law_get_agrees_with_the_model", 38), ("law_remove_tells_the_truth", 39), ("law_remove_undoes_put", 40), ("law_the_order_of_putting_does_not_matter", 41), ("law_range_is_a_filter", 42), ("law_rank_and_select_are_inverse", 43),
  ("law_next_key_is_the_least_greater", 44), ("squares_by_canopy", 45), ("height_after_counting_up", 46)]
noncomputable def coreMts : List (Str × Nat) := [("is_leaf", 2), ("slot", 3), ("lay", 4), ("adopt", 7), ("lookup", 8), ("height", 9), ("split_child", 10), ("put", 11), ("merge_children", 12), ("borrow_from_left", 13), ("borrow_from_right", 14), ("fill_child", 15),
  ("least_below", 16), ("greatest_below", 17), ("delete", 18), ("pairs_below", 19), ("pairs", 20), ("shape_ok", 21), ("keys_ok", 22), ("leaf_level", 23), ("check", 24), ("range_below", 25), ("count_below", 26), ("rank_of", 27), ("select_key", 28),
  ("next_key", 29), ("flat_below", 30), ("flat", 31)]
noncomputable def coreCls : List (Str × Nat) := [("Node", 0), ("Canopy", 1)]
noncomputable def coreAts : List (Str × Nat) := [("key_row", 0), ("value_row", 1), ("children", 2), ("t", 3), ("root", 4), ("size", 5)]
noncomputable def coreStrs : List (Str × Nat) := [("put", 0), ("del", 1)]
noncomputable def coreLv : List (Nat × Nat) := [(0, 0), (1, 1), (2, 0), (3, 0), (4, 0), (5, 0), (6, 0), (7, 0), (8, 1), (9, 1), (10, 1), (11, 2), (12, 1), (13, 1), (14, 1), (15, 2), (16, 1), (17, 1), (18, 3), (19, 1), (20, 2), (21, 0), (22, 0), (23, 1), (24, 2), (25, 1), (26, 0), (27, 1),
  (28, 2), (29, 1), (30, 0), (31, 1), (32, 0), (33, 0), (34, 4), (35, 1), (36, 5), (37, 6), (38, 6), (39, 6), (40, 6), (41, 5), (42, 6), (43, 6), (44, 6), (45, 5), (46, 5)]
noncomputable def mkTab (helpers : List (Str × Nat × Nat)) : Tab :=
  ⟨coreFns ++ helpers.map fun h => (h.1, h.2.1), coreCls, coreMts, coreAts, coreStrs, coreLv ++ helpers.map fun h => (h.2.1, h.2.2)
  ⟩
end ML
namespace ML
open PySem PySem.W PySem.Calls PyProof.Rows
noncomputable abbrev PHeap := PySem.Heap
structure Cfg where
  prog : Program
  w : World
  K : Frag
  h₀ : PHeap
  p : Program
  loose : List Str
  mg : Str → Option Value
  mb : Str → Option Value
  os : OsState
  tab : Tab
  fnA : List (Nat × Addr)
  clsA : List (Nat × Addr)
noncomputable abbrev Cfg.M (C : Cfg) : Model := model C.prog C.w
noncomputable def strIs (k : Nat) (x : Str) : Prop := coreStrs.lookup x = some k
noncomputable def attrIs (i : Nat) (x : Str) : Prop := coreAts.lookup x = some i
noncomputable def RepV : Value → V → Prop
  | .none, .none => True
  | .bool a, .bool b => a = b
  | .int i _, .int j => i = j
  | .float a _, .flt b => a = b
  | .str x _, .str k => strIs k x
  | .ref a, .ref b => a = b
  | _, _ => False
noncomputable def RepE (e : DictEntry) (f : Nat × V) : Prop := ∃ x t, e.key = .str x t ∧ attrIs f.1 x ∧ RepV e.val f.2
noncomputable def RepK (e : Int × Value) (f : Int × V) : Prop := e.1 = f.1 ∧ RepV e.2 f.2
noncomputable def RepO (C : Cfg) (h : PHeap) (a : Addr) : O → Prop
  | .list xs => ∃ vs n, IsL h a vs.toArray n ∧ All2 RepV vs xs ∧ vs.length ≤ 2 * lim
  | .ro xs => ∃ vs, h.IsList a vs.toArray ∧ All2 RepV vs xs ∧ vs.length ≤ 1000
  | .tup xs => ∃ vs, IsTup h a vs.toArray ∧ All2 RepV vs xs ∧ vs.length ≤ 2 * lim
  | .inst c fs => ∃ Ca d es n, C.clsA.lookup c = some Ca ∧ h.get? a = some (instObj Ca d) ∧ h.get? d = some { cls := .type "dict", data := .dict es n } ∧ All2 RepE es.toList fs
  | .dict es => ∃ kvs, h.DictOf (intKind C.prog C.w) a kvs ∧ All2 RepK kvs es ∧ kvs.length ≤ 2 * lim ∧ (a == sysModules) = false
noncomputable def Hid (H : Heap) (h : PHeap) (b : Addr) : Prop := ∃ a c fs o, H a = some (.inst c fs) ∧ h.get? a = some o ∧ o.dict = some b
noncomputable def Fp (H : Heap) (h : PHeap) (b : Addr) : Prop := (∃ xs, H b = some (.list xs)) ∨ (∃ es, H b = some (.dict es)) ∨ Hid H h b
structure StH (C : Cfg) (H : Heap) (s : Shared) : Prop where
  base : ∀ b o, C.h₀.get? b = some o → s.heap.get? b = some o
  rep : ∀ a o, H a = some o → RepO C s.heap a o
  own : ∀ b, Fp H s.heap b → C.h₀.get? b = none
  hid : ∀ b, Hid H s.heap b → H b = none
  inj : ∀ a a' c fs c' fs' o o' d, H a = some (.inst c fs) → H a' = some (.inst c' fs') → s.heap.get? a = some o → s.heap.get? a' = some o' → o.dict = some d → o'.dict = some d → a = a'
  gens : s.gens = #[]
  os : s.os = C.os
structure Ext (H : Heap) (h : PHeap) (H' : Heap) (h' : PHeap) : Prop where
  keep : ∀ b o, h.get? b = some o → ¬ Fp H h b → h'.get? b = some o
  alive : ∀ b, h'.get? b = none → h.get? b = none
  fresh : ∀ b, Fp H' h' b → Fp H h b ∨ h.get? b = none
  dom : ∀ b o, H' b = some o → (∃ o', H b = some o') ∨ h.get? b = none
variable {C : Cfg} {H H' H'' : Heap} {s s' : Shared} {h h' h'' : PHeap}
theorem Ext.refl : Ext H h H h := ⟨fun _ _ e _ => e, fun _ x => x, fun _ x => .inl x, fun _ o e => .inl ⟨o, e⟩⟩
theorem Ext.trans (x : Ext H h H' h') (y : Ext H' h' H'' h'') : Ext H h H'' h'' where
  keep b o e n := y.keep b o (x.keep b o e n) fun f => (x.fresh b f).elim n fun z => by rw [z] at e; cases e
  alive b e := x.alive b (y.alive b e)
  fresh b f := (y.fresh b f).elim (x.fresh b) fun z => .inr (x.alive b z)
  dom b o e := (y.dom b o e).elim (fun ⟨o', e'⟩ => x.dom b o' e') fun z => .inr (x.alive b z)
theorem RepO.look {a : Addr} {o : O} (r : RepO C h a o) : ∃ ob, h.get? a = some ob := by
  cases o with
  | list xs => obtain ⟨vs, n, e, _⟩ := r; exact ⟨_, e⟩
  | ro xs => obtain ⟨vs, ⟨ob, e, _⟩, _⟩ := r; exact ⟨_, e⟩
  | tup xs => obtain ⟨vs, ⟨ob, e, _⟩, _⟩ := r; exact ⟨_, e⟩
  | inst c fs => obtain ⟨Ca, d, es, n, _, e, _⟩ := r; exact ⟨_, e⟩
  | dict es => obtain ⟨l, ⟨o, _, _, e, _⟩, _⟩ := r; exact ⟨_, e⟩
theorem RepO.keeps {a : Addr} {o : O} (r : RepO C h a o) (k : ∀ x, h.get? a = some x → h'.get? a = some x)
    (kd : ∀ c fs, o = .inst c fs → ∀ ob b x, h.get? a = some ob → ob.dict = some b → h.get? b = some x → h'.get? b = some x) : RepO C h' a o := by
  cases o with
  | list xs => obtain ⟨vs, n, e, q⟩ := r; exact ⟨vs, n, k _ e, q⟩
  | ro xs => obtain ⟨vs, ⟨ob, e, q⟩, z⟩ := r; exact ⟨vs, ⟨ob, k _ e, q⟩, z⟩
  | tup xs => obtain ⟨vs, ⟨ob, e, q⟩, z⟩ := r; exact ⟨vs, ⟨ob, k _ e, q⟩, z⟩
  | inst c fs => obtain ⟨Ca, d, es, n, hc, e, ed, z⟩ := r; exact ⟨Ca, d, es, n, hc, k _ e, kd _ _ rfl _ _ _ e rfl ed, z⟩
  | dict es => obtain ⟨l, ⟨o, e1, e2, e, z⟩, q⟩ := r; exact ⟨l, ⟨o, e1, e2, k _ e, z⟩, q⟩
theorem StH.fresh_none (S : StH C H s) : H s.heap.objs.size = none := by
  cases q : H s.heap.objs.size with
  | none => rfl
  | some o => obtain ⟨ob, e⟩ := (S.rep _ _ q).look; exact absurd (Heap.lt_size e) (Nat.lt_irrefl _)
theorem look_size (h : PHeap) : h.get? h.objs.size = none := by
  cases q : h.get? h.objs.size with
  | none => rfl
  | some o => exact absurd (Heap.lt_size q) (Nat.lt_irrefl _)
theorem StH.base_none (S : StH C H s) {b : Addr} (e : s.heap.get? b = none) : C.h₀.get? b = none := by
  cases q : C.h₀.get? b with
  | none => rfl
  | some o => rw [S.base _ _ q] at e; cases e
theorem StH.none_of (S : StH C H s) {b : Addr} (e : s.heap.get? b = none) : H b = none := by
  cases q : H b with
  | none => rfl
  | some o => obtain ⟨ob, x⟩ := (S.rep _ _ q).look; rw [x] at e; cases e
theorem Hid.look (S : StH C H s) {b : Addr} (x : Hid H s.heap b) : ∃ o, s.heap.get? b = some o := by
  obtain ⟨a, c, fs, o, e1, e2, e3⟩ := x
  obtain ⟨Ca, d, es, n, _, e, ed, _⟩ := S.rep _ _ e1
  rw [e] at e2; cases e2; cases e3; exact ⟨_, ed⟩
theorem StH.quiet (S : StH C H s) (P : Addr → Prop) (hk : ∀ b o, s.heap.get? b = some o → ¬ P b → s'.heap.get? b = some o)
    (hP : ∀ b, P b → H b = none ∧ C.h₀.get? b = none ∧ ¬ Hid H s.heap b) (hg : s'.gens = s.gens) (hos : s'.os = s.os) : StH C H s' := by
  have same : ∀ a c fs o, H a = some (.inst c fs) → s'.heap.get? a = some o → s.heap.get? a = some o := fun a c fs o e e' => by
    obtain ⟨ob, x⟩ := (S.rep _ _ e).look
    have := hk _ _ x fun p => by rw [(hP _ p).1] at e; cases e
    rw [this] at e'; cases e'; exact x
  have hid' : ∀ b, Hid H s'.heap b → Hid H s.heap b := fun b ⟨a, c, fs, o, e1, e2, e3⟩ => ⟨a, c, fs, o, e1, same _ _ _ _ e1 e2, e3⟩
  refine ⟨fun b o e => hk _ _ (S.base _ _ e) fun p => (by rw [(hP _ p).2.1] at e; cases e), fun a o e => (S.rep a o e).keeps (fun x hx => hk _ _ hx fun p => (by rw [(hP _ p).1] at e; cases e)) fun c fs ho ob b x e1 e2 hx => hk _ _ hx fun p => ?_,
    fun b f => ?_, fun b x => S.hid _ (hid' _ x), ?_, by rw [hg]; exact S.gens, hos.trans S.os⟩
  · subst ho; exact (hP _ p).2.2 ⟨a, c, fs, ob, e, e1, e2⟩
  · rcases f with f | f | f
    · exact S.own _ (.inl f)
    · exact S.own _ (.inr (.inl f))
    · exact S.own _ (.inr (.inr (hid' _ f)))
  · intro a a' c fs c' fs' o o' d e1 e2 e3 e4
    exact S.inj a a' c fs c' fs' o o' d e1 e2 (same _ _ _ _ e1 e3) (same _ _ _ _ e2 e4)
theorem Hid.same (k : ∀ a c fs, H a = some (.inst c fs) → ∀ o, h.get? a = some o → h'.get? a = some o) (S : ∀ a o, H a = some o → ∃ ob, h.get? a = some ob) {b : Addr} (x : Hid H h' b) : Hid H h b := by
  obtain ⟨a, c, fs, o, e1, e2, e3⟩ := x
  obtain ⟨ob, z⟩ := S _ _ e1
  have := k _ _ _ e1 _ z
  rw [this] at e2; cases e2
  exact ⟨a, c, fs, _, e1, z, e3⟩
theorem StH.quietExt (S : StH C H s) (P : Addr → Prop) (hk : ∀ b o, s.heap.get? b = some o → ¬ P b → s'.heap.get? b = some o)
    (hP : ∀ b, P b → s.heap.get? b = none) : Ext H s.heap H s'.heap := by
  have hk' : ∀ b o, s.heap.get? b = some o → s'.heap.get? b = some o := fun b o e => hk b o e fun p => by rw [hP b p] at e; cases e
  have hid' : ∀ b, Hid H s'.heap b → Hid H s.heap b := fun b x => x.same (fun a c fs e o z => hk' _ _ z) fun a o e => (S.rep _ _ e).look
  refine ⟨fun b o e _ => hk' b o e, fun b e => ?_, fun b f => .inl ?_, fun b o e => .inl ⟨o, e⟩⟩
  · cases q : s.heap.get? b with
    | none => rfl
    | some o => rw [hk' _ _ q] at e; cases e
  · rcases f with f | f | f
    · exact .inl f
    · exact .inr (.inl f)
    · exact .inr (.inr (hid' _ f))
theorem StH.grow (S : StH C H s) (hk : ∀ b o, s.heap.get? b = some o → s'.heap.get? b = some o) (hg : s'.gens = s.gens) (hos : s'.os = s.os) : StH C H s' ∧ Ext H s.heap H s'.heap :=
  ⟨S.quiet (fun _ => False) (fun b o e _ => hk b o e) (fun _ f => f.elim) hg hos, S.quietExt (fun _ => False) (fun b o e _ => hk b o e) fun _ f => f.elim⟩
theorem push_keeps (h : PHeap) (o : Obj) : ∀ b x, h.get? b = some x → (h.push o).get? b = some x := fun _ _ e => Heap.get?_push_of_some o e
theorem StH.push (S : StH C H s) (o : Obj) (tk : Nat) : StH C H { s with heap := s.heap.push o, toks := tk } ∧ Ext H s.heap H (s.heap.push o) :=
  S.grow (s' := { s with heap := s.heap.push o, toks := tk }) (push_keeps _ _) rfl rfl
theorem StH.toks (S : StH C H s) (tk : Nat) : StH C H { s with toks := tk } := (S.grow (s' := { s with toks := tk }) (fun _ _ e => e) rfl rfl).1
theorem StH.forget (S : StH C H s) (l : H'.le H) : StH C H' s :=
  have hd : ∀ b, Hid H' s.heap b → Hid H s.heap b := fun b ⟨a, c, fs, o, e1, e2, e3⟩ => ⟨a, c, fs, o, l _ _ e1, e2, e3⟩
  ⟨S.base, fun a o e => S.rep a o (l _ _ e), fun b f => S.own b (f.imp (fun ⟨x, e⟩ => ⟨x, l _ _ e⟩) fun f => f.imp (fun ⟨x, e⟩ => ⟨x, l _ _ e⟩) (hd b)),
    fun b x => (by
      cases q : H' b with
      | none => rfl
      | some o => have := S.hid b (hd b x); rw [l _ _ q] at this; cases this),
    fun a a' c fs c' fs' o o' d e1 e2 => S.inj a a' c fs c' fs' o o' d (l _ _ e1) (l _ _ e2), S.gens, S.os⟩
theorem Ext.forget (x : Ext H h H' h') (l : H''.le H') : Ext H h H'' h' :=
  ⟨x.keep, x.alive, fun b f => x.fresh b (f.imp (fun ⟨y, e⟩ => ⟨y, l _ _ e⟩) fun f => f.imp (fun ⟨y, e⟩ => ⟨y, l _ _ e⟩) fun ⟨a, c, fs, o, e1, e2, e3⟩ => ⟨a, c, fs, o, l _ _ e1, e2, e3⟩), fun b o e => x.dom b o (l _ _ e)⟩
theorem StH.alloc (S : StH C H s) {ob : Obj} {o : O} {tk : Nat} (hf : ob.isFreed = false) (hn : ∀ c fs, o ≠ .inst c fs) (hr : RepO C (s.heap.push ob) s.heap.objs.size o) :
    StH C (H.upd s.heap.objs.size o) { s with heap := s.heap.push ob, toks := tk } ∧ Ext H s.heap (H.upd s.heap.objs.size o) (s.heap.push ob) := by
  have hz := S.fresh_none
  have hl := look_size s.heap
  obtain ⟨S', E'⟩ := S.push ob tk
  have cases' : ∀ b x, (H.upd s.heap.objs.size o) b = some x → (b = s.heap.objs.size ∧ x = o) ∨ H b = some x := fun b x e => by
    by_cases q : b = s.heap.objs.size
    · subst q; simp [Heap.upd] at e; exact .inl ⟨rfl, e.symm⟩
    · simp [Heap.upd, q] at e; exact .inr e
  have hid' : ∀ b, Hid (H.upd s.heap.objs.size o) (s.heap.push ob) b → Hid H (s.heap.push ob) b := fun b ⟨a, c, fs, x, e1, e2, e3⟩ =>
    (cases' _ _ e1).elim (fun ⟨_, q⟩ => absurd q.symm (hn c fs)) fun e1 => ⟨a, c, fs, x, e1, e2, e3⟩
  have hidO : ∀ b, Hid H (s.heap.push ob) b → Hid H s.heap b := fun b x => x.same (fun _ _ _ _ o e => push_keeps _ _ _ _ e) fun a o e => (S.rep _ _ e).look
  refine ⟨⟨S'.base, fun a x e => ?_, fun b f => ?_, fun b x => ?_, ?_, S'.gens, S'.os⟩, ⟨E'.keep, E'.alive, fun b f => ?_, fun b x e => ?_⟩⟩
  · rcases cases' _ _ e with ⟨rfl, rfl⟩ | e
    · exact hr
    · exact S'.rep _ _ e
  · rcases f with ⟨x, f⟩ | ⟨x, f⟩ | f
    · rcases cases' _ _ f with ⟨rfl, _⟩ | f
      · exact S.base_none hl
      · exact S'.own _ (.inl ⟨x, f⟩)
    · rcases cases' _ _ f with ⟨rfl, _⟩ | f
      · exact S.base_none hl
      · exact S'.own _ (.inr (.inl ⟨x, f⟩))
    · exact S'.own _ (.inr (.inr (hid' _ f)))
  · have y := hid' _ x
    have z := hidO _ y
    obtain ⟨ob', lk⟩ := z.look S
    have ne : b ≠ s.heap.objs.size := fun q => by rw [q, hl] at lk; cases lk
    simp only [Heap.upd, ne, if_false]; exact S'.hid _ y
  · intro a a' c fs c' fs' x x' d e1 e2
    rcases cases' _ _ e1 with ⟨_, q⟩ | e1
    · exact absurd q.symm (hn c fs)
    · rcases cases' _ _ e2 with ⟨_, q⟩ | e2
      · exact absurd q.symm (hn c' fs')
      · exact S'.inj a a' c fs c' fs' x x' d e1 e2
  · rcases f with ⟨x, f⟩ | ⟨x, f⟩ | f
    · rcases cases' _ _ f with ⟨rfl, _⟩ | f
      · exact .inr hl
      · exact .inl (.inl ⟨x, f⟩)
    · rcases cases' _ _ f with ⟨rfl, _⟩ | f
      · exact .inr hl
      · exact .inl (.inr (.inl ⟨x, f⟩))
    · exact .inl (.inr (.inr (hidO _ (hid' _ f))))
  · rcases cases' _ _ e with ⟨rfl, _⟩ | e
    · exact .inr hl
    · exact .inl ⟨x, e⟩
theorem StH.over (S : StH C H s) {l : Addr} {o o' : O} {g : PHeap} {tk : Nat} (ho : H l = some o) (hk : (∃ xs, o = .list xs) ∨ ∃ es, o = .dict es) (hk' : (∃ xs, o' = .list xs) ∨ ∃ es, o' = .dict es)
    (same : ∀ b, b ≠ l → g.get? b = s.heap.get? b) (hl : ∃ ob, g.get? l = some ob) (hr : RepO C g l o') :
    StH C (H.upd l o') { s with heap := g, toks := tk } ∧ Ext H s.heap (H.upd l o') g := by
  have hfp : Fp H s.heap l := by rcases hk with ⟨xs, rfl⟩ | ⟨es, rfl⟩; exact .inl ⟨xs, ho⟩; exact .inr (.inl ⟨es, ho⟩)
  have hne : ∀ c fs, o' ≠ .inst c fs := by rcases hk' with ⟨xs, rfl⟩ | ⟨es, rfl⟩ <;> intro c fs q <;> cases q
  have hnl : ∀ a c fs, H a = some (.inst c fs) → a ≠ l := fun a c fs e q => by subst q; rw [ho] at e; cases e; rcases hk with ⟨xs, q⟩ | ⟨es, q⟩ <;> cases q
  have hnh : ¬ Hid H s.heap l := fun x => by rw [S.hid _ x] at ho; cases ho
  have keep : ∀ b x, s.heap.get? b = some x → b ≠ l → g.get? b = some x := fun b x e n => (same b n).trans e
  have cases' : ∀ b x, (H.upd l o') b = some x → (b = l ∧ x = o') ∨ (b ≠ l ∧ H b = some x) := fun b x e => by
    by_cases q : b = l
    · subst q; simp [Heap.upd] at e; exact .inl ⟨rfl, e.symm⟩
    · simp [Heap.upd, q] at e; exact .inr ⟨q, e⟩
  have hid1 : ∀ b, Hid (H.upd l o') g b → Hid H s.heap b := fun b ⟨a, c, fs, x, e1, e2, e3⟩ =>
    (cases' _ _ e1).elim (fun ⟨_, q⟩ => absurd q.symm (hne c fs)) fun ⟨n, e1⟩ => ⟨a, c, fs, x, e1, by rw [same _ n] at e2; exact e2, e3⟩
  have fp1 : ∀ b, Fp (H.upd l o') g b → Fp H s.heap b := fun b q => by
    rcases q with ⟨x, q⟩ | ⟨x, q⟩ | q
    · rcases cases' _ _ q with ⟨rfl, _⟩ | ⟨_, q⟩
      · exact hfp
      · exact .inl ⟨x, q⟩
    · rcases cases' _ _ q with ⟨rfl, _⟩ | ⟨_, q⟩
      · exact hfp
      · exact .inr (.inl ⟨x, q⟩)
    · exact .inr (.inr (hid1 _ q))
  refine ⟨⟨fun b x e => keep _ _ (S.base _ _ e) fun q => ?_, fun a x e => ?_, fun b q => S.own _ (fp1 _ q), fun b x => ?_, ?_, S.gens, S.os⟩, ⟨fun b x e n => keep _ _ e fun q => n (q ▸ hfp), fun b e => ?_, fun b q => .inl (fp1 _ q), fun b x e => ?_⟩⟩
  · rw [q, S.own _ hfp] at e; cases e
  · rcases cases' _ _ e with ⟨rfl, rfl⟩ | ⟨n, e⟩
    · exact hr
    · refine (S.rep _ _ e).keeps (fun y hy => keep _ _ hy n) fun c fs q ob' b y e1 e2 hy => keep _ _ hy fun z => ?_
      subst q; exact hnh ⟨a, c, fs, ob', e, e1, z ▸ e2⟩
  · have y := hid1 _ x
    have ne : b ≠ l := fun q => hnh (q ▸ y)
    simp only [Heap.upd, ne, if_false]; exact S.hid _ y
  · intro a a' c fs c' fs' x x' d e1 e2 e3 e4
    rcases cases' _ _ e1 with ⟨_, q⟩ | ⟨n1, e1⟩
    · exact absurd q.symm (hne c fs)
    · rcases cases' _ _ e2 with ⟨_, q⟩ | ⟨n2, e2⟩
      · exact absurd q.symm (hne c' fs')
      · have e3 : g.get? a = some x := e3
        have e4 : g.get? a' = some x' := e4
        rw [same _ n1] at e3
        rw [same _ n2] at e4
        exact S.inj a a' c fs c' fs' x x' d e1 e2 e3 e4
  · by_cases q : b = l
    · obtain ⟨ob, z⟩ := hl; subst q; rw [z] at e; cases e
    · rw [same _ q] at e; exact e
  · rcases cases' _ _ e with ⟨rfl, _⟩ | ⟨_, e⟩
    · exact .inl ⟨_, ho⟩
    · exact .inl ⟨x, e⟩
theorem StH.write (S : StH C H s) {l : Addr} {f : Obj → Obj} {o o' : O} {ob : Obj} {tk : Nat} (ho : H l = some o) (hob : s.heap.get? l = some ob) (hk : (∃ xs, o = .list xs) ∨ ∃ es, o = .dict es) (hk' : (∃ xs, o' = .list xs) ∨ ∃ es, o' = .dict es)
    (hf : (f ob).isFreed = false) (hr : RepO C (s.heap.update l f) l o') :
    StH C (H.upd l o') { s with heap := s.heap.update l f, toks := tk } ∧ Ext H s.heap (H.upd l o') (s.heap.update l f) :=
  S.over ho hk hk' (fun b n => Heap.get?_update_other _ f (Ne.symm n)) ⟨_, Heap.get?_update_self f hob hf⟩ hr
end ML
namespace ML
open PySem PySem.W PySem.Calls PyProof.Rows
variable {C : Cfg} {H H' H'' : Heap} {s s' : Shared} {h h' h'' : PHeap}
theorem StH.make (S : StH C H s) {c : Nat} {Ca : Addr} {tk : Nat} (hc : C.clsA.lookup c = some Ca) :
    StH C (H.upd (s.heap.objs.size + 1) (.inst c [])) { s with heap := (s.heap.push emptyDict).push (instObj Ca s.heap.objs.size), toks := tk } ∧
    Ext H s.heap (H.upd (s.heap.objs.size + 1) (.inst c [])) ((s.heap.push emptyDict).push (instObj Ca s.heap.objs.size)) := by
  have h2 : ∀ b x, s.heap.get? b = some x → ((s.heap.push emptyDict).push (instObj Ca s.heap.objs.size)).get? b = some x := fun b x e => push_keeps _ _ _ _ (push_keeps _ _ _ _ e)
  obtain ⟨S', E'⟩ := S.grow (s' := { s with heap := (s.heap.push emptyDict).push (instObj Ca s.heap.objs.size), toks := tk }) h2 rfl rfl
  have hl0 := look_size s.heap
  have hl1 : s.heap.get? (s.heap.objs.size + 1) = none := by
    cases q : s.heap.get? (s.heap.objs.size + 1) with
    | none => rfl
    | some o => exact absurd (Heap.lt_size q) (Nat.not_lt.mpr (Nat.le_succ _))
  have ed : ((s.heap.push emptyDict).push (instObj Ca s.heap.objs.size)).get? s.heap.objs.size = some emptyDict := push_keeps _ _ _ _ (Heap.get?_push_size _ rfl)
  have ei : ((s.heap.push emptyDict).push (instObj Ca s.heap.objs.size)).get? (s.heap.objs.size + 1) = some (instObj Ca s.heap.objs.size) := by
    have := Heap.get?_push_size (s.heap.push emptyDict) (o := instObj Ca s.heap.objs.size) rfl
    rwa [Heap.size_push] at this
  have cases' : ∀ b x, (H.upd (s.heap.objs.size + 1) (.inst c [])) b = some x → (b = s.heap.objs.size + 1 ∧ x = .inst c []) ∨ H b = some x := fun b x e => by
    by_cases q : b = s.heap.objs.size + 1
    · subst q; simp [Heap.upd] at e; exact .inl ⟨rfl, e.symm⟩
    · simp [Heap.upd, q] at e; exact .inr e
  have hid' : ∀ b, Hid (H.upd (s.heap.objs.size + 1) (.inst c [])) ((s.heap.push emptyDict).push (instObj Ca s.heap.objs.size)) b → b = s.heap.objs.size ∨ Hid H s.heap b := fun b ⟨a, c', fs, x, e1, e2, e3⟩ => by
    rcases cases' _ _ e1 with ⟨rfl, _⟩ | e1
    · rw [ei] at e2; cases e2; cases e3; exact .inl rfl
    · refine .inr (Hid.same (h := s.heap) (fun _ _ _ _ o e => h2 _ _ e) (fun a o e => (S.rep _ _ e).look) ⟨a, c', fs, x, e1, e2, e3⟩)
  have noneD : H s.heap.objs.size = none := S.none_of hl0
  refine ⟨⟨S'.base, fun a x e => ?_, fun b f => ?_, fun b x => ?_, ?_, S'.gens, S'.os⟩, ⟨E'.keep, E'.alive, fun b f => ?_, fun b x e => ?_⟩⟩
  · rcases cases' _ _ e with ⟨rfl, rfl⟩ | e
    · exact ⟨Ca, _, #[], 0, hc, ei, ed, .nil⟩
    · exact S'.rep _ _ e
  · rcases f with ⟨x, f⟩ | ⟨x, f⟩ | f
    · rcases cases' _ _ f with ⟨_, q⟩ | f
      · cases q
      · exact S.own _ (.inl ⟨x, f⟩)
    · rcases cases' _ _ f with ⟨_, q⟩ | f
      · cases q
      · exact S.own _ (.inr (.inl ⟨x, f⟩))
    · rcases hid' _ f with rfl | f
      · exact S.base_none hl0
      · exact S.own _ (.inr (.inr f))
  · rcases hid' _ x with rfl | y
    · simp only [Heap.upd, show s.heap.objs.size ≠ s.heap.objs.size + 1 from Nat.ne_of_lt (Nat.lt_succ_self _), if_false]; exact noneD
    · obtain ⟨ob', lk⟩ := y.look S
      have ne : b ≠ s.heap.objs.size + 1 := fun q => by rw [q, hl1] at lk; cases lk
      simp only [Heap.upd, ne, if_false]; exact S.hid _ y
  · intro a a' c1 fs c2 fs' x x' d e1 e2 e3 e4 e5 e6
    have e3 : ((s.heap.push emptyDict).push (instObj Ca s.heap.objs.size)).get? a = some x := e3
    have e4 : ((s.heap.push emptyDict).push (instObj Ca s.heap.objs.size)).get? a' = some x' := e4
    have old : ∀ a c fs x d, H a = some (.inst c fs) → ((s.heap.push emptyDict).push (instObj Ca s.heap.objs.size)).get? a = some x → x.dict = some d → d ≠ s.heap.objs.size := fun a c fs x d e1 e2 e3 q => by
      have := Hid.same (h := s.heap) (fun _ _ _ _ o e => h2 _ _ e) (fun a o e => (S.rep _ _ e).look) (⟨a, c, fs, x, e1, e2, e3⟩ : Hid H _ d)
      obtain ⟨ob', lk⟩ := this.look S
      rw [q, hl0] at lk; cases lk
    rcases cases' _ _ e1 with ⟨rfl, _⟩ | e1
    · rcases cases' _ _ e2 with ⟨rfl, _⟩ | e2
      · rfl
      · rw [ei] at e3; cases e3; cases e5
        exact absurd rfl (old _ _ _ _ _ e2 e4 e6)
    · rcases cases' _ _ e2 with ⟨rfl, _⟩ | e2
      · rw [ei] at e4; cases e4; cases e6
        exact absurd rfl (old _ _ _ _ _ e1 e3 e5)
      · exact S'.inj a a' c1 fs c2 fs' x x' d e1 e2 e3 e4 e5 e6
  · rcases f with ⟨x, f⟩ | ⟨x, f⟩ | f
    · rcases cases' _ _ f with ⟨_, q⟩ | f
      · cases q
      · exact .inl (.inl ⟨x, f⟩)
    · rcases cases' _ _ f with ⟨_, q⟩ | f
      · cases q
      · exact .inl (.inr (.inl ⟨x, f⟩))
    · rcases hid' _ f with rfl | f
      · exact .inr hl0
      · exact .inl (.inr (.inr f))
  · rcases cases' _ _ e with ⟨rfl, _⟩ | e
    · exact .inr hl1
    · exact .inl ⟨x, e⟩
theorem StH.field (S : StH C H s) {a d : Addr} {c : Nat} {fs fs' : List (Nat × V)} {ob : Obj} {f : Obj → Obj} {tk : Nat} (ho : H a = some (.inst c fs)) (hob : s.heap.get? a = some ob) (hd : ob.dict = some d) (hf : ∀ o, s.heap.get? d = some o → (f o).isFreed = false)
    (hr : RepO C (s.heap.update d f) a (.inst c fs')) :
    StH C (H.upd a (.inst c fs')) { s with heap := s.heap.update d f, toks := tk } ∧ Ext H s.heap (H.upd a (.inst c fs')) (s.heap.update d f) := by
  have hh : Hid H s.heap d := ⟨a, c, fs, ob, ho, hob, hd⟩
  have hfp : Fp H s.heap d := .inr (.inr hh)
  have hnd : H d = none := S.hid _ hh
  have keep : ∀ b x, s.heap.get? b = some x → b ≠ d → (s.heap.update d f).get? b = some x := fun b x e n => (Heap.get?_update_other _ f (Ne.symm n)).trans e
  have cases' : ∀ b x, (H.upd a (.inst c fs')) b = some x → (b = a ∧ x = .inst c fs') ∨ (b ≠ a ∧ H b = some x) := fun b x e => by
    by_cases q : b = a
    · subst q; simp [Heap.upd] at e; exact .inl ⟨rfl, e.symm⟩
    · simp [Heap.upd, q] at e; exact .inr ⟨q, e⟩
  have nd : ∀ b x, H b = some x → b ≠ d := fun b x e q => by rw [q, hnd] at e; cases e
  have nda : a ≠ d := nd _ _ ho
  have hid1 : ∀ b, Hid (H.upd a (.inst c fs')) (s.heap.update d f) b → Hid H s.heap b := fun b ⟨a', c', fs1, x, e1, e2, e3⟩ => by
    rcases cases' _ _ e1 with ⟨rfl, _⟩ | ⟨n, e1⟩
    · rw [Heap.get?_update_other _ f (Ne.symm nda)] at e2; exact ⟨a', c, fs, x, ho, e2, e3⟩
    · rw [Heap.get?_update_other _ f (Ne.symm (nd _ _ e1))] at e2; exact ⟨a', c', fs1, x, e1, e2, e3⟩
  have fp1 : ∀ b, Fp (H.upd a (.inst c fs')) (s.heap.update d f) b → Fp H s.heap b := fun b q => by
    rcases q with ⟨x, q⟩ | ⟨x, q⟩ | q
    · rcases cases' _ _ q with ⟨_, q⟩ | ⟨_, q⟩
      · cases q
      · exact .inl ⟨x, q⟩
    · rcases cases' _ _ q with ⟨_, q⟩ | ⟨_, q⟩
      · cases q
      · exact .inr (.inl ⟨x, q⟩)
    · exact .inr (.inr (hid1 _ q))
  refine ⟨⟨fun b x e => keep _ _ (S.base _ _ e) fun q => ?_, fun b x e => ?_, fun b q => S.own _ (fp1 _ q), fun b x => ?_, ?_, S.gens, S.os⟩, ⟨fun b x e n => keep _ _ e fun q => n (q ▸ hfp), fun b e => ?_, fun b q => .inl (fp1 _ q), fun b x e => ?_⟩⟩
  · rw [q, S.own _ hfp] at e; cases e
  · rcases cases' _ _ e with ⟨rfl, rfl⟩ | ⟨n, e⟩
    · exact hr
    · refine (S.rep _ _ e).keeps (fun y hy => keep _ _ hy (nd _ _ e)) fun c1 fs1 q ob' b' y e1 e2 hy => keep _ _ hy fun z => ?_
      subst q z
      exact n (S.inj b a c1 fs1 c fs ob' ob b' e ho e1 hob e2 hd)
  · have y := hid1 _ x
    have ne : b ≠ a := fun q => by rw [q] at y; have := S.hid _ y; rw [ho] at this; cases this
    simp only [Heap.upd, ne, if_false]; exact S.hid _ y
  · intro a1 a2 c1 fs1 c2 fs2 x x' d' e1 e2 e3 e4 e5 e6
    have e3 : (s.heap.update d f).get? a1 = some x := e3
    have e4 : (s.heap.update d f).get? a2 = some x' := e4
    have g1 : ∃ c1 fs1, H a1 = some (.inst c1 fs1) := by rcases cases' _ _ e1 with ⟨rfl, _⟩ | ⟨_, e⟩; exact ⟨_, _, ho⟩; exact ⟨_, _, e⟩
    have g2 : ∃ c2 fs2, H a2 = some (.inst c2 fs2) := by rcases cases' _ _ e2 with ⟨rfl, _⟩ | ⟨_, e⟩; exact ⟨_, _, ho⟩; exact ⟨_, _, e⟩
    refine absG fun Cg hCg => ?_
    obtain ⟨_, _, g1⟩ := g1
    obtain ⟨_, _, g2⟩ := g2
    refine hCg ?_; clear hCg
    rw [Heap.get?_update_other _ f (Ne.symm (nd _ _ g1))] at e3
    rw [Heap.get?_update_other _ f (Ne.symm (nd _ _ g2))] at e4
    exact S.inj a1 a2 _ _ _ _ x x' d' g1 g2 e3 e4 e5 e6
  · by_cases q : b = d
    · obtain ⟨od, lk⟩ := hh.look S
      rw [q, Heap.get?_update_self f lk (hf _ lk)] at e; cases e
    · rw [Heap.get?_update_other _ f (Ne.symm q)] at e; exact e
  · rcases cases' _ _ e with ⟨rfl, _⟩ | ⟨_, e⟩
    · exact .inl ⟨_, ho⟩
    · exact .inl ⟨x, e⟩
noncomputable def OptRep : Option Value → Option V → Prop
  | none, none => True
  | some v, some w => RepV v w
  | _, _ => False
structure EnvOk (c : Ctx) (env : Env) : Prop where
  glob : env.globals = mainGlobals
  blts : env.builtins = builtinsNs
  kind : env.scope.kind = .function
  kglob : ∀ x, c.kinds.lookup x = some .globalImplicit → env.kindOf x = some .globalImplicit
  kloc : ∀ x, c.kinds.lookup x = some .local → env.kindOf x = some .local
  kcell : ∀ x, c.kinds.lookup x = some .cell → env.kindOf x = some .cell
  kfree : ∀ x, c.kinds.lookup x = some .free → env.kindOf x = some .free ∨ env.kindOf x = some .cell
  inj : ∀ x y i, c.ν.lookup x = some i → c.ν.lookup y = some i → x = y
  bnd : ∀ x i, c.ν.lookup x = some i → i < c.next
noncomputable def isCell (c : Ctx) (x : Str) : Prop := c.kinds.lookup x = some .cell ∨ c.kinds.lookup x = some .free
structure EnvSt (C : Cfg) (c : Ctx) (env : Env) (m : Loc) (H : Heap) (h : PHeap) : Prop where
  len : m.length = c.next
  ns : ∃ mm, h.Ns env.locals mm ∧ ∀ x i, c.ν.lookup x = some i → c.kinds.lookup x = some .local → OptRep (mm x) (m[i]?.join)
  cells : ∀ x i, c.ν.lookup x = some i → isCell c x → ∃ a ov, env.cells.lookup x = some a ∧ h.IsCell a ov ∧ OptRep ov (m[i]?.join)
  apL : H env.locals = none ∧ ¬ Hid H h env.locals ∧ C.h₀.get? env.locals = none
  apC : ∀ x a, env.cells.lookup x = some a → H a = none ∧ ¬ Hid H h a ∧ C.h₀.get? a = none ∧ a ≠ env.locals ∧ ∃ o, h.get? a = some o
  injC : ∀ x y a, env.cells.lookup x = some a → env.cells.lookup y = some a → x = y
theorem not_fp {b : Addr} (a : H b = none) (n : ¬ Hid H h b) : ¬ Fp H h b := fun f => by
  rcases f with ⟨x, f⟩ | ⟨x, f⟩ | f
  · rw [a] at f; cases f
  · rw [a] at f; cases f
  · exact n f
theorem Ext.apart (x : Ext H h H' h') {b : Addr} {o : Obj} (e : h.get? b = some o) (a : H b = none) (n : ¬ Hid H h b) : h'.get? b = some o ∧ H' b = none ∧ ¬ Hid H' h' b := by
  refine ⟨x.keep _ _ e (not_fp a n), ?_, fun y => ?_⟩
  · cases q : H' b with
    | none => rfl
    | some o' =>
      rcases x.dom _ _ q with ⟨z, q⟩ | q
      · rw [a] at q; cases q
      · rw [e] at q; cases q
  · rcases x.fresh _ (.inr (.inr y)) with f | q
    · exact not_fp a n f
    · rw [e] at q; cases q
theorem EnvSt.ext {c : Ctx} {env : Env} {m : Loc} (x : EnvSt C c env m H h) (y : Ext H h H' h') : EnvSt C c env m H' h' := by
  refine absG fun Cg hCg => ?_
  obtain ⟨mm, ⟨o, es, ep, ho, hr⟩, hm⟩ := x.ns
  have l := y.apart ho x.apL.1 x.apL.2.1
  refine hCg ?_; clear hCg
  refine ⟨x.len, ⟨mm, ⟨o, es, ep, l.1, hr⟩, hm⟩, fun z i e k => ?_, ⟨l.2.1, l.2.2, x.apL.2.2⟩, fun z a e => ?_, x.injC⟩
  · refine absG fun Cg hCg => ?_
    obtain ⟨a, ov, e1, ⟨oc, e2, e3⟩, e4⟩ := x.cells z i e k
    obtain ⟨n1, n2, n3, n4, _⟩ := x.apC _ _ e1
    refine hCg ?_; clear hCg
    exact ⟨a, ov, e1, ⟨oc, (y.apart e2 n1 n2).1, e3⟩, e4⟩
  · refine absG fun Cg hCg => ?_
    obtain ⟨n1, n2, n3, n4, o', lk⟩ := x.apC _ _ e
    have q := y.apart lk n1 n2
    refine hCg ?_; clear hCg
    exact ⟨q.2.1, q.2.2, n3, n4, o', q.1⟩
end ML
namespace ML
open PySem PySem.W PySem.Calls PyProof.Rows
variable {C : Cfg} {H H' H'' : Heap} {s s' : Shared} {h h' h'' : PHeap} {A : Around}
noncomputable def PE (C : Cfg) (H : Heap) (s : Shared) (Q : PV) : Value → Shared → Prop := fun v s' => ∃ mv H', RepV v mv ∧ StH C H' s' ∧ Ext H s.heap H' s'.heap ∧ Q mv H'
noncomputable def PB (C : Cfg) (H : Heap) (s : Shared) (Q : Bool → Prop) : Value → Shared → Prop := fun v s' => ∃ r, v = .bool r ∧ StH C H s' ∧ Ext H s.heap H s'.heap ∧ Q r
noncomputable def NoE : Value → Shared → Prop := fun _ _ => False
structure AOk (A : Around) (n : Nat) : Prop where
  hd : A.handled = none
  dp : A.depth + 4 * n ≤ 900
  un : A.units + 20 * n ≤ 9000
theorem RepV.int {v : Value} {i : Int} (r : RepV v (.int i)) : ∃ t, v = .int i t := by cases v <;> first | exact r.elim | (cases (show _ = _ from r); exact ⟨_, rfl⟩)
theorem RepV.ref {v : Value} {a : Nat} (r : RepV v (.ref a)) : v = .ref a := by cases v <;> first | exact r.elim | (cases (show _ = _ from r); rfl)
theorem RepV.none {v : Value} (r : RepV v .none) : v = .none := by cases v <;> first | exact r.elim | rfl
theorem RepV.bool {v : Value} {b : Bool} (r : RepV v (.bool b)) : v = .bool b := by cases v <;> first | exact r.elim | (cases (show _ = _ from r); rfl)
theorem RepV.str {v : Value} {k : Nat} (r : RepV v (.str k)) : ∃ x t, v = .str x t ∧ strIs k x := by cases v <;> first | exact r.elim | exact ⟨_, _, rfl, r⟩
theorem RepV.flt {v : Value} {k : UInt64} (r : RepV v (.flt k)) : ∃ t, v = .float k t := by cases v <;> first | exact r.elim | (cases (show _ = _ from r); exact ⟨_, rfl⟩)
theorem PE.here {Q : PV} {v : Value} {mv : V} (S : StH C H s) (r : RepV v mv) (q : Q mv H) (tk : Nat) : PE C H s Q v { s with toks := tk } := ⟨mv, H, r, S.toks tk, Ext.refl, q⟩
theorem PE.at {Q : PV} {v : Value} {mv : V} (S : StH C H s) (r : RepV v mv) (q : Q mv H) : PE C H s Q v s := ⟨mv, H, r, S, Ext.refl, q⟩
theorem PB.at {Q : Bool → Prop} {r : Bool} (S : StH C H s) (q : Q r) : PB C H s Q (.bool r) s := ⟨r, rfl, S, Ext.refl, q⟩
theorem All2.take {α β : Type} {R : α → β → Prop} : ∀ {l : List α} {m : List β} (i : Nat), All2 R l m → All2 R (l.take i) (m.take i)
  | _, _, 0, _ => by simpa using .nil
  | _, _, i + 1, .nil => by simpa using .nil
  | _, _, i + 1, .cons a r => .cons a (r.take i)
theorem All2.drop {α β : Type} {R : α → β → Prop} : ∀ {l : List α} {m : List β} (i : Nat), All2 R l m → All2 R (l.drop i) (m.drop i)
  | _, _, 0, r => r
  | _, _, i + 1, .nil => by simpa using .nil
  | _, _, i + 1, .cons _ r => r.drop i
theorem All2.eraseIdx {α β : Type} {R : α → β → Prop} : ∀ {l : List α} {m : List β} (i : Nat), All2 R l m → All2 R (l.eraseIdx i) (m.eraseIdx i)
  | _, _, _, .nil => by simpa using .nil
  | _, _, 0, .cons _ r => r
  | _, _, i + 1, .cons a r => .cons a (r.eraseIdx i)
theorem All2.set {α β : Type} {R : α → β → Prop} {x : α} {y : β} (h : R x y) : ∀ {l : List α} {m : List β} (i : Nat), All2 R l m → All2 R (l.set i x) (m.set i y)
  | _, _, _, .nil => by simpa using .nil
  | _, _, 0, .cons _ r => .cons h r
  | _, _, i + 1, .cons a r => .cons a (r.set h i)
theorem sizeLine_lim {n : Nat} (h : n ≤ lim) : n ≤ sizeLine := by
  have : lim ≤ sizeLine := by decide
  (first | lia | omega)
theorem PE.list {Q : PV} {vs : List Value} {xs : List V} (S : StH C H s) (hr : All2 RepV vs xs) (hz : xs.length ≤ 2 * lim) (hw : allocW (.list xs) H Q) {n : Nat} :
    PE C H s Q (.ref s.heap.objs.size) { s with heap := s.heap.push { cls := .type "list", data := .seq vs.toArray n } } := by
  obtain ⟨S', E'⟩ := S.alloc (ob := { cls := .type "list", data := .seq vs.toArray n }) (o := .list xs) (tk := s.toks) rfl (fun _ _ q => by cases q) ⟨vs, n, Heap.get?_push_size _ rfl, hr, hr.length ▸ hz⟩
  exact ⟨.ref _, _, rfl, S', E', hw _ S.fresh_none⟩
theorem PE.tup {Q : PV} {vs : List Value} {xs : List V} (S : StH C H s) (hr : All2 RepV vs xs) (hz : xs.length ≤ 2 * lim) (hw : allocW (.tup xs) H Q) {n : Nat} :
    PE C H s Q (.ref s.heap.objs.size) { s with heap := s.heap.push { cls := .type "tuple", data := .seq vs.toArray n } } := by
  obtain ⟨S', E'⟩ := S.alloc (ob := { cls := .type "tuple", data := .seq vs.toArray n }) (o := .tup xs) (tk := s.toks) rfl (fun _ _ q => by cases q) ⟨vs, ⟨_, Heap.get?_push_size _ rfl, rfl, n, rfl⟩, hr, hr.length ▸ hz⟩
  exact ⟨.ref _, _, rfl, S', E', hw _ S.fresh_none⟩
theorem mulOk {x y : Int} (h : mid x ∨ mid y) : IntMulOk x y := by
  rcases h with h | h
  · exact .of_left (intBits_le_64 (by have := h.1; (first | lia | omega)) (by have := h.2; (first | lia | omega)))
  · exact .of_right (intBits_le_64 (by have := h.1; (first | lia | omega)) (by have := h.2; (first | lia | omega)))
theorem PE.int {Q : PV} {i : Int} {t : Tok} (S : StH C H s) (q : Q (.int i) H) (tk : Nat) : PE C H s Q (.int i t) { s with toks := tk } := ⟨.int i, H, rfl, S.toks tk, Ext.refl, q⟩
theorem int2_get {F : Int → Int → Prop} {x y : V} (h : intW2 x y F) : ∃ i j, x = .int i ∧ y = .int j ∧ F i j := by
  cases x with
  | int i => cases y with
    | int j => exact ⟨i, j, rfl, rfl, h⟩
    | _ => exact h.elim
  | _ => exact h.elim
theorem two_ints {a b : Value} {i j : Int} (ha : RepV a (.int i)) (hb : RepV b (.int j)) : ∃ t u, a = .int i t ∧ b = .int j u := by
  obtain ⟨t, rfl⟩ := ha.int; obtain ⟨u, rfl⟩ := hb.int; exact ⟨t, u, rfl, rfl⟩
theorem bop_ok {op : Bop} {pop : Operator} {a b : Value} {x y : V} {Q : PV} (S : StH C H s) (ha : RepV a x) (hb : RepV b y) (ho : trOp pop = some op) (hw : bopW op x y H Q) :
    wpAny C.M A (binaryOp pop a b) (PE C H s Q) NoE s := by
  cases pop <;> simp only [trOp, Option.some.injEq, reduceCtorEq] at ho <;> subst ho
  case Add =>
    cases x with
    | int x => cases y with
      | int y =>
        obtain ⟨t, rfl⟩ := ha.int; obtain ⟨u, rfl⟩ := hb.int
        exact P.add_int (PE.int S hw _)
      | _ => exact hw.elim
    | ref p => cases y with
      | ref q =>
        cases ha.ref; cases hb.ref
        replace hw : addL p q H Q := hw
        unfold addL at hw
        split at hw
        case h_2 => exact hw.elim
        rename_i xs hx
        split at hw
        · rename_i ys hy
          obtain ⟨vs, n, l1, r1, _⟩ := S.rep _ _ hx
          obtain ⟨us, n', l2, r2, _⟩ := S.rep _ _ hy
          have z : (vs.toArray ++ us.toArray) = (vs ++ us).toArray := by simp
          refine P.add_list l1 l2 (by rw [z]; exact PE.list S (r1.append r2) (by rw [List.length_append]; have := hw.1; (first | lia | omega)) hw.2) (by have := sizeLine_lim hw.1; simp only [List.size_toArray, r1.length, r2.length]; (first | lia | omega))
        · exact hw.elim
      | _ => exact hw.elim
    | _ => exact hw.elim
  case Sub =>
    obtain ⟨i, j, rfl, rfl, q⟩ := int2_get hw; obtain ⟨t, u, rfl, rfl⟩ := two_ints ha hb; exact P.sub_int (PE.int S q _)
  case Mult =>
    cases x with
    | int x => cases y with
      | int y =>
        obtain ⟨t, rfl⟩ := ha.int; obtain ⟨u, rfl⟩ := hb.int
        exact P.mul_int (PE.int S hw.2 _) (mulOk hw.1)
      | _ => exact hw.elim
    | _ => exact hw.elim
  case Mod =>
    obtain ⟨x, y, rfl, rfl, hw⟩ := int2_get hw; obtain ⟨t, u, rfl, rfl⟩ := two_ints ha hb
    have e : x.fmod y = x % y := Int.fmod_eq_emod_of_nonneg _ (Int.le_of_lt hw.1)
    exact mod_int' (fun q => by rw [q] at hw; exact absurd hw.1 (by decide)) (by rw [e]; exact PE.int S hw.2 _)
  case FloorDiv =>
    obtain ⟨x, y, rfl, rfl, hw⟩ := int2_get hw; obtain ⟨t, u, rfl, rfl⟩ := two_ints ha hb
    have e : x.fdiv y = x / y := Int.fdiv_eq_ediv_of_nonneg _ (Int.le_of_lt hw.1)
    exact floordiv_int (fun q => by rw [q] at hw; exact absurd hw.1 (by decide)) (by rw [e]; exact PE.int S hw.2.2 _) (.inl (PyProof.noPylong_small (by have := hw.1; have := hw.2.1; (first | lia | omega))))
theorem neg_ok {a : Value} {x : V} {Q : PV} (S : StH C H s) (ha : RepV a x) (hw : negW x H Q) : wpAny C.M A (unaryOp .USub a) (PE C H s Q) NoE s := by
  unfold negW at hw
  split at hw
  · obtain ⟨t, rfl⟩ := ha.int
    exact P.neg_int (PE.int S hw _)
  · exact hw.elim
theorem truthy_ok {a : Value} {x : V} {Q : Bool → Prop} (S : StH C H s) (ha : RepV a x) (hw : truthW x H Q) : wpAny C.M A (truthy a) (fun r s' => s' = s ∧ Q r) NoE s := by
  unfold truthW at hw
  split at hw
  · cases ha.none; exact fun _ _ _ => ⟨rfl, hw⟩
  · cases ha.bool; exact wpAny_truthy_bool ⟨rfl, hw⟩
  · rename_i i
    obtain ⟨t, rfl⟩ := ha.int
    refine P.truthy_int ⟨rfl, ?_⟩
    have : (i != 0) = decide (i ≠ 0) := by by_cases q : i = 0 <;> simp [q]
    rw [this]; exact hw
  · exact hw.elim
theorem is_ok {a b : Value} {x y : V} {Q : Bool → Prop} (S : StH C H s) (ha : RepV a x) (hb : RepV b y) (hw : isW x y H Q) : wpAny C.M A (isSame a b) (fun r s' => s' = s ∧ Q r) NoE s := by
  have plain : ∀ {r : Bool}, plainIs a b = true → (a == b) = r → Q r → wpAny C.M A (isSame a b) (fun r s' => s' = s ∧ Q r) NoE s := fun hp e q => wpAny_isSame_plain hp ⟨rfl, e ▸ q⟩
  cases x with
  | ref p => cases y with
    | ref q =>
      cases ha.ref; cases hb.ref
      by_cases e : p = q
      · subst e; exact wpAny_isSame_ref_self ⟨rfl, hw.1 rfl⟩
      · obtain ⟨n, i, k⟩ := hw.2 e
        obtain ⟨oq, hq⟩ := Option.isSome_iff_exists.mp i
        obtain ⟨ob, lq⟩ := (S.rep _ _ hq).look
        cases hp : H p with
        | none => rw [hp] at n; exact n.elim
        | some op =>
          rw [hp] at n
          have r := S.rep _ _ hp
          cases op with
          | tup => exact n.elim
          | list xs => obtain ⟨vs, k', l, _⟩ := r; exact wpAny_isSame_ref_other e l lq (by show Value.type "list" ≠ _; decide) ⟨rfl, k⟩
          | ro xs => obtain ⟨vs, ⟨o, l, c, _⟩, _⟩ := r; exact wpAny_isSame_ref_other e l lq (by rw [c]; decide) ⟨rfl, k⟩
          | inst c fs => obtain ⟨Ca, d, es, n', _, l, _⟩ := r; exact wpAny_isSame_ref_other e l lq (by intro z; cases z) ⟨rfl, k⟩
          | dict es => obtain ⟨vs, ⟨ob, _, _, l, ed, _⟩, _⟩ := r; exact wpAny_isSame_ref_other e l lq (by rw [ed.1]; decide) ⟨rfl, k⟩
    | none => cases ha.ref; cases hb.none; exact plain rfl rfl hw
    | bool c => cases ha.ref; cases hb.bool; exact plain rfl rfl hw
    | _ => exact hw.elim
  | none => cases y with
    | none => cases ha.none; cases hb.none; exact plain rfl rfl hw
    | bool c => cases ha.none; cases hb.bool; exact plain rfl rfl hw
    | ref q => cases ha.none; cases hb.ref; exact plain rfl rfl hw
    | int i => cases ha.none; obtain ⟨t, rfl⟩ := hb.int; exact plain rfl rfl hw
    | flt i => cases ha.none; obtain ⟨t, rfl⟩ := hb.flt; exact plain rfl rfl hw
    | _ => exact hw.elim
  | bool c => cases y with
    | none => cases ha.bool; cases hb.none; exact plain rfl rfl hw
    | bool c' =>
      cases ha.bool; cases hb.bool
      refine plain rfl ?_ hw
      cases c <;> cases c' <;> rfl
    | ref q => cases ha.bool; cases hb.ref; exact plain rfl rfl hw
    | _ => exact hw.elim
  | int i => cases y with
    | none => obtain ⟨t, rfl⟩ := ha.int; cases hb.none; exact plain rfl rfl hw
    | bool c => obtain ⟨t, rfl⟩ := ha.int; cases hb.bool; exact plain rfl rfl hw
    | ref c => obtain ⟨t, rfl⟩ := ha.int; cases hb.ref; exact plain rfl rfl hw
    | _ => exact hw.elim
  | flt i => cases y with
    | none => obtain ⟨t, rfl⟩ := ha.flt; cases hb.none; exact plain rfl rfl hw
    | _ => exact hw.elim
  | str i => cases y with
    | none => obtain ⟨x, t, rfl, _⟩ := ha.str; cases hb.none; exact plain rfl rfl hw
    | _ => exact hw.elim
theorem strIs.inj {k l : Nat} {x : Str} (a : strIs k x) (b : strIs l x) : k = l := by unfold strIs at a b; rw [a] at b; exact Option.some.inj b
theorem strIs.uniq {k : Nat} {x y : Str} (a : strIs k x) (b : strIs k y) : x = y := by
  have key : ∀ z : Str, strIs k z → (k = 0 ∧ z = "put") ∨ (k = 1 ∧ z = "del") := fun z e => by
    unfold strIs coreStrs at e
    simp only [List.lookup] at e
    split at e
    · rename_i q; exact .inl ⟨(Option.some.inj e).symm, beq_iff_eq.mp q⟩
    · split at e
      · rename_i q; exact .inr ⟨(Option.some.inj e).symm, beq_iff_eq.mp q⟩
      · cases e
  rcases key x a with ⟨e1, e2⟩ | ⟨e1, e2⟩ <;> rcases key y b with ⟨e3, e4⟩ | ⟨e3, e4⟩
  · rw [e2, e4]
  · rw [e1] at e3; cases e3
  · rw [e1] at e3; cases e3
  · rw [e2, e4]
end ML
namespace ML
open PySem PySem.W PySem.Calls PyProof.Rows
variable {C : Cfg} {Φ : Orac} {c : Ctx} {H H' H'' H1 : Heap} {s s' s1 : Shared} {h h' h'' : PHeap} {A : Around} {env : Env} {m : Loc}
noncomputable def PEs (C : Cfg) (n : Nat) (H : Heap) (s : Shared) (Q : List V → Heap → Prop) : List Value → Shared → Prop := fun vs s' => ∃ xs H', vs.length = n ∧ All2 RepV vs xs ∧ StH C H' s' ∧ Ext H s.heap H' s'.heap ∧ Q xs H'
noncomputable def PT (C : Cfg) (H : Heap) (s : Shared) (Q : Bool → Heap → Prop) : Bool → Shared → Prop := fun r s' => ∃ H', StH C H' s' ∧ Ext H s.heap H' s'.heap ∧ Q r H'
theorem PE.ext {Q : PV} {v : Value} (x : Ext H s.heap H1 s1.heap) (y : PE C H1 s1 Q v s') : PE C H s Q v s' := let ⟨mv, H', r, S, e, q⟩ := y; ⟨mv, H', r, S, x.trans e, q⟩
theorem PT.ext {Q : Bool → Heap → Prop} {v : Bool} (x : Ext H s.heap H1 s1.heap) (y : PT C H1 s1 Q v s') : PT C H s Q v s' := let ⟨H', S, e, q⟩ := y; ⟨H', S, x.trans e, q⟩
structure At (C : Cfg) (c : Ctx) (env : Env) (A : Around) (m : Loc) (H : Heap) (s : Shared) : Prop where
  eo : EnvOk c env
  ao : AOk A c.top
  S : StH C H s
  N : EnvSt C c env m H s.heap
theorem At.on (a : At C c env A m H s) (S : StH C H1 s1) (x : Ext H s.heap H1 s1.heap) : At C c env A m H1 s1 := ⟨a.eo, a.ao, S, a.N.ext x⟩
noncomputable def SndE (C : Cfg) (Φ : Orac) (c : Ctx) (e : Expr) (me : E) : Prop :=
  ∀ {env : Env} {A : Around} {m : Loc} {H : Heap} {s : Shared} {Q : PV}, At C c env A m H s → wpE Φ me m H Q → wpAny C.M A (eval e env) (PE C H s Q) NoE s
noncomputable def SndT (C : Cfg) (Φ : Orac) (c : Ctx) (e : Expr) (me : E) : Prop :=
  ∀ {env : Env} {A : Around} {m : Loc} {H : Heap} {s : Shared} {Q : Bool → Heap → Prop}, At C c env A m H s → wpT Φ me m H Q → wpAny C.M A (isTrue e env (eval e env)) (PT C H s Q) NoE s
noncomputable def SndEs (C : Cfg) (Φ : Orac) (c : Ctx) (es : List Expr) (mes : List E) : Prop :=
  ∀ {env : Env} {A : Around} {m : Loc} {H : Heap} {s : Shared} {Q : List V → Heap → Prop} {pos : Pos}, At C c env A m H s → wpEs Φ mes m H Q → wpAny C.M A (spliced (backTo pos (starEach es env))) (PEs C es.length H s Q) NoE s
theorem SndE.then {e : Expr} {me : E} {Q : PV} {R : Value → Shared → Prop} (h : SndE C Φ c e me) (a : At C c env A m H s) (hw : wpE Φ me m H Q)
    (k : ∀ v s1 x H1, RepV v x → At C c env A m H1 s1 → Ext H s.heap H1 s1.heap → Q x H1 → R v s1) : wpAny C.M A (eval e env) R NoE s :=
  wpAny_mono (h a hw) (fun v s1 ⟨x, H1, r, S1, E1, q⟩ => k v s1 x H1 r (a.on S1 E1) E1 q) fun _ _ f => f.elim
theorem SndT.then {e : Expr} {me : E} {Q : Bool → Heap → Prop} {R : Bool → Shared → Prop} (h : SndT C Φ c e me) (a : At C c env A m H s) (hw : wpT Φ me m H Q)
    (k : ∀ r s1 H1, At C c env A m H1 s1 → Ext H s.heap H1 s1.heap → Q r H1 → R r s1) : wpAny C.M A (isTrue e env (eval e env)) R NoE s :=
  wpAny_mono (h a hw) (fun r s1 ⟨H1, S1, E1, q⟩ => k r s1 H1 (a.on S1 E1) E1 q) fun _ _ f => f.elim
theorem SndEs.then {es : List Expr} {mes : List E} {pos : Pos} {Q : List V → Heap → Prop} {R : List Value → Shared → Prop} (h : SndEs C Φ c es mes) (a : At C c env A m H s) (hw : wpEs Φ mes m H Q)
    (k : ∀ vs s1 xs H1, vs.length = es.length → All2 RepV vs xs → At C c env A m H1 s1 → Ext H s.heap H1 s1.heap → Q xs H1 → R vs s1) : wpAny C.M A (spliced (backTo pos (starEach es env))) R NoE s :=
  wpAny_mono (h a hw) (fun v s1 ⟨x, H1, l, r, S1, E1, q⟩ => k v s1 x H1 l r (a.on S1 E1) E1 q) fun _ _ f => f.elim
theorem wpAny_noE {α : Type} {t : Sem α} {R : α → Shared → Prop} {E' : Value → Shared → Prop} (h : wpAny C.M A t R NoE s) : wpAny C.M A t R E' s := wpAny_mono h (fun _ _ z => z) fun _ _ f => f.elim
theorem wpAny_ext {α : Type} {t : Sem α} {R : α → Shared → Prop} {R' : α → Shared → Prop} (h : wpAny C.M A t R NoE s) (k : ∀ v s', R v s' → R' v s') : wpAny C.M A t R' NoE s := wpAny_mono h k fun _ _ f => f.elim
theorem name_ok {x : Str} {pos : Pos} {k : NameKind} {i : Nat} {Q : PV} (hd : (x == ("__debug__" : Str)) = false) (hcd : (x == ("__classdict__" : Str)) = false) (hk : c.kinds.lookup x = some k) (hv : isVarKind k = true) (hi : c.ν.lookup x = some i)
    (a : At C c env A m H s) (hw : wpE Φ (.var i) m H Q) : wpAny C.M A (eval (.Name x pos) env) (PE C H s Q) NoE s := by
  have hw' : varW m[i]? fun v => Q v H := hw
  unfold varW at hw'
  split at hw'
  · rename_i v hm
    refine wpAny_Name ?_ hd
    have fin : ∀ ov, OptRep ov (m[i]?.join) → ∃ pv, ov = some pv ∧ RepV pv v := fun ov r => by
      rw [hm] at r
      cases ov with
      | none => exact r.elim
      | some pv => exact ⟨pv, rfl, r⟩
    cases k with
    | «local» =>
      obtain ⟨mm, hn, hm'⟩ := a.N.ns
      obtain ⟨pv, e, r⟩ := fin _ (hm' x i hi hk)
      exact wpAny_loadName_local a.eo.kind (a.eo.kloc _ hk) hn e (PE.at a.S r hw')
    | cell =>
      obtain ⟨ca, ov, e1, e2, e3⟩ := a.N.cells x i hi (.inl hk)
      obtain ⟨pv, rfl, r⟩ := fin _ e3
      exact wpAny_loadName_cell a.eo.kind (a.eo.kcell _ hk) e1 e2 (PE.at a.S r hw')
    | free =>
      obtain ⟨ca, ov, e1, e2, e3⟩ := a.N.cells x i hi (.inr hk)
      obtain ⟨pv, rfl, r⟩ := fin _ e3
      rcases a.eo.kfree _ hk with q | q
      · exact wpAny_loadName_free a.eo.kind q e1 e2 (PE.at a.S r hw') hcd
      · exact wpAny_loadName_cell a.eo.kind q e1 e2 (PE.at a.S r hw')
    | _ => cases hv
  · exact hw'.elim
theorem lit_ok {k : Const} {n : Nat} {pos : Pos} {e : E} {Q : PV} (hs : c.tab.sts = coreStrs) (ht : trConst c k = some e) (a : At C c env A m H s) (hw : wpE Φ e m H Q) : wpAny C.M A (eval (.Constant k n pos) env) (PE C H s Q) NoE s := by
  cases k with
  | none => cases ht; simp only [w_var, w_lit, w_bop, w_neg, w_cmp, w_cmp2, w_and, w_or, w_not, w_call, w_meth, w_new, w_prim, w_attr, w_idx, w_slice, w_list, w_tup, w_comp] at hw; exact wpAny_Constant_none (PE.at (mv := .none) a.S trivial hw)
  | bool b => cases ht; simp only [w_var, w_lit, w_bop, w_neg, w_cmp, w_cmp2, w_and, w_or, w_not, w_call, w_meth, w_new, w_prim, w_attr, w_idx, w_slice, w_list, w_tup, w_comp] at hw; exact wpAny_Constant_bool (PE.at (mv := .bool b) a.S rfl hw)
  | int i => cases ht; simp only [w_var, w_lit, w_bop, w_neg, w_cmp, w_cmp2, w_and, w_or, w_not, w_call, w_meth, w_new, w_prim, w_attr, w_idx, w_slice, w_list, w_tup, w_comp] at hw; exact wpAny_Constant_int (PE.int a.S hw _)
  | float b => cases ht; simp only [w_var, w_lit, w_bop, w_neg, w_cmp, w_cmp2, w_and, w_or, w_not, w_call, w_meth, w_new, w_prim, w_attr, w_idx, w_slice, w_list, w_tup, w_comp] at hw; exact fun _ _ _ => PE.here (v := .float b s.toks) (mv := .flt b) a.S rfl hw (s.toks + 1)
  | str x =>
    unfold trConst at ht
    rw [hs] at ht
    obtain ⟨k, e1, rfl⟩ := Option.map_eq_some_iff.mp ht
    simp only [w_var, w_lit, w_bop, w_neg, w_cmp, w_cmp2, w_and, w_or, w_not, w_call, w_meth, w_new, w_prim, w_attr, w_idx, w_slice, w_list, w_tup, w_comp] at hw
    exact wpAny_Constant_str (PE.here (v := .str x s.toks) (mv := .str k) a.S e1 hw _)
  | _ => cases ht
section
variable {e e1 e2 e3 : Expr} {a1 a2 a3 : E} {pos : Pos} {Q : PV}
theorem binop_ok {pop : Operator} {op : Bop} (h1 : SndE C Φ c e1 a1) (h2 : SndE C Φ c e2 a2) (ho : trOp pop = some op) (a : At C c env A m H s) (hw : wpE Φ (.bop op a1 a2) m H Q) :
    wpAny C.M A (eval (.BinOp e1 pop e2 pos) env) (PE C H s Q) NoE s := by
  simp only [w_var, w_lit, w_bop, w_neg, w_cmp, w_cmp2, w_and, w_or, w_not, w_call, w_meth, w_new, w_prim, w_attr, w_idx, w_slice, w_list, w_tup, w_comp] at hw
  refine wpAny_BinOp (h1.then a hw fun v s1 x H1 r1 a1 x1 q1 => h2.then a1 q1 fun v' s2 y H2 r2 a2 x2 q2 => ?_)
  cases hr : x with
  | ref p =>
    subst hr
    exact wpAny_ext (bop_ok a2.S r1 r2 ho q2) fun _ _ z => PE.ext (x1.trans x2) z
  | _ => subst hr; exact wpAny_ext (bop_ok a2.S r1 r2 ho q2) fun _ _ z => PE.ext (x1.trans x2) z
theorem usub_ok (h1 : SndE C Φ c e1 a1) (a : At C c env A m H s) (hw : wpE Φ (.neg a1) m H Q) : wpAny C.M A (eval (.UnaryOp .USub e1 pos) env) (PE C H s Q) NoE s := by
  simp only [w_var, w_lit, w_bop, w_neg, w_cmp, w_cmp2, w_and, w_or, w_not, w_call, w_meth, w_new, w_prim, w_attr, w_idx, w_slice, w_list, w_tup, w_comp] at hw
  exact wpAny_UnaryOp (h1.then a hw fun v s1 x H1 r1 a1 x1 q1 => wpAny_ext (neg_ok a1.S r1 q1) fun _ _ z => PE.ext x1 z)
theorem not_ok (h1 : SndE C Φ c e1 a1) (a : At C c env A m H s) (hw : wpE Φ (.not a1) m H Q) : wpAny C.M A (eval (.UnaryOp .Not e1 pos) env) (PE C H s Q) NoE s := by
  simp only [w_var, w_lit, w_bop, w_neg, w_cmp, w_cmp2, w_and, w_or, w_not, w_call, w_meth, w_new, w_prim, w_attr, w_idx, w_slice, w_list, w_tup, w_comp] at hw
  refine wpAny_UnaryOp (h1.then a hw fun v s1 x H1 r1 a1 x1 q1 => not_value (wpAny_ext (truthy_ok a1.S r1 q1) fun r s2 z => ?_))
  obtain ⟨rfl, z⟩ := z
  exact PE.ext x1 (PE.at (mv := .bool (!r)) a1.S rfl z)
theorem tnot_ok {Q : Bool → Heap → Prop} (h1 : SndT C Φ c e1 a1) (a : At C c env A m H s) (hw : wpT Φ (.not a1) m H Q) : wpAny C.M A (isTrue (.UnaryOp .Not e1 pos) env (eval (.UnaryOp .Not e1 pos) env)) (PT C H s Q) NoE s := by
  simp only [t_not, t_and, t_or, t_cmp, t_cmp2] at hw
  exact wpAny_isTrue_Not (wpAny_ext (h1 a hw) fun r s1 ⟨H1, S1, x1, q1⟩ => ⟨H1, S1, x1, q1⟩)
theorem tval_ok {Q : Bool → Heap → Prop} (h1 : SndE C Φ c e a1) (a : At C c env A m H s) (hw : wpE Φ a1 m H fun v H => truthW v H fun r => Q r H)
    (he : isTrue e env (eval e env) = (do let v ← eval e env; standAt e.pos; holding [v] (truthy v))) : wpAny C.M A (isTrue e env (eval e env)) (PT C H s Q) NoE s := by
  rw [he]
  refine wpAny_bind (h1.then a hw fun v s1 x H1 r1 a1 x1 q1 => wpAny_bind (wpAny_standAt (wpAny_holding (wpAny_ext (truthy_ok a1.S r1 q1) fun r s2 z => ?_))))
  obtain ⟨rfl, z⟩ := z
  exact ⟨H1, a1.S, x1, z⟩
theorem items_nil : SndEs C Φ c [] [] := fun {env A m H s Q pos} a hw => by
  simp only [w_enil, w_econs] at hw
  exact wpAny_items_nil ⟨[], H, rfl, .nil, a.S, Ext.refl, hw⟩
theorem items_cons {es : List Expr} {mes : List E} (hs : isStar e = false) (h1 : SndE C Φ c e a1) (h2 : SndEs C Φ c es mes) : SndEs C Φ c (e :: es) (a1 :: mes) := fun {env A m H s Q pos} a hw => by
  simp only [w_enil, w_econs] at hw
  refine wpAny_items_cons (h1.then a hw fun v s1 x H1 r1 a1 x1 q1 => h2.then a1 q1 fun vs s2 xs H2 l2 r2 a2 x2 q2 => ⟨x :: xs, H2, congrArg (· + 1) l2, .cons r1 r2, a2.S, x1.trans x2, q2⟩) ?_
  cases e <;> first | rfl | cases hs
theorem items_ok {f : Expr → Option E} (hf : ∀ e me, f e = some me → SndE C Φ c e me) : ∀ {es : List Expr} {mes : List E}, trEs f es = some mes → SndEs C Φ c es mes := by
  have key : ∀ {es : List Expr} {mes : List E}, (es.any isStar) = false → mapO f es = some mes → SndEs C Φ c es mes := by
    intro es
    induction es with
    | nil => intro mes _ h; cases h; exact items_nil
    | cons e es ih =>
      intro mes hs h
      simp only [List.any_cons, Bool.or_eq_false_iff] at hs
      unfold mapO at h
      split at h
      · rename_i b hb
        split at h
        · rename_i bs hbs; cases h; exact items_cons hs.1 (hf _ _ hb) (ih hs.2 hbs)
        · cases h
      · cases h
  intro es mes h
  unfold trEs at h
  split at h
  · cases h
  · rename_i q
    simp only [Bool.or_eq_true, not_or, Bool.not_eq_true] at q
    exact key q.1 h
theorem trEs_len {f : Expr → Option E} {es : List Expr} {mes : List E} (h : trEs f es = some mes) : es.length ≤ 20 := by
  unfold trEs at h
  split at h
  · cases h
  · rename_i q
    simp only [Bool.or_eq_true, not_or, Bool.not_eq_true, Bool.not_eq_false, Bool.not_eq_eq_eq_not, Bool.not_true, decide_eq_false_iff_not, Nat.not_le] at q
    simpa using q.2
theorem fits20 {n : Nat} (h : n ≤ 20) : n ≤ sizeLine := by rw [sizeLine_eq]; (first | lia | omega)
theorem list_ok {es : List Expr} {mes : List E} (hl : es.length ≤ 20) (h : SndEs C Φ c es mes) (a : At C c env A m H s) (hw : wpE Φ (.list mes) m H Q) : wpAny C.M A (eval (.List es pos) env) (PE C H s Q) NoE s := by
  simp only [w_var, w_lit, w_bop, w_neg, w_cmp, w_cmp2, w_and, w_or, w_not, w_call, w_meth, w_new, w_prim, w_attr, w_idx, w_slice, w_list, w_tup, w_comp] at hw
  exact wpAny_List (h.then a hw fun vs s1 xs H1 l r1 a1 x1 q1 => ⟨fits20 (l ▸ hl), PE.ext x1 (PE.list a1.S r1 (by rw [← r1.length, l]; unfold lim; (first | lia | omega)) q1)⟩)
theorem tuple_ok {es : List Expr} {mes : List E} {k : Nat} (hl : es.length ≤ 20) (h : SndEs C Φ c es mes) (a : At C c env A m H s) (hw : wpE Φ (.tup mes) m H Q) : wpAny C.M A (eval (.Tuple es k pos) env) (PE C H s Q) NoE s := by
  simp only [w_var, w_lit, w_bop, w_neg, w_cmp, w_cmp2, w_and, w_or, w_not, w_call, w_meth, w_new, w_prim, w_attr, w_idx, w_slice, w_list, w_tup, w_comp] at hw
  exact wpAny_Tuple (h.then a hw fun vs s1 xs H1 l r1 a1 x1 q1 => ⟨fits20 (l ▸ hl), PE.ext x1 (PE.tup a1.S r1 (by rw [← r1.length, l]; unfold lim; (first | lia | omega)) q1)⟩)
end
end ML
namespace ML
open PySem PySem.W PySem.Calls PyProof.Rows
variable {C : Cfg} {Φ : Orac} {c : Ctx} {H H' H'' H1 : Heap} {s s' s1 : Shared} {h h' h'' : PHeap} {A : Around} {env : Env} {m : Loc}
theorem attrIs.inj {i j : Nat} {x : Str} (a : attrIs i x) (b : attrIs j x) : i = j := by unfold attrIs at a b; rw [a] at b; exact Option.some.inj b
theorem attrIs.mem {i : Nat} {x : Str} (a : attrIs i x) : (x, i) ∈ coreAts := by
  unfold attrIs at a
  generalize coreAts = l at a
  induction l with
  | nil => cases a
  | cons p r ih =>
    obtain ⟨y, j⟩ := p
    simp only [List.lookup] at a
    split at a
    · rename_i q; cases a; rw [beq_iff_eq.mp q]; exact .head _
    · exact .tail _ (ih a)
theorem attrIs.uniq {i : Nat} {x y : Str} (a : attrIs i x) (b : attrIs i y) : x = y := by
  have key : ∀ p ∈ coreAts, (coreAts.map Prod.fst)[p.2]? = some p.1 := by decide
  exact Option.some.inj ((key _ a.mem).symm.trans (key _ b.mem))
theorem isStr_iff {x y : Str} {t : Tok} : (Value.str y t).isStr x = true ↔ y = x := by
  show (y == x) = true ↔ _
  exact beq_iff_eq
theorem find_field {i : Nat} {x : Str} {v : V} (hx : attrIs i x) : ∀ {es : List DictEntry} {fs : List (Nat × V)}, All2 RepE es fs → fs.lookup i = some v → ∃ e, es.find? (·.key.isStr x) = some e ∧ RepV e.val v
  | _, _, .nil, e => by cases e
  | en :: es, (j, w) :: fs, .cons r rs, e => by
    refine absG fun Cg hCg => ?_
    obtain ⟨y, t, k1, k2, k3⟩ := r
    refine hCg ?_; clear hCg
    dsimp only at k2 k3
    simp only [List.lookup] at e
    by_cases q : i = j
    · subst q
      simp only [beq_self_eq_true] at e
      cases e
      have : (en.key.isStr x) = true := by rw [k1]; exact isStr_iff.mpr (k2.uniq hx)
      exact ⟨en, by simp only [List.find?, this], k3⟩
    · rw [show (i == j) = false from beq_eq_false_iff_ne.mpr q] at e
      have : ¬ (en.key.isStr x) = true := by rw [k1]; exact fun z => q (hx.inj (isStr_iff.mp z ▸ k2))
      refine absG fun Cg hCg => ?_
      obtain ⟨e', a, b⟩ := find_field hx rs e
      refine hCg ?_; clear hCg
      exact ⟨e', by simp only [List.find?, Bool.eq_false_iff.mpr this]; exact a, b⟩
theorem find_none {x : Str} (hx : coreAts.lookup x = none) : ∀ {es : List DictEntry} {fs : List (Nat × V)}, All2 RepE es fs → es.find? (·.key.isStr x) = none
  | _, _, .nil => rfl
  | en :: es, (j, w) :: fs, .cons r rs => by
    refine absG fun Cg hCg => ?_
    obtain ⟨y, t, k1, k2, k3⟩ := r
    have : ¬ (en.key.isStr x) = true := by rw [k1]; exact fun z => by rw [isStr_iff.mp z] at k2; unfold attrIs at k2; rw [hx] at k2; cases k2
    refine hCg ?_; clear hCg
    simp only [List.find?, Bool.eq_false_iff.mpr this]; exact find_none hx rs
theorem no_refKey {es : List DictEntry} {fs : List (Nat × V)} (h : All2 RepE es fs) : es.any (·.refKey) = false := by
  induction h with
  | nil => rfl
  | cons r rs ih =>
    obtain ⟨y, t, k1, _⟩ := r
    rw [List.any_cons, ih, Bool.or_false]
    unfold DictEntry.refKey; rw [k1]
noncomputable def putF (hs : Int) (key pv : Value) : Option DictEntry → DictEntry
  | some e => { e with val := pv }
  | none => ⟨hs, key, pv⟩
theorem put_field {i : Nat} {x : Str} {v : V} {pv : Value} {hs : Int} {tk : Tok} (hx : attrIs i x) (hv : RepV pv v) : ∀ {es : List DictEntry} {fs : List (Nat × V)}, All2 RepE es fs →
    All2 RepE (nsPutIn x.cps.size x.cps.toList (putF hs (.str x tk) pv) es).1 (setF fs i v)
  | _, _, .nil => .cons ⟨x, tk, rfl, hx, hv⟩ .nil
  | en :: es, (j, w) :: fs, .cons r rs => by
    have r' := r
    refine absG fun Cg hCg => ?_
    obtain ⟨y, t, k1, k2, k3⟩ := r
    refine hCg ?_; clear hCg
    dsimp only at k2 k3
    unfold nsPutIn setF
    rw [Value.isStrByCps_eq]
    by_cases q : j = i
    · subst q
      have : (en.key.isStr x) = true := by rw [k1]; exact isStr_iff.mpr (k2.uniq hx)
      rw [if_pos this, if_pos rfl]
      exact .cons ⟨y, t, k1, k2, hv⟩ rs
    · have : ¬ (en.key.isStr x) = true := by rw [k1]; exact fun z => q ((hx.inj (isStr_iff.mp z ▸ k2)).symm)
      rw [if_neg this, if_neg q]
      exact .cons r' (put_field hx hv rs)
structure ClsOk (C : Cfg) (ci : Nat) (Ca : Addr) : Prop where
  ga : findIn C.K (.ref Ca) "__getattribute__" = some (some (.builtin "object.__getattribute__"))
  gt : findIn C.K (.ref Ca) "__getattr__" = some none
  sa : findIn C.K (.ref Ca) "__setattr__" = some (some (.builtin "object.__setattr__"))
  hd : (clsIn C.K Ca).any (·.hasDict) = true
  ats : ∀ i x, attrIs i x → findIn C.K (.ref Ca) x = some none
  pl : plainOver C.K Ca = true
  makes : makesIn C.K Ca = true
structure MethOk (C : Cfg) (x : Str) (Ca fa : Addr) : Prop where
  find : findIn C.K (.ref Ca) x = some (some (.ref fa))
  fn : typeIn C.K (.ref fa) = some (.type "function")
  no : coreAts.lookup x = none
noncomputable def bltNames : List Str := ["range", "len", "abs", "min", "max", "sum", "sorted", "list", "type", "int", "tuple", "bool", "isinstance", "float", "zip", "all"]
structure Cfg.Ok (C : Cfg) : Prop where
  blts : ∀ x, x ∈ bltNames → nsIn C.K mainGlobals x = some none
  nodbg : C.tab.fns.lookup ("__debug__" : Str) = none ∧ C.tab.cls.lookup ("__debug__" : Str) = none
  ats : C.tab.ats = coreAts
  hasCls : ∀ x ci, C.tab.cls.lookup x = some ci → ∃ Ca, C.clsA.lookup ci = some Ca
  sts : C.tab.sts = coreStrs
  X : C.K.In C.h₀
  T : TopRead C.p C.loose C.mg C.mb C.h₀
  cls : ∀ ci Ca, C.clsA.lookup ci = some Ca → ClsOk C ci Ca
  keep : ∀ f fa, C.fnA.lookup f = some fa → fnIn C.K fa = true
  fns : ∀ x f fa, C.tab.fns.lookup x = some f → C.fnA.lookup f = some fa → nsIn C.K mainGlobals x = some (some (.ref fa))
  mts : ∀ x f fa Ca, C.tab.mts.lookup x = some f → C.fnA.lookup f = some fa → C.clsA.lookup (methCls f) = some Ca → MethOk C x Ca fa
  clsN : ∀ x ci Ca, C.tab.cls.lookup x = some ci → C.clsA.lookup ci = some Ca → nsIn C.K mainGlobals x = some (some (.ref Ca))
  inits : ∀ ci Ca fa, C.clsA.lookup ci = some Ca → C.fnA.lookup ci = some fa → findIn C.K (.ref Ca) "__init__" = some (some (.ref fa)) ∧ typeIn C.K (.ref fa) = some (.type "function")
  have_ : ∀ f l, C.tab.lv.lookup f = some l → ∃ fa, C.fnA.lookup f = some fa
section
variable {a : Addr} {ci : Nat} {fs : List (Nat × V)} {i : Nat} {x : Str}
theorem StH.X (O : C.Ok) (S : StH C H s) : C.K.In s.heap := O.X.keeps S.base
theorem handed_rep {pv : Value} {v : V} (r : RepV pv v) : handedIn pv = true := by cases pv <;> first | rfl | (cases v <;> exact r.elim)
theorem getAttr_ok {Q : PV} {b : Bool} {v : V} (O : C.Ok) (S : StH C H s) (ho : H a = some (.inst ci fs)) (hx : attrIs i x) (hl : fs.lookup i = some v) (q : Q v H) :
    wpAny C.M A (getAttr (.ref a) x b) (PE C H s Q) NoE s := by
  refine absG fun Cg hCg => ?_
  obtain ⟨Ca, d, es, n, hc, e1, e2, r⟩ := S.rep _ _ ho
  have K := O.cls _ _ hc
  obtain ⟨cd, hcd, hdict⟩ := any_some K.hd
  obtain ⟨en, f1, f2⟩ := find_field hx r hl
  have I : InstAt s.heap a (instObj Ca d) Ca (some { cls := .type "dict", data := .dict es n }) := ⟨e1, rfl, rfl, e2⟩
  refine hCg ?_; clear hCg
  refine get_value (S.X O) I K.ga (v := en.val) ?_ (handed_rep f2) (PE.here S f2 q _)
  unfold findObj
  rw [hcd, Option.bind_some, K.ats _ _ hx]
  simp only [Option.bind_some]
  have : W.ownOf cd (some { cls := .type "dict", data := .dict es n }) x = some (some en.val) := by
    unfold W.ownOf lookIn
    rw [if_pos hdict]
    dsimp only
    rw [f1]
  rw [this]; rfl
theorem setAttr_ok {Q : Heap → Prop} {pv : Value} {v : V} (O : C.Ok) (S : StH C H s) (ho : H a = some (.inst ci fs)) (hx : attrIs i x) (hv : RepV pv v) (hn : fs.length ≤ 100) (q : Q (H.upd a (.inst ci (setF fs i v)))) :
    wpAny C.M A (setAttr (.ref a) x pv) (fun _ s' => ∃ H', StH C H' s' ∧ Ext H s.heap H' s'.heap ∧ Q H') NoE s := by
  refine absG fun Cg hCg => ?_
  obtain ⟨Ca, d, es, n, hc, e1, e2, r⟩ := S.rep _ _ ho
  have K := O.cls _ _ hc
  obtain ⟨cd, hcd, hdict⟩ := any_some K.hd
  have I : InstAt s.heap a (instObj Ca d) Ca (some { cls := .type "dict", data := .dict es n }) := ⟨e1, rfl, rfl, e2⟩
  have XX := S.X O
  refine hCg ?_; clear hCg
  refine set_plain XX I K.sa ?_
  refine osa_open (s := { s with toks := s.toks + 1 }) (show C.K.In s.heap from S.X O) I K.pl (r := none) (by unfold takerIn; rw [K.ats _ _ hx]; rfl) fun b => ?_
  have D : ({ s with toks := s.toks + 1 } : Shared).heap.get? d = some { cls := .type "dict", data := .dict es n } := e2
  have hp := put_field (hs := PyData.keyHash C.w.params x) (tk := s.toks + 1) hx hv r
  generalize hq : nsPutIn x.cps.size x.cps.toList (putF (PyData.keyHash C.w.params x) (.str x (s.toks + 1)) pv) es.toList = pr at hp
  obtain ⟨es', added⟩ := pr
  have hput : Obj.putName x (PyData.keyHash C.w.params x) (.str x (s.toks + 1)) pv { cls := .type "dict", data := .dict es n } = { cls := .type "dict", data := .dict es'.toArray (if added then n + 1 else n) } := by
    show (match nsPutIn x.cps.size x.cps.toList (putF (PyData.keyHash C.w.params x) (.str x (s.toks + 1)) pv) es.toList with
      | (es', false) => (⟨.type "dict", none, .dict es'.toArray n, #[]⟩ : Obj)
      | (es', true) => ⟨.type "dict", none, .dict es'.toArray (n + 1), #[]⟩) = _
    rw [hq]
    cases added <;> rfl
  have hlen : es'.length ≤ 101 := by
    rw [hp.length]
    have : ∀ fs : List (Nat × V), (setF fs i v).length ≤ fs.length + 1 := by
      intro fs
      induction fs with
      | nil => exact Nat.le_refl _
      | cons p r ih =>
        unfold setF
        split
        · exact Nat.le_succ _
        · exact Nat.succ_le_succ ih
    exact Nat.le_trans (this fs) (by (first | lia | omega))
  have U := S.field (f := Obj.putName x (PyData.keyHash C.w.params x) (.str x (s.toks + 1)) pv) (tk := s.toks + 1 + 1) (fs' := setF fs i v) ho e1 rfl (fun o z => by rw [e2] at z; cases z; rw [hput]; rfl)
    ⟨Ca, d, es'.toArray, _, hc, (Heap.get?_update_other _ _ (fun z => by have := S.hid d ⟨a, ci, fs, _, ho, e1, rfl⟩; rw [z, ho] at this; cases this)).trans e1, by rw [Heap.get?_update_self _ e2 (by rw [hput]; rfl), hput], by simpa using hp⟩
  refine wpAny_bind (wpAny_pure (wpAny_bind (wpAny_bind (wpAny_loadPart e1 (wpAny_bind ((looks_clsIn (h := ({ s with toks := s.toks + 1 } : Shared).heap) XX hcd).here ?_))))))
  rw [hdict]
  refine wpAny_pure (a := some d) (wpAny_bind (wpAny_pure (wpAny_bind ?_)))
  unfold nsSet
  refine wpAny_bind (wpAny_bind (wpAny_askSetting (wpAny_pure (wpAny_bind (wpAny_mkText (wpAny_bind (wpAny_loadPart D ?_)))))))
  dsimp only
  have hnr : es.any (·.refKey) = false := by rw [← Array.any_toList]; exact no_refKey r
  rw [aRefKeyMayBeTheName_at, hnr, Bool.and_false]
  refine wpAny_updatePart D ?_
  have hup : (s.heap.update d (Obj.putName x (PyData.keyHash C.w.params x) (.str x (s.toks + 1)) pv)).get? d = some { cls := .type "dict", data := .dict es'.toArray (if added then n + 1 else n) } := by
    rw [Heap.get?_update_self _ e2 (by rw [hput]; rfl), hput]
  refine wpAny_bind (wpAny_lookBehind (o := { cls := .type "dict", data := .dict es'.toArray (if added then n + 1 else n) }) hup (pastItsLine_dict (by rw [List.size_toArray, sizeLine_eq]; (first | lia | omega))) ?_)
  exact wpAny_pure ⟨_, U.1, U.2, q⟩
end
end ML
namespace ML
open PySem PySem.W PySem.Calls PyProof.Rows
variable {C : Cfg} {Φ : Orac} {c : Ctx} {H H' H'' H1 : Heap} {s s' s1 : Shared} {h h' h'' : PHeap} {A : Around} {env : Env} {m : Loc}
theorem repK_look {k : Int} {v : V} {kvs : List (Int × Value)} {es : List (Int × V)} (h : All2 RepK kvs es) : es.lookup k = some v → ∃ pv, valueAt kvs k = some pv ∧ RepV pv v := by
  induction h with
  | nil => exact fun q => nomatch q
  | @cons a b kvs es h r ih =>
    obtain ⟨i, w⟩ := a
    obtain ⟨j, u⟩ := b
    obtain ⟨e1, e2⟩ := h
    replace e1 : i = j := e1
    rw [e1, List.lookup_cons]
    unfold valueAt at ih ⊢
    rw [List.find?_cons]
    intro h
    by_cases q : k = j
    · rw [beq_iff_eq.mpr q] at h
      cases h
      rw [decide_eq_true q.symm]
      exact ⟨w, rfl, e2⟩
    · rw [beq_eq_false_iff_ne.mpr q] at h
      rw [decide_eq_false (fun e => q e.symm)]
      exact ih h
theorem idx_ok {o i : Value} {x y : V} {Q : V → Prop} {value slice : Expr} (S : StH C H s) (ho : RepV o x) (hi : RepV i y) (hw : idxW x y H Q)
    (hs : ∀ o i, subscripted slice false o i = operate [o, i] (getItem o i)) : wpAny C.M A (subscriptTail value slice o i) (PE C H s fun v H' => H' = H ∧ Q v) NoE s := by
  unfold idxW at hw
  split at hw
  · rename_i p k
    cases ho.ref
    obtain ⟨t, rfl⟩ := hi.int
    split at hw
    · rename_i ob hp
      have r := S.rep _ _ hp
      cases ob with
      | list ys =>
        obtain ⟨h0, h1, xs, v, e1, e2, q⟩ := hw
        have hk : k < 2 ^ 63 := Int.lt_trans h1 (by decide)
        cases e1
        obtain ⟨vs, n, l, rr, _⟩ := r
        obtain ⟨pv, e3, e4⟩ := rr.get e2
        exact tail_any l.isList.typeIs slot_list_getitem.lookup (wpAny_getItem_list l.isList h0 hk (by simpa using e3) (PE.at S e4 ⟨rfl, q⟩)) (hs _ _)
      | ro ys =>
        obtain ⟨h0, h1, xs, v, e1, e2, q⟩ := hw
        have hk : k < 2 ^ 63 := Int.lt_trans h1 (by decide)
        cases e1
        obtain ⟨vs, l, rr, _⟩ := r
        obtain ⟨pv, e3, e4⟩ := rr.get e2
        exact tail_any l.typeIs slot_list_getitem.lookup (wpAny_getItem_list l h0 hk (by simpa using e3) (PE.at S e4 ⟨rfl, q⟩)) (hs _ _)
      | tup ys =>
        obtain ⟨h0, h1, xs, v, e1, e2, q⟩ := hw
        have hk : k < 2 ^ 63 := Int.lt_trans h1 (by decide)
        cases e1
        obtain ⟨vs, l, rr, _⟩ := r
        obtain ⟨pv, e3, e4⟩ := rr.get e2
        have hj : seqIndex? k vs.length = some k.toNat := by
          have : k.toNat < vs.length := by
            cases hz : decide (k.toNat < vs.length) with
            | true => exact of_decide_eq_true hz
            | false => rw [List.getElem?_eq_none (by have := of_decide_eq_false hz; (first | lia | omega))] at e3; cases e3
          unfold seqIndex?
          have hk0 : ¬ k < 0 := by (first | lia | omega)
          have hk1 : (decide (0 ≤ k) && decide (k < (vs.length : Int))) = true := by rw [decide_eq_true h0, Bool.true_and]; exact decide_eq_true (by (first | lia | omega))
          simp only [hk0, if_false]
          rw [if_pos hk1]
        exact tail_any l.typeIs slot_tuple_getitem.lookup (getItem_tuple l (by (first | lia | omega)) hk (by simpa using hj) (by simpa using e3) (PE.at S e4 ⟨rfl, q⟩)) (hs _ _)
      | inst => obtain ⟨_, _, _, _, e1, _⟩ := hw; cases e1
      | dict es =>
        obtain ⟨v, hl, q⟩ := hw
        obtain ⟨kvs, hd, rr, _⟩ := r
        obtain ⟨pv, e3, e4⟩ := repK_look rr hl
        exact tail_any (T := "dict") hd.mapOf.typeIs slot_dict_getitem.lookup (wpAny_getItem_of (intKind_is _ _ _ _) hd.mapOf e3 (PE.here S e4 ⟨rfl, q⟩ _)) (hs _ _)
    · exact hw.elim
  · exact hw.elim
theorem cl_nat (n L : Nat) : max 0 (min (n : Int) (L : Int)) = ((min n L : Nat) : Int) := by
  rcases Nat.le_total n L with h | h
  · rw [Nat.min_eq_left h, Int.min_eq_left (Int.ofNat_le.mpr h), Int.max_eq_right (Int.natCast_nonneg _)]
  · rw [Nat.min_eq_right h, Int.min_eq_right (Int.ofNat_le.mpr h), Int.max_eq_right (Int.natCast_nonneg _)]
theorem drop_min {α : Type} {l : List α} {n : Nat} : l.drop (min n l.length) = l.drop n := by
  rcases Nat.le_total n l.length with h | h
  · rw [Nat.min_eq_left h]
  · rw [Nat.min_eq_right h, List.drop_eq_nil_of_le (Nat.le_refl _), List.drop_eq_nil_of_le h]
theorem pick_cut (items : List Value) (lo hi : Option Int) (h1 : nonneg? lo) (h2 : nonneg? hi) : slicePick items.toArray lo hi none = (cut items lo hi).toArray := by
  have key : ∀ (a b : Nat), sliceBounds lo hi none items.length = ((a : Int), (b : Int), 1) → slicePick items.toArray lo hi none = ((items.drop a).take (b - a)).toArray := by
    intro a b e
    unfold slicePick
    rw [show items.toArray.size = items.length by simp, e]
    simp only [sliceRange_one, pick_run]
  have ng : ∀ n : Nat, ¬ (n : Int) < 0 := fun n => Int.not_lt.mpr (Int.natCast_nonneg n)
  cases lo with
  | none =>
    cases hi with
    | none => rw [slicePick_all]; rfl
    | some j =>
      obtain ⟨m, rfl⟩ := Int.eq_ofNat_of_zero_le (show 0 ≤ j from h2)
      rw [key 0 (min m items.length) (by simp only [sliceBounds, Option.getD_none, ng, if_false, show (1 : Int) > 0 by decide, if_true, cl_nat]; rfl)]
      rw [List.drop_zero, Nat.sub_zero, ← List.take_eq_take_min]; rfl
  | some i =>
    obtain ⟨n, rfl⟩ := Int.eq_ofNat_of_zero_le (show 0 ≤ i from h1)
    cases hi with
    | none =>
      rw [key (min n items.length) items.length (by simp only [sliceBounds, Option.getD_none, ng, if_false, show (1 : Int) > 0 by decide, if_true, cl_nat])]
      rw [List.take_of_length_le (by rw [List.length_drop]; exact Nat.le_refl _), drop_min]; rfl
    | some j =>
      obtain ⟨m, rfl⟩ := Int.eq_ofNat_of_zero_le (show 0 ≤ j from h2)
      rw [key (min n items.length) (min m items.length) (by simp only [sliceBounds, Option.getD_none, ng, if_false, show (1 : Int) > 0 by decide, if_true, cl_nat])]
      show _ = ((items.take m).drop n).toArray
      rw [List.drop_take, drop_min]
      rcases Nat.le_total n items.length with h | h
      · rw [Nat.min_eq_left h, ← Nat.sub_min_sub_right, ← List.length_drop, ← List.take_eq_take_min]
      · rw [List.drop_eq_nil_of_le h, List.take_nil, List.take_nil]
theorem cut_len {α : Type} (xs : List α) (lo hi : Option Int) : (cut xs lo hi).length ≤ xs.length := by
  unfold ML.cut
  cases lo <;> cases hi <;> dsimp only
  · exact Nat.le_refl _
  · rw [List.length_take]; exact Nat.min_le_right _ _
  · rw [List.length_drop]; exact Nat.sub_le _ _
  · rw [List.length_drop, List.length_take]; exact Nat.le_trans (Nat.sub_le _ _) (Nat.min_le_right _ _)
theorem All2.cut {α β : Type} {R : α → β → Prop} {l : List α} {m : List β} (r : All2 R l m) (lo hi : Option Int) : All2 R (cut l lo hi) (cut m lo hi) := by
  unfold ML.cut
  cases lo <;> cases hi <;> dsimp only <;> first | exact r | exact r.take _ | exact r.drop _ | exact (r.take _).drop _
theorem slice_ok {value : Expr} {lo hi : Option Expr} {p pos : Pos} {mo : E} {ml mh : Option E} {Q : PV} {f : Expr → Option E} (hf : ∀ e me, f e = some me → SndE C Φ c e me) (hv : SndE C Φ c value mo) (hl : trO f lo = some ml) (hh : trO f hi = some mh)
    (a : At C c env A m H s) (hw : wpE Φ (.slice mo ml mh) m H Q) : wpAny C.M A (eval (.Subscript value (.Slice lo hi none p) pos) env) (PE C H s Q) NoE s := by
  have part : ∀ {x : Option Expr} {mx : Option E} {H : Heap} {s : Shared} {Q : Option V → Heap → Prop} {R : Value → Shared → Prop}, trO f x = some mx → At C c env A m H s → wpO Φ mx m H Q →
      (∀ v s1 ov H1, (match ov with | some y => RepV v y | none => v = .none) → At C c env A m H1 s1 → Ext H s.heap H1 s1.heap → Q ov H1 → R v s1) → wpAny C.M A (evalPart x env) R NoE s := by
    intro x mx H s Q R ht a hw k
    cases x with
    | none =>
      cases ht
      simp only [w_onone, w_osome] at hw
      rw [evalPart_none]
      exact wpAny_pure (k .none s none H rfl a Ext.refl hw)
    | some e =>
      obtain ⟨me, e1, rfl⟩ := Option.map_eq_some_iff.mp ht
      simp only [w_onone, w_osome] at hw
      rw [evalPart_some]
      exact SndE.then (hf _ _ e1) a hw fun v s1 x H1 r a1 x1 q => k v s1 (some x) H1 r a1 x1 q
  simp only [w_var, w_lit, w_bop, w_neg, w_cmp, w_cmp2, w_and, w_or, w_not, w_call, w_meth, w_new, w_prim, w_attr, w_idx, w_slice, w_list, w_tup, w_comp] at hw
  refine Subscript_ (hv.then a hw fun o s1 x H1 r1 a1 x1 q1 => wpAny_Slice (part hl a1 q1 fun l s2 ol H2 r2 a2 x2 q2 => part hh a2 q2 fun u s3 ou H3 r3 a3 x3 q3 => ?_))
  rw [evalPart_none]
  refine wpAny_pure ?_
  have isPart : ∀ {v : Value} {ov : Option V} {k : Option Int}, (match ov with | some y => RepV v y | none => v = .none) → part? ov = some k → IsPart v k := by
    intro v ov k r e
    cases ov with
    | none => cases e; cases (show v = .none from r); exact .none
    | some y =>
      cases y with
      | int i => cases e; obtain ⟨t, rfl⟩ := RepV.int r; exact .int i t
      | _ => cases e
  unfold sliceW at q3
  split at q3
  · rename_i pp lk hk e1 e2
    cases r1.ref
    obtain ⟨S4, x4⟩ := a3.S.push { cls := .type "slice", data := .fields #[l, u, .none] } s3.toks
    have xx := (x1.trans x2).trans (x3.trans x4)
    have hsl : ∀ o i : Value, subscripted (.Slice lo hi none p) false o i = operate [i, o] (getItem o i) := fun _ _ => rfl
    have fin : ∀ {vs : List Value} {xs : List V}, nonneg? lk → nonneg? hk → xs.length ≤ lim → allocW (.list (cut xs lk hk)) H3 Q → s3.heap.IsList pp vs.toArray → All2 RepV vs xs → wpAny C.M A (subscriptTail value (.Slice lo hi none p) (.ref pp) (.ref s3.heap.objs.size)) (PE C H s Q) NoE
        { s3 with heap := s3.heap.push { cls := .type "slice", data := .fields #[l, u, .none] } } := by
      intro vs xs n1 n2 hz q hl rr
      refine tail_any (hl.push _).typeIs slot_list_getitem.lookup (wpAny_getItem_list_slice (hl.push _) (Heap.IsSliceOf.new ..) (isPart r2 e1) (isPart r3 e2) .none (by simp) ?_ (by simp only [List.size_toArray, rr.length]; exact sizeLine_lim hz)) (hsl _ _)
      rw [pick_cut _ _ _ n1 n2]
      exact PE.ext xx (PE.list S4 (rr.cut _ _) (Nat.le_trans (cut_len _ _ _) (by (first | lia | omega))) q)
    cases hp : H3 pp with
    | none => rw [hp] at q3; exact q3.elim
    | some ob =>
      rw [hp] at q3
      have r := a3.S.rep _ _ hp
      cases ob with
      | list ys => obtain ⟨n1, n2, xs, e, hz, q⟩ := q3; cases e; obtain ⟨vs, n, l', rr, _⟩ := r; exact fin n1 n2 hz q l'.isList rr
      | ro ys => obtain ⟨n1, n2, xs, e, hz, q⟩ := q3; cases e; obtain ⟨vs, l', rr, _⟩ := r; exact fin n1 n2 hz q l' rr
      | _ => obtain ⟨_, _, xs, e, _⟩ := q3; cases e
  · exact q3.elim
end ML
namespace ML
open PySem PySem.W PySem.Calls PyProof.Rows
variable {C : Cfg} {Φ : Orac} {c : Ctx} {H H' H'' H1 : Heap} {s s' s1 : Shared} {h h' h'' : PHeap} {A : Around} {env : Env} {m : Loc}
noncomputable def CR (C : Cfg) (H : Heap) (s : Shared) (Q : PV) : Result → Shared → Prop := fun r s' => ∃ v, r = .ok (.ret v) ∧ PE C H s Q v s'
noncomputable def phi (C : Cfg) : Orac := fun f vs H Q => ∀ (A : Around) (s : Shared) (pvs : List Value) (l : Nat) (fa : Addr), C.tab.lv.lookup f = some l → C.fnA.lookup f = some fa → A.handled = none → A.depth + 4 * l + 3 ≤ 900 → A.units + 20 * l + 10 ≤ 9000 → StH C H s → All2 RepV pvs vs →
  codeAny C.M A (.call (.ref fa) ⟨pvs, []⟩) (CR C H s Q) s
theorem AOk.le {n k : Nat} (a : AOk A n) (h : k ≤ n) : AOk A k := ⟨a.hd, by have := a.dp; (first | lia | omega), by have := a.un; (first | lia | omega)⟩
theorem star_each {e : Expr} {es : List Expr} (h : isStar e = false) : starEach (e :: es) env = (false, eval e env) :: starEach es env := by cases e <;> first | rfl | cases h
theorem args_ok {es : List Expr} {mes : List E} {pos : Pos} {f : Value} {Q : List V → Heap → Prop} (hs : es.any isStar = false) (h : SndEs C Φ c es mes) (a : At C c env A m H s) (hw : wpEs Φ mes m H Q) :
    wpAny C.M A (evalArgs f true (backTo pos (starEach es env)) []) (fun x s1 => x.kw = [] ∧ PEs C es.length H s Q x.pos s1) NoE s := by
  have hh := h (pos := pos) a hw
  cases es with
  | nil =>
    unfold evalArgs
    show wpAny C.M A (spliced [] >>= _) _ _ s
    refine wpAny_bind (wpAny_ext hh fun vs s1 z => ?_)
    refine wpAny_holding ?_
    exact wpAny_bind (wpAny_pure (wpAny_bind (wpAny_pure (wpAny_pure ⟨rfl, z⟩))))
  | cons e es =>
    have he : starEach (e :: es) env = (false, eval e env) :: starEach es env := by
      simp only [List.any_cons, Bool.or_eq_false_iff] at hs
      exact star_each hs.1
    rw [he] at hh ⊢
    exact evalArgs_plain (wpAny_ext hh fun vs s1 z => ⟨rfl, z⟩)
theorem any_star {pos : Pos} : ∀ {es : List Expr}, es.any isStar = false → (backTo pos (starEach es env)).any (·.1) = false
  | [], _ => rfl
  | e :: es, hs => by
    simp only [List.any_cons, Bool.or_eq_false_iff] at hs
    have he : starEach (e :: es) env = (false, eval e env) :: starEach es env := star_each hs.1
    rw [he]
    show (false || (backTo pos (starEach es env)).any (·.1)) = false
    rw [any_star hs.2]; rfl
theorem glob_ok {x : Str} {pos : Pos} {v : Value} {R : Value → Shared → Prop} (O : C.Ok) (a : At C c env A m H s) (hx : c.isGlob x = true) (hd : (x == ("__debug__" : Str)) = false) (e : nsIn C.K mainGlobals x = some (some v)) (k : R v s) :
    wpAny C.M A (eval (.Name x pos) env) R NoE s := by
  have T := O.T.keeps a.S.base
  have hk : c.kinds.lookup x = some .globalImplicit := by simpa [Ctx.isGlob] using hx
  exact Name_function_global a.eo.kind (a.eo.kglob _ hk) (loadGlobal_global (env := env) (a.eo.glob ▸ T.g) (mg_of O.X O.T.g e) k) hd
theorem blt_ok {x : Str} {pos : Pos} {v : Value} {R : Value → Shared → Prop} (O : C.Ok) (a : At C c env A m H s) (hx : c.isGlob x = true) (hd : (x == ("__debug__" : Str)) = false) (e : nsIn C.K mainGlobals x = some none) (hv : bootBuiltins x = some v) (hn : x ≠ "__name__") (k : R v s) :
    wpAny C.M A (eval (.Name x pos) env) R NoE s := by
  have T := O.T.keeps a.S.base
  have hk : c.kinds.lookup x = some .globalImplicit := by simpa [Ctx.isGlob] using hx
  exact Name_function_global a.eo.kind (a.eo.kglob _ hk) (loadGlobal_builtin (env := env) (a.eo.glob ▸ T.g) (mg_none_of O.X O.T.g e) (a.eo.blts ▸ T.b) ((O.T.builtins x hn).trans hv) k) hd
theorem keep_fn {fa : Addr} (h : fnIn C.K fa = true) : keepIn C.K (.ref fa) = true := by
  unfold fnIn at h
  unfold keepIn
  split at h
  · rename_i e; simp only [e]
  · cases h
theorem call_ok {x : Str} {p pos : Pos} {es : List Expr} {mes : List E} {f l : Nat} {Q : PV} (O : C.Ok) (hs : es.any isStar = false) (h : SndEs C (phi C) c es mes) (hx : c.isGlob x = true) (hd : (x == ("__debug__" : Str)) = false)
    (e : C.tab.fns.lookup x = some f) (hl : C.tab.lv.lookup f = some l) (hlt : l < c.top)
    (a : At C c env A m H s) (hw : wpE (phi C) (.call f mes) m H Q) : wpAny C.M A (eval (.Call (.Name x p) es [] pos) env) (PE C H s Q) NoE s := by
  simp only [w_var, w_lit, w_bop, w_neg, w_cmp, w_cmp2, w_and, w_or, w_not, w_call, w_meth, w_new, w_prim, w_attr, w_idx, w_slice, w_list, w_tup, w_comp] at hw
  obtain ⟨fa, hf⟩ := O.have_ _ _ hl
  refine wpAny_Call_NameR (glob_ok O a hx hd (O.fns _ _ _ e hf) ?_)
  refine callWith_of (P := C.K.In) (by rw [any_star hs]; rfl) (keeps_K (keep_fn (O.keep _ _ hf))) (wpAny_ext (args_ok hs h a hw) fun x s1 z => ?_)
  refine absG fun Cg hCg => ?_
  obtain ⟨hkw, xs, H1, _, r, S1, x1, q⟩ := z
  refine hCg ?_; clear hCg
  rw [hkw]
  refine ⟨S1.X O, ?_⟩
  exact wpAny_call (codeAny_mono (q A s1 x.pos l fa hl hf a.ao.hd (by have := a.ao.dp; (first | lia | omega)) (by have := a.ao.un; (first | lia | omega)) S1 r) fun r s2 z => by
    refine absG fun Cg hCg => ?_
    obtain ⟨v, rfl, z⟩ := z
    refine hCg ?_; clear hCg
    exact PE.ext x1 z)
theorem base_of {o : Expr} {name : Str} {w : Sem Value} (h : bareCall o = false) : attributeBase o name env w = w := by
  cases o with
  | Call f args kws p => cases f with
    | Name x q => cases args with
      | nil => cases kws with
        | nil => cases h
        | cons _ _ => rfl
      | cons _ _ => rfl
    | _ => rfl
  | _ => rfl
theorem meth_ok {o : Expr} {x : Str} {ap pos : Pos} {es : List Expr} {mo : E} {mes : List E} {f l : Nat} {Q : PV} (O : C.Ok) (hb : bareCall o = false) (hline : (ap.endLine == pos.line) = true) (hs : es.any isStar = false) (hn : es.length ≤ 20) (ho : SndE C (phi C) c o mo) (h : SndEs C (phi C) c es mes)
    (e : C.tab.mts.lookup x = some f) (hl : C.tab.lv.lookup f = some l) (hlt : l < c.top)
    (a : At C c env A m H s) (hw : wpE (phi C) (.meth f mo mes) m H Q) : wpAny C.M A (eval (.Call (.Attribute o x ap) es [] pos) env) (PE C H s Q) NoE s := by
  simp only [w_var, w_lit, w_bop, w_neg, w_cmp, w_cmp2, w_and, w_or, w_not, w_call, w_meth, w_new, w_prim, w_attr, w_idx, w_slice, w_list, w_tup, w_comp] at hw
  obtain ⟨fa, hf⟩ := O.have_ _ _ hl
  rw [arm_eval_Call, base_of hb]
  refine wpAny_bind (ho.then a hw fun ov s1 xo H1 r1 a1 x1 q1 => wpAny_bind (wpAny_standAt ?_))
  obtain ⟨hi, q1⟩ := q1
  cases xo with
  | ref p =>
    cases r1.ref
    unfold isInst at hi
    dsimp only at hi
    split at hi
    · rename_i ci fs hp
      subst hi
      refine absG fun Cg hCg => ?_
      obtain ⟨Ca, d, ents, n, hc, e1, e2, r⟩ := a1.S.rep _ _ hp
      have K := O.cls _ _ hc
      have MO := O.mts _ _ _ _ e hf hc
      have I : W.InstAt s1.heap p (instObj Ca d) Ca (some { cls := .type "dict", data := .dict ents n }) := ⟨e1, rfl, rfl, e2⟩
      refine hCg ?_; clear hCg
      have hform : methodCallForm (es.length + ([] : List Keyword).length) (backTo pos (starEach es env)) (backToKw pos (keywordEach [] env)) = true := by
        unfold methodCallForm
        have : (backTo pos (starEach es env)).all (fun x => !x.1) = true := by
          have := any_star (env := env) (pos := pos) hs
          rw [List.any_eq_false] at this
          rw [List.all_eq_true]
          intro y hy
          simpa using this y hy
        rw [this]
        show (true && true && decide (es.length + 0 + 0 < 30)) = true
        simp; (first | lia | omega)
      have hpos : methodCallPos true o env ap pos = pure pos := by unfold methodCallPos; simp [hline]
      unfold methodCall
      rw [hform]
      refine wpAny_bind (wpAny_holding (method_fn (a1.S.X O) I K.ga K.gt MO.find MO.fn ?_ ?_))
      · unfold shadowIn lookIn
        dsimp only
        rw [find_none MO.no r, no_refKey r]
        rfl
      · refine wpAny_bind (wpAny_of_eq hpos ?_)
        refine callWith_of (P := C.K.In) (by rw [any_star hs]; rfl) (keeps_K (keep_fn (O.keep _ _ hf))) (wpAny_ext (args_ok hs h a1 q1) fun x s2 z => ?_)
        refine absG fun Cg hCg => ?_
        obtain ⟨hkw, xs, H2, _, r2, S2, x2, q2⟩ := z
        refine hCg ?_; clear hCg
        rw [hkw]
        refine ⟨S2.X O, ?_⟩
        exact wpAny_call (codeAny_mono (q2 A s2 (.ref p :: x.pos) l fa hl hf a.ao.hd (by have := a.ao.dp; (first | lia | omega)) (by have := a.ao.un; (first | lia | omega)) S2 (.cons rfl r2)) fun r s3 z => by
          refine absG fun Cg hCg => ?_
          obtain ⟨v, rfl, z⟩ := z
          refine hCg ?_; clear hCg
          exact PE.ext (x1.trans x2) z)
    · exact hi.elim
  | _ => exact hi.elim
theorem weight_make {Ca : Addr} {vs : List Value} : (Code.builtin "type.__call__" ⟨.ref Ca :: vs, []⟩).weight = 1 := by
  show _ + _ + _ + _ = _
  rfl
theorem units_make {Ca : Addr} {vs : List Value} : (Code.builtin "type.__call__" ⟨.ref Ca :: vs, []⟩).cUnits = 1 := rfl
theorem new_ok {x : Str} {p pos : Pos} {es : List Expr} {mes : List E} {ci l : Nat} {Ca : Addr} {Q : PV} (O : C.Ok) (hs : es.any isStar = false) (h : SndEs C (phi C) c es mes) (hx : c.isGlob x = true) (hd : (x == ("__debug__" : Str)) = false)
    (e : C.tab.cls.lookup x = some ci) (hc : C.clsA.lookup ci = some Ca) (hl : C.tab.lv.lookup ci = some l) (hlt : l < c.top)
    (a : At C c env A m H s) (hw : wpE (phi C) (.new ci mes) m H Q) : wpAny C.M A (eval (.Call (.Name x p) es [] pos) env) (PE C H s Q) NoE s := by
  simp only [w_var, w_lit, w_bop, w_neg, w_cmp, w_cmp2, w_and, w_or, w_not, w_call, w_meth, w_new, w_prim, w_attr, w_idx, w_slice, w_list, w_tup, w_comp] at hw
  obtain ⟨fa, hf⟩ := O.have_ _ _ hl
  have K := O.cls _ _ hc
  obtain ⟨hi1, hi2⟩ := O.inits _ _ _ hc hf
  have hkeep : keepIn C.K (.ref Ca) = true := by
    have := K.makes
    unfold makesIn at this
    unfold keepIn
    split at this
    · rename_i q
      simp only [Bool.and_eq_true] at this
      simp only [q]
      exact this.1.2
    · cases this
  refine wpAny_Call_NameR (glob_ok O a hx hd (O.clsN _ _ _ e hc) ?_)
  refine callWith_of (P := C.K.In) (by rw [any_star hs]; rfl) (keeps_K hkeep) (wpAny_ext (args_ok hs h a hw) fun x s1 z => ?_)
  refine absG fun Cg hCg => ?_
  obtain ⟨hkw, xs, H1, _, r, S1, x1, q⟩ := z
  refine hCg ?_; clear hCg
  rw [hkw]
  have X1 := S1.X O
  refine ⟨X1, wpAny_call ?_⟩
  have mkS := S1.make (tk := s1.toks) hc
  have q' := q (s1.heap.objs.size + 1) (by
    cases z : H1 (s1.heap.objs.size + 1) with
    | none => rfl
    | some o => obtain ⟨ob, lk⟩ := (S1.rep _ _ z).look; exact absurd (Heap.lt_size lk) (Nat.not_lt.mpr (Nat.le_succ _)))
  refine absG fun Cg hCg => ?_
  obtain ⟨hh, g, dr, t, os⟩ := s1
  refine hCg ?_; clear hCg
  refine make_core (makes_of X1 K.makes) (looks_findIn X1 hi1) (fun self => bind_fn X1 self hi2) (.inl rfl) ?_
  have A' := q' (A.under (.builtin "type.__call__" ⟨.ref Ca :: ([] ++ x.pos), []⟩)) ⟨(hh.push emptyDict).push (instObj Ca hh.objs.size), g, dr, t, os⟩ (.ref (hh.objs.size + 1) :: x.pos) l fa hl hf a.ao.hd
    (by show A.depth + _ + 4 * l + 3 ≤ 900; rw [weight_make]; have := a.ao.dp; (first | lia | omega)) (by show A.units + _ + 20 * l + 10 ≤ 9000; rw [units_make]; have := a.ao.un; (first | lia | omega)) mkS.1 (.cons rfl r)
  refine codeAny_mono A' fun r s2 z => ?_
  refine absG fun Cg hCg => ?_
  obtain ⟨v, rfl, mv, H2, rv, S2, x2, rfl, q2⟩ := z
  refine hCg ?_; clear hCg
  cases rv.none
  exact ⟨rfl, .ref _, H2, rfl, S2, (x1.trans mkS.2).trans x2, q2⟩
end ML
namespace ML
open PySem PySem.W PySem.Calls PyProof.Rows PySem.SeqAt
variable {C : Cfg} {Φ : Orac} {c : Ctx} {H H' H'' H1 : Heap} {s s' s1 : Shared} {h h' h'' : PHeap} {A : Around} {env : Env} {m : Loc}
noncomputable def strOf : Nat → Str
  | 0 => "put"
  | _ => "del"
mutual
noncomputable def toDat : D → Dat
  | .none => .none
  | .int i => .int i
  | .str k => .str (strOf k)
  | .list ds => .list (toDats ds)
  | .tup ds => .tuple (toDats ds)
noncomputable def toDats : List D → List Dat
  | [] => []
  | d :: ds => toDat d :: toDats ds
end
noncomputable def Sd : Nat → D → Prop
  | _, .none => True
  | _, .int _ => True
  | _, .str k => k < 2
  | n + 1, .list ds => ∀ d ∈ ds, Sd n d
  | n + 1, .tup ds => ∀ d ∈ ds, Sd n d
  | 0, _ => False
theorem toDat_inj : ∀ (n : Nat) (d e : D) (k : Nat), Sd n d → Sd k e → (toDat d = toDat e ↔ d = e) := by
  have all : ∀ (n : Nat), (∀ d e k, Sd n d → Sd k e → (toDat d = toDat e ↔ d = e)) → ∀ (k : Nat) (ds es : List D), (∀ d ∈ ds, Sd n d) → (∀ d ∈ es, Sd k d) → (toDats ds = toDats es ↔ ds = es) := by
    intro n ih k ds
    induction ds with
    | nil => intro es _ _; cases es <;> simp [toDats]
    | cons d ds hi =>
      intro es h1 h2
      cases es with
      | nil => simp [toDats]
      | cons e es =>
        have q1 := ih d e k (h1 d (.head _)) (h2 e (.head _))
        have q2 := hi es (fun x hx => h1 x (.tail _ hx)) fun x hx => h2 x (.tail _ hx)
        simp only [toDats, List.cons.injEq, q1, q2]
  have sInj : ∀ a b : Nat, a < 2 → b < 2 → (strOf a = strOf b ↔ a = b) := by
    intro a b ha hb
    rcases Nat.lt_or_ge a 1 with x | x <;> rcases Nat.lt_or_ge b 1 with y | y
    · have e1 : a = 0 := by (first | lia | omega)
      have e2 : b = 0 := by (first | lia | omega)
      subst e1 e2; simp
    · have e1 : a = 0 := by (first | lia | omega)
      have e2 : b = 1 := by (first | lia | omega)
      subst e1 e2; exact ⟨fun q => absurd q (by decide), fun q => by cases q⟩
    · have e1 : a = 1 := by (first | lia | omega)
      have e2 : b = 0 := by (first | lia | omega)
      subst e1 e2; exact ⟨fun q => absurd q (by decide), fun q => by cases q⟩
    · have e1 : a = 1 := by (first | lia | omega)
      have e2 : b = 1 := by (first | lia | omega)
      subst e1 e2; simp
  intro n
  induction n with
  | zero =>
    intro d e k h1 h2
    cases d with
    | list ds => exact h1.elim
    | tup ds => exact h1.elim
    | str a =>
      cases e with
      | str b =>
        have h2 : b < 2 := by cases k <;> exact h2
        simp only [toDat, Dat.str.injEq, D.str.injEq]; exact sInj a b h1 h2
      | _ => simp [toDat]
    | _ => cases e <;> simp [toDat]
  | succ n ih =>
    intro d e k h1 h2
    cases d with
    | list ds =>
      cases e with
      | list es =>
        cases k with
        | zero => exact h2.elim
        | succ k => simp only [toDat, Dat.list.injEq, D.list.injEq]; exact all n ih k ds es h1 h2
      | _ => simp [toDat]
    | tup ds =>
      cases e with
      | tup es =>
        cases k with
        | zero => exact h2.elim
        | succ k => simp only [toDat, Dat.tuple.injEq, D.tup.injEq]; exact all n ih k ds es h1 h2
      | _ => simp [toDat]
    | str a =>
      cases e with
      | str b =>
        have h2 : b < 2 := by cases k <;> exact h2
        simp only [toDat, Dat.str.injEq, D.str.injEq]; exact sInj a b h1 h2
      | _ => simp [toDat]
    | _ => cases e <;> simp [toDat]
structure RdOk (h : PHeap) (n : Nat) (v : Value) (d : D) : Prop where
  rd : ∃ as, Reads h v (kqdP (toDat d)) as
  ok : kqdOk n (toDat d) = true
  sd : Sd n d
theorem strIs.lt {k : Nat} {x : Str} (h : strIs k x) : k < 2 ∧ x = strOf k := by
  unfold strIs coreStrs at h
  simp only [List.lookup] at h
  split at h
  · rename_i q; cases h; exact ⟨by decide, beq_iff_eq.mp q⟩
  · split at h
    · rename_i q; cases h; exact ⟨by decide, beq_iff_eq.mp q⟩
    · cases h
theorem rda_ok {n : Nat} {v : Value} {x : V} {d : D} (r : RepV v x) (h : RdA x d) : RdOk s.heap n v d := by
  cases x with
  | none =>
    cases r.none
    cases d <;> first | exact h.elim | skip
    exact ⟨⟨_, Reads.none⟩, by cases n <;> rfl, by cases n <;> trivial⟩
  | int i =>
    obtain ⟨t, rfl⟩ := r.int
    cases d <;> first | exact h.elim | skip
    cases (show i = _ from h)
    exact ⟨⟨_, Reads.int i t⟩, by cases n <;> rfl, by cases n <;> trivial⟩
  | str k =>
    refine absG fun Cg hCg => ?_
    obtain ⟨x, t, rfl, hx⟩ := r.str
    refine hCg ?_; clear hCg
    cases d <;> first | exact h.elim | skip
    cases (show k = _ from h)
    obtain ⟨h1, rfl⟩ := hx.lt
    refine ⟨⟨_, by rw [toDat, kqdP]; exact Reads.str _ t⟩, ?_, by cases n <;> exact h1⟩
    have : PyData.strOk (strOf k) = true := by
      rcases Nat.lt_or_ge k 1 with x | x
      · have e : k = 0 := by (first | lia | omega)
        subst e; decide +kernel
      · have e : k = 1 := by (first | lia | omega)
        subst e; decide +kernel
    cases n <;> exact this
  | _ => cases d <;> exact h.elim
theorem rd_ok (S : StH C H s) : ∀ (n : Nat) {v : Value} {x : V} {d : D}, RepV v x → Rd H n x d → RdOk s.heap n v d := by
  intro n
  induction n with
  | zero => intro v x d r h; exact rda_ok r h
  | succ n ih =>
    have all : ∀ {vs : List Value} {xs : List V} {ds : List D}, All2 RepV vs xs → All2 (Rd H n) xs ds → (∃ as, ReadsAll s.heap vs (kqdPs (toDats ds)) as) ∧ (∀ d ∈ toDats ds, kqdOk n d = true) ∧ ∀ d ∈ ds, Sd n d := by
      intro vs xs ds r
      induction r generalizing ds with
      | nil => intro h; cases h; exact ⟨⟨_, by rw [toDats, kqdPs]; exact ReadsAll.nil⟩, fun _ h => (by simp [toDats] at h), fun _ h => (by cases h)⟩
      | cons a _ hi =>
        intro h
        cases h with
        | cons b bs =>
          refine absG fun Cg hCg => ?_
          obtain ⟨⟨as, h1⟩, h2, h3⟩ := ih a b
          obtain ⟨⟨as', h4⟩, h5, h6⟩ := hi bs
          refine hCg ?_; clear hCg
          refine ⟨⟨_, by rw [toDats, kqdPs]; exact ReadsAll.cons h1 h4⟩, fun d hd => ?_, fun d hd => ?_⟩
          · rw [toDats] at hd
            cases hd with
            | head => exact h2
            | tail _ hd => exact h5 d hd
          · cases hd with
            | head => exact h3
            | tail _ hd => exact h6 d hd
    intro v x d r h
    rcases h with h | ⟨a, o, xs, ds, rfl, ho, hl, rfl, h⟩ | ⟨a, xs, ds, rfl, ho, rfl, h⟩
    · exact rda_ok r h
    · cases r.ref
      have fin : ∀ {vs : List Value}, s.heap.IsList a vs.toArray → All2 RepV vs xs → RdOk s.heap (n + 1) (.ref a) (.list ds) := by
        intro vs l rr
        refine absG fun Cg hCg => ?_
        obtain ⟨⟨as, h1⟩, h2, h3⟩ := all rr h
        obtain ⟨ob, l1, l2, k, l3⟩ := l
        refine hCg ?_; clear hCg
        refine ⟨⟨_, by rw [toDat, kqdP]; exact reads_list_at l1 l2 l3 (by simpa using h1)⟩, ?_, h3⟩
        rw [toDat]; simpa [kqdOk] using h2
      have rr := S.rep _ _ ho
      cases o with
      | list ys => cases hl; obtain ⟨vs, k, l, q, _⟩ := rr; exact fin l.isList q
      | ro ys => cases hl; obtain ⟨vs, l, q, _⟩ := rr; exact fin l q
      | _ => cases hl
    · cases r.ref
      refine absG fun Cg hCg => ?_
      obtain ⟨vs, ⟨ob, l1, l2, k, l3⟩, rr, _⟩ := S.rep _ _ ho
      obtain ⟨⟨as, h1⟩, h2, h3⟩ := all rr h
      refine hCg ?_; clear hCg
      refine ⟨⟨_, by rw [toDat, kqdP]; exact reads_tuple_at l1 l2 l3 (by simpa using h1)⟩, ?_, h3⟩
      rw [toDat]; simpa [kqdOk] using h2
theorem rd_shaped {n : Nat} {v : Value} {d : D} (r : RdOk h n v d) (hn : n ≤ 8) : SeqAt.shaped (kqdP (toDat d)) = true := by
  have l := kqd_lay n _ r.ok
  unfold SeqAt.shaped; rw [l.1, Bool.true_and]; exact decide_eq_true (by have := l.2; (first | lia | omega))
theorem rd_eqv {n : Nat} {v w : Value} {d e : D} (r : RdOk h n v d) (q : RdOk h n w e) : PyData.eqv (kqdP (toDat d)) (kqdP (toDat e)) = true ↔ d = e :=
  (kqd_eqv n _ _ n r.ok q.ok).trans (toDat_inj n d e n r.sd q.sd)
theorem eq_ok {a b : Value} {x y : V} {Q : Bool → Prop} (S : StH C H s) (ha : RepV a x) (hb : RepV b y) (hu : A.units + 64 < cLine) (hw : eqW x y H Q) :
    wpAny C.M A (compareOp .Eq a b) (PB C H s Q) NoE s ∧ wpAny C.M A (compareOp .NotEq a b) (PB C H s fun r => Q (!r)) NoE s := by
  rcases hw with ⟨da, db, h1, h2, k⟩ | ⟨p, q, ps, rfl, rfl, h1, h2, k⟩
  · have r1 := rd_ok S _ ha h1
    have r2 := rd_ok S _ hb h2
    obtain ⟨as, rd1⟩ := r1.rd
    obtain ⟨bs, rd2⟩ := r2.rd
    have kk := k _ (rd_eqv r1 r2)
    exact ⟨eq_dataH rd1 rd2 (rd_shaped r1 (by decide)) (rd_shaped r2 (by decide)) hu (PB.at S kk), ne_dataH rd1 rd2 (rd_shaped r1 (by decide)) (rd_shaped r2 (by decide)) hu (PB.at S (by rw [Bool.not_not]; exact kk))⟩
  · cases ha.ref; cases hb.ref
    refine absG fun Cg hCg => ?_
    obtain ⟨vs, n, l1, rr1, _⟩ := S.rep _ _ h1
    obtain ⟨us, n', l2, rr2, _⟩ := S.rep _ _ h2
    refine hCg ?_; clear hCg
    have e : vs = us := by
      have key : ∀ {l : List Value} {zs : List Nat}, All2 RepV l (zs.map V.ref) → l = zs.map Value.ref := by
        intro l zs
        induction zs generalizing l with
        | nil => intro h; cases h; rfl
        | cons z zs ih => intro h; cases h with | cons a r => rw [List.map_cons, ← ih r]; rw [a.ref]
      rw [key rr1, key rr2]
    subst e
    have hu' : A.units < cLine := by (first | lia | omega)
    have al : ∀ n : Nat, (List.range n).all (fun _ => true) = true := fun n => by simp
    refine ⟨RcAt.lists (e := fun _ => true) l1.isList l2.isList rfl hu' (fun j h1 h2 => EqAt.same _) _ _ _ _ ?_, RcNeAt.lists (e := fun _ => true) l1.isList l2.isList rfl hu' (fun j h1 h2 => EqAt.same _) _ _ _ _ ?_⟩
    · rw [al]; exact PB.at S k
    · rw [al]; exact PB.at S (by simpa using k)
end ML
namespace ML
open PySem PySem.W PySem.Calls PyProof.Rows PySem.SeqAt
variable {C : Cfg} {Φ : Orac} {c : Ctx} {H H' H'' H1 : Heap} {s s' s1 : Shared} {h h' h'' : PHeap} {A : Around} {env : Env} {m : Loc}
theorem PB.ext {Q : Bool → Prop} {v : Value} {x : PB C H s Q v s'} : PB C H s Q v s' := x
theorem AOk.room {n : Nat} (a : AOk A n) : A.units + 64 < cLine := by have := a.un; show _ < 9900; (first | lia | omega)
theorem ord_get {f : Int → Int → Bool} {x y : V} {Q : Bool → Prop} (h : ordW f x y Q) : ∃ i j, x = .int i ∧ y = .int j ∧ Q (f i j) := int2_get h
theorem eqs_get {fi : Int → Int → Bool} {fb : Bool → Bool → Bool} {fs : Nat → Nat → Bool} {Fl : Int → UInt64 → Prop} {x y : V} {E : Prop} {Q : Bool → Prop} (h : eqsW fi fb fs Fl x y E Q) :
    E ∨ (∃ i j, x = .int i ∧ y = .int j ∧ Q (fi i j)) ∨ (∃ i j, x = .bool i ∧ y = .bool j ∧ Q (fb i j)) ∨ (∃ i j, x = .str i ∧ y = .str j ∧ Q (fs i j))
    := by
  cases x with
  | int i => cases y with
    | int j => exact .inr (.inl ⟨i, j, rfl, rfl, h⟩)
    | _ => exact .inl h
  | bool i => cases y with
    | bool j => exact .inr (.inr (.inl ⟨i, j, rfl, rfl, h⟩))
    | _ => exact .inl h
  | str i => cases y with
    | str j => exact .inr (.inr (.inr ⟨i, j, rfl, rfl, h⟩))
    | _ => exact .inl h
  | _ => exact .inl h
theorem str_same {z z' : Str} {i j : Nat} (hz : strIs i z) (hz' : strIs j z') : (z.cps.toList == z'.cps.toList) = decide (i = j) := by
  by_cases q : i = j
  · subst q; rw [hz.uniq hz']; simp
  · rw [decide_eq_false q]
    refine beq_eq_false_iff_ne.mpr fun w => q ?_
    have : z = z' := by cases z; cases z'; simp only [Str.mk.injEq]; exact Array.ext' w
    subst this; exact hz.inj hz'
theorem dec_ne (i j : Int) : (i != j) = decide (i ≠ j) := by by_cases q : i = j <;> simp [q]
theorem dec_eq (i j : Int) : (i == j) = decide (i = j) := by by_cases q : i = j <;> simp [q]
section
variable {a b : Value} {x y : V} {Q : Bool → Prop}
theorem cmp_lt (S : StH C H s) (ha : RepV a x) (hb : RepV b y) (hw : cmpW .lt x y H Q) : wpAny C.M A (compareOp .Lt a b) (PB C H s Q) NoE s := by
  obtain ⟨i, j, rfl, rfl, q⟩ := ord_get hw; obtain ⟨t, u, rfl, rfl⟩ := two_ints ha hb; exact P.lt_int (PB.at S q)
theorem cmp_le (S : StH C H s) (ha : RepV a x) (hb : RepV b y) (hw : cmpW .le x y H Q) : wpAny C.M A (compareOp .LtE a b) (PB C H s Q) NoE s := by
  obtain ⟨i, j, rfl, rfl, q⟩ := ord_get hw; obtain ⟨t, u, rfl, rfl⟩ := two_ints ha hb; exact P.le_int (PB.at S q)
theorem cmp_ge (S : StH C H s) (ha : RepV a x) (hb : RepV b y) (hw : cmpW .ge x y H Q) : wpAny C.M A (compareOp .GtE a b) (PB C H s Q) NoE s := by
  obtain ⟨i, j, rfl, rfl, q⟩ := ord_get hw; obtain ⟨t, u, rfl, rfl⟩ := two_ints ha hb; exact P.ge_int (PB.at S q)
theorem cmp_gt (S : StH C H s) (ha : RepV a x) (hb : RepV b y) (hw : cmpW .gt x y H Q) : wpAny C.M A (compareOp .Gt a b) (PB C H s Q) NoE s := by
  obtain ⟨i, j, rfl, rfl, q⟩ := ord_get hw; obtain ⟨t, u, rfl, rfl⟩ := two_ints ha hb; exact P.gt_int (PB.at S q)
theorem cmp_eq (S : StH C H s) (ha : RepV a x) (hb : RepV b y) (hu : A.units + 64 < cLine) (hw : cmpW .eq x y H Q) : wpAny C.M A (compareOp .Eq a b) (PB C H s Q) NoE s := by
  rcases eqs_get (Fl := fun _ _ => False) hw with q | ⟨i, j, rfl, rfl, q⟩ | ⟨i, j, rfl, rfl, q⟩ | ⟨i, j, rfl, rfl, q⟩
  · exact (eq_ok S ha hb hu q).1
  · obtain ⟨t, u, rfl, rfl⟩ := two_ints ha hb; exact P.eq_int (PB.at S (by rw [dec_eq]; exact q))
  · cases ha.bool; cases hb.bool
    exact RcAt.bool_bool i j _ _ _ _ (PB.at S (by rw [show (i == j) = decide (i = j) by cases i <;> cases j <;> rfl]; exact q))
  · obtain ⟨z, t, rfl, hz⟩ := ha.str; obtain ⟨z', u, rfl, hz'⟩ := hb.str
    exact P.eq_str (PB.at S (by rw [str_same hz hz']; exact q))
theorem cmp_ne (S : StH C H s) (ha : RepV a x) (hb : RepV b y) (hu : A.units + 64 < cLine) (hw : cmpW .ne x y H Q) : wpAny C.M A (compareOp .NotEq a b) (PB C H s Q) NoE s := by
  have fin : eqW x y H (fun r => Q (!r)) → wpAny C.M A (compareOp .NotEq a b) (PB C H s Q) NoE s := fun hw => wpAny_ext (eq_ok (A := A) (Q := fun r => Q (!r)) S ha hb hu hw).2 fun v s' ⟨r, e, z1, z2, z3⟩ => ⟨r, e, z1, z2, by have z3 : Q (!!r) := z3; rwa [Bool.not_not] at z3⟩
  rcases eqs_get (Fl := fun x b => eqW (.int x) (.flt b) H fun r => Q (!r)) hw with q | ⟨i, j, rfl, rfl, q⟩ | ⟨i, j, rfl, rfl, q⟩ | ⟨i, j, rfl, rfl, q⟩
  · exact fin q
  · obtain ⟨t, u, rfl, rfl⟩ := two_ints ha hb; exact P.ne_int (PB.at S (by rw [dec_ne]; exact q))
  · cases ha.bool; cases hb.bool
    exact RcNeAt.bool_bool i j _ _ _ _ (PB.at S (by rw [show (!(i == j)) = decide (i ≠ j) by cases i <;> cases j <;> rfl]; exact q))
  · obtain ⟨z, t, rfl, hz⟩ := ha.str; obtain ⟨z', u, rfl, hz'⟩ := hb.str
    refine P.ne_str (PB.at S ?_)
    have e : (z.cps.toList != z'.cps.toList) = decide (i ≠ j) := by
      rw [bne, str_same hz hz']; by_cases q : i = j <;> simp [q]
    rw [e]; exact q
end
theorem cmp_ok {op : CmpOp} {a b : Value} {x y : V} {Q : Bool → Prop} (S : StH C H s) (ha : RepV a x) (hb : RepV b y) (hu : A.units + 64 < cLine) (hw : cmpW (trCmp op) x y H Q) :
    wpAny C.M A (compareOp op a b) (PB C H s Q) NoE s := by
  cases op with
  | Is =>
    show wpAny C.M A (do return Value.bool (← isSame a b)) _ _ _
    exact wpAny_bind (wpAny_ext (is_ok S ha hb hw) fun r s' z => by obtain ⟨rfl, z⟩ := z; exact wpAny_pure (PB.at S z))
  | IsNot =>
    show wpAny C.M A (do return Value.bool (!(← isSame a b))) _ _ _
    exact wpAny_bind (wpAny_ext (is_ok (Q := fun r => Q (!r)) S ha hb hw) fun r s' z => by obtain ⟨rfl, z⟩ := z; exact wpAny_pure (PB.at S z))
  | In => exact hw.elim
  | NotIn => exact hw.elim
  | Lt => exact cmp_lt S ha hb hw
  | LtE => exact cmp_le S ha hb hw
  | Gt => exact cmp_gt S ha hb hw
  | GtE => exact cmp_ge S ha hb hw
  | Eq => exact cmp_eq S ha hb hu hw
  | NotEq => exact cmp_ne S ha hb hu hw
end ML
namespace ML
open PySem PySem.W PySem.Calls PyProof.Rows PySem.SeqAt
variable {C : Cfg} {Φ : Orac} {c : Ctx} {H H' H'' H1 : Heap} {s s' s1 s2 : Shared} {h h' h'' : PHeap} {A : Around} {env : Env} {m m' : Loc}
structure ExtS (env : Env) (H : Heap) (h : PHeap) (H' : Heap) (h' : PHeap) : Prop where
  keep : ∀ b o, h.get? b = some o → ¬ Fp H h b → b ≠ env.locals → (∀ x, env.cells.lookup x ≠ some b) → h'.get? b = some o
  alive : ∀ b, h'.get? b = none → h.get? b = none
  fresh : ∀ b, Fp H' h' b → Fp H h b ∨ h.get? b = none
  dom : ∀ b o, H' b = some o → (∃ o', H b = some o') ∨ h.get? b = none
theorem Ext.toS (x : Ext H h H' h') : ExtS env H h H' h' := ⟨fun b o e n _ _ => x.keep b o e n, x.alive, x.fresh, x.dom⟩
theorem ExtS.trans (x : ExtS env H h H' h') (y : ExtS env H' h' H'' h'') : ExtS env H h H'' h'' where
  keep b o e n l k := y.keep b o (x.keep b o e n l k) (fun f => (x.fresh b f).elim n fun z => by rw [z] at e; cases e) l k
  alive b e := x.alive b (y.alive b e)
  fresh b f := (y.fresh b f).elim (x.fresh b) fun z => .inr (x.alive b z)
  dom b o e := (y.dom b o e).elim (fun ⟨o', e'⟩ => x.dom b o' e') fun z => .inr (x.alive b z)
theorem ExtS.forget (x : ExtS env H h H' h') (l : H''.le H') : ExtS env H h H'' h' :=
  ⟨x.keep, x.alive, fun b f => x.fresh b (f.imp (fun ⟨y, e⟩ => ⟨y, l _ _ e⟩) fun f => f.imp (fun ⟨y, e⟩ => ⟨y, l _ _ e⟩) fun ⟨a, c, fs, o, e1, e2, e3⟩ => ⟨a, c, fs, o, l _ _ e1, e2, e3⟩), fun b o e => x.dom b o (l _ _ e)⟩
theorem EnvSt.forget (x : EnvSt C c env m H h) (l : H'.le H) : EnvSt C c env m H' h := by
  have hn : ∀ {b}, H b = none → H' b = none := fun {b} e => by
    cases q : H' b with
    | none => rfl
    | some o => rw [l _ _ q] at e; cases e
  have hh : ∀ {b}, ¬ Hid H h b → ¬ Hid H' h b := fun n ⟨a, c, fs, o, e1, e2, e3⟩ => n ⟨a, c, fs, o, l _ _ e1, e2, e3⟩
  exact ⟨x.len, x.ns, x.cells, ⟨hn x.apL.1, hh x.apL.2.1, x.apL.2.2⟩, fun y a e => let ⟨n1, n2, n3, n4⟩ := x.apC y a e; ⟨hn n1, hh n2, n3, n4⟩, x.injC⟩
theorem quiet_one (S : StH C H s) {b : Addr} (hb : H b = none ∧ ¬ Hid H s.heap b ∧ C.h₀.get? b = none) (hk : ∀ a, a ≠ b → s'.heap.get? a = s.heap.get? a) (ha : ∃ o, s'.heap.get? b = some o) (hg : s'.gens = s.gens) (hos : s'.os = s.os) :
    StH C H s' ∧ (∀ x, Hid H s'.heap x ↔ Hid H s.heap x) := by
  have S' : StH C H s' := S.quiet (fun a => a = b) (fun a o e n => (hk a n).trans e) (fun a e => by subst e; exact ⟨hb.1, hb.2.2, hb.2.1⟩) hg hos
  have ne : ∀ a c fs, H a = some (.inst c fs) → a ≠ b := fun a c fs e q => by rw [q, hb.1] at e; cases e
  exact ⟨S', fun x => ⟨fun ⟨a, c, fs, o, e1, e2, e3⟩ => ⟨a, c, fs, o, e1, (hk a (ne _ _ _ e1)) ▸ e2, e3⟩, fun ⟨a, c, fs, o, e1, e2, e3⟩ => ⟨a, c, fs, o, e1, (hk a (ne _ _ _ e1)).symm ▸ e2, e3⟩⟩⟩
theorem optRep_set {i j : Nat} {v : V} {ov : Option Value} (hl : i < m.length) (e : j ≠ i) (r : OptRep ov (m[j]?.join)) : OptRep ov ((m.set i (some v))[j]?.join) := by
  rw [List.getElem?_set_ne (Ne.symm e)]; exact r
theorem store_ok {x : Str} {pv : Value} {v : V} {i : Nat} {R : Unit → Shared → Prop} (hn : trName c x = some i) (a : At C c env A m H s) (r : RepV pv v)
    (k : ∀ s', StH C H s' → EnvSt C c env (m.set i (some v)) H s'.heap → ExtS env H s.heap H s'.heap → R () s') : wpAny C.M A (storeName env x pv) R NoE s := by
  unfold trName at hn
  have hi : i < m.length := by
    rw [a.N.len]
    split at hn <;> first | exact a.eo.bnd _ _ hn | cases hn
  have self : OptRep (some pv) ((m.set i (some v))[i]?.join) := by rw [List.getElem?_set_self hi]; exact r
  split at hn
  · rename_i hk
    refine absG fun Cg hCg => ?_
    obtain ⟨mm, hN, hm⟩ := a.N.ns
    refine hCg ?_; clear hCg
    refine wpAny_storeName_local (a.eo.kloc _ hk) hN (fun h' hN' hs => ?_) (by rw [a.eo.kind]; rfl)
    have Q1 := quiet_one (s' := { s with heap := h', toks := s.toks + 1 }) a.S a.N.apL (fun b n => hs.2 b n) (let ⟨o, _, _, ho, _⟩ := hN'; ⟨o, ho⟩) rfl rfl
    refine k _ Q1.1 ⟨by rw [List.length_set]; exact a.N.len, ⟨_, hN', fun y j hy hky => ?_⟩, fun y j hy hky => ?_, ⟨a.N.apL.1, fun z => a.N.apL.2.1 ((Q1.2 _).mp z), a.N.apL.2.2⟩, fun y b e => ?_, a.N.injC⟩ ⟨fun b o e _ nl _ => (hs.2 b nl).trans e, fun b e => ?_, fun b f => .inl ?_, fun b o e => .inl ⟨o, e⟩⟩
    · by_cases q : y = x
      · subst q; rw [hn] at hy; cases hy; rw [if_pos rfl]; exact self
      · rw [if_neg q]
        have : j ≠ i := fun z => q (a.eo.inj _ _ _ hy (z ▸ hn))
        exact optRep_set hi this (hm y j hy hky)
    · refine absG fun Cg hCg => ?_
      obtain ⟨ca, ov, e1, e2, e3⟩ := a.N.cells y j hy hky
      obtain ⟨n1, n2, n3, n4, _⟩ := a.N.apC _ _ e1
      refine hCg ?_; clear hCg
      have : j ≠ i := fun z => by
        have := a.eo.inj _ _ _ hy (z ▸ hn)
        subst this
        rcases hky with q | q <;> (rw [hk] at q; cases q)
      exact ⟨ca, ov, e1, e2.sameBut hs n4, optRep_set hi this e3⟩
    · refine absG fun Cg hCg => ?_
      obtain ⟨n1, n2, n3, n4, o, lk⟩ := a.N.apC _ _ e
      refine hCg ?_; clear hCg
      exact ⟨n1, fun z => n2 ((Q1.2 _).mp z), n3, n4, o, (hs.2 _ n4).trans lk⟩
    · by_cases q : b = env.locals
      · refine absG fun Cg hCg => ?_
        obtain ⟨o, _, _, ho, _⟩ := hN'
        refine hCg ?_; clear hCg
        subst q
        have e : h'.get? env.locals = none := e
        rw [ho] at e; cases e
      · exact (hs.2 b q).symm.trans e
    · rcases f with f | f | f
      · exact .inl f
      · exact .inr (.inl f)
      · exact .inr (.inr ((Q1.2 _).mp f))
  · rename_i hk
    refine absG fun Cg hCg => ?_
    obtain ⟨ca, ov, e1, e2, e3⟩ := a.N.cells x i hn (.inl hk)
    have ap := a.N.apC _ _ e1
    refine hCg ?_; clear hCg
    refine wpAny_storeName_cell a.eo.kind (a.eo.kcell _ hk) e1 e2 (fun h' hc hs => ?_)
    have Q1 := quiet_one (s' := { s with heap := h' }) a.S ⟨ap.1, ap.2.1, ap.2.2.1⟩ (fun b n => hs.2 b n) (let ⟨o, ho, _⟩ := hc; ⟨o, ho⟩) rfl rfl
    refine absG fun Cg hCg => ?_
    obtain ⟨mm, hN, hm⟩ := a.N.ns
    refine hCg ?_; clear hCg
    refine k _ Q1.1 ⟨by rw [List.length_set]; exact a.N.len, ⟨_, hN.sameBut hs (Ne.symm ap.2.2.2.1), fun y j hy hky => ?_⟩, fun y j hy hky => ?_, ⟨a.N.apL.1, fun z => a.N.apL.2.1 ((Q1.2 _).mp z), a.N.apL.2.2⟩, fun y b e => ?_, a.N.injC⟩ ⟨fun b o e _ _ nc => (hs.2 b fun q => nc x (q ▸ e1)).trans e, fun b e => ?_, fun b f => .inl ?_, fun b o e => .inl ⟨o, e⟩⟩
    · have : j ≠ i := fun z => by
        have := a.eo.inj _ _ _ hy (z ▸ hn)
        subst this
        rw [hk] at hky; cases hky
      exact optRep_set hi this (hm y j hy hky)
    · by_cases q : y = x
      · subst q; rw [hn] at hy; cases hy
        exact ⟨ca, _, e1, hc, self⟩
      · refine absG fun Cg hCg => ?_
        obtain ⟨cb, ov', f1, f2, f3⟩ := a.N.cells y j hy hky
        have : j ≠ i := fun z => q (a.eo.inj _ _ _ hy (z ▸ hn))
        refine hCg ?_; clear hCg
        exact ⟨cb, ov', f1, f2.sameBut hs (fun z => q (a.N.injC _ _ _ f1 (z ▸ e1))), optRep_set hi this f3⟩
    · refine absG fun Cg hCg => ?_
      obtain ⟨n1, n2, n3, n4, o, lk⟩ := a.N.apC _ _ e
      refine hCg ?_; clear hCg
      refine ⟨n1, fun z => n2 ((Q1.2 _).mp z), n3, n4, ?_⟩
      by_cases q : b = ca
      · subst q; obtain ⟨o', ho', _⟩ := hc; exact ⟨o', ho'⟩
      · exact ⟨o, (hs.2 _ q).trans lk⟩
    · by_cases q : b = ca
      · refine absG fun Cg hCg => ?_
        obtain ⟨o, ho, _⟩ := hc
        refine hCg ?_; clear hCg
        subst q
        have e : h'.get? b = none := e
        rw [ho] at e; cases e
      · exact (hs.2 b q).symm.trans e
    · rcases f with f | f | f
      · exact .inl f
      · exact .inr (.inl f)
      · exact .inr (.inr ((Q1.2 _).mp f))
  · cases hn
noncomputable def RepF : PySem.Flow → Flow → Prop
  | .next, .next => True
  | .brk, .brk => True
  | .cont, .cont => True
  | .ret v, .ret w => RepV v w
  | _, _ => False
noncomputable def PSs (C : Cfg) (c : Ctx) (env : Env) (H : Heap) (s : Shared) (Q : PS) : PySem.Flow → Shared → Prop := fun fl s' => ∃ mfl m' H', RepF fl mfl ∧ StH C H' s' ∧ EnvSt C c env m' H' s'.heap ∧ ExtS env H s.heap H' s'.heap ∧ Q mfl m' H'
theorem PSs.ext {Q : PS} {fl : PySem.Flow} (x : ExtS env H s.heap H1 s1.heap) (y : PSs C c env H1 s1 Q fl s') : PSs C c env H s Q fl s' := let ⟨a, b, d, r, S, N, e, q⟩ := y; ⟨a, b, d, r, S, N, x.trans e, q⟩
noncomputable def SndS (C : Cfg) (Φ : Orac) (c : Ctx) (st : Stmt) (ms : S) : Prop :=
  ∀ {env : Env} {A : Around} {m : Loc} {H : Heap} {s : Shared} {Q : PS}, At C c env A m H s → wpS Φ ms m H Q → wpAny C.M A (exec st env) (PSs C c env H s Q) NoE s
noncomputable def SndSs (C : Cfg) (Φ : Orac) (c : Ctx) (st : List Stmt) (ms : List S) : Prop :=
  ∀ {env : Env} {A : Around} {m : Loc} {H : Heap} {s : Shared} {Q : PS}, At C c env A m H s → wpSs Φ ms m H Q → wpAny C.M A (execs st env) (PSs C c env H s Q) NoE s
theorem At.then (a : At C c env A m H s) (S : StH C H1 s1) (N : EnvSt C c env m' H1 s1.heap) : At C c env A m' H1 s1 := ⟨a.eo, a.ao, S, N⟩
theorem execs_nil_ok : SndSs C Φ c [] [] := fun {env A m H s Q} a hw => by
  simp only [s_nil, s_cons] at hw
  exact wpAny_execs_nil ⟨.next, m, H, trivial, a.S, a.N, Ext.refl.toS, hw⟩
theorem execs_cons_ok {st : Stmt} {sts : List Stmt} {ms : S} {mss : List S} (h1 : SndS C Φ c st ms) (h2 : SndSs C Φ c sts mss) : SndSs C Φ c (st :: sts) (ms :: mss) := fun {env A m H s Q} a hw => by
  simp only [s_nil, s_cons] at hw
  refine wpAny_execs_cons (wpAny_ext (h1 a hw) fun fl s1 z => ?_)
  refine absG fun Cg hCg => ?_
  obtain ⟨mfl, m1, H1, r, S1, N1, x1, q⟩ := z
  refine hCg ?_; clear hCg
  cases fl with
  | next => cases mfl <;> first | exact r.elim | exact wpAny_ext (h2 (a.then S1 N1) q) fun _ _ z => PSs.ext x1 z
  | brk => cases mfl <;> first | exact r.elim | exact ⟨_, m1, H1, r, S1, N1, x1, q⟩
  | cont => cases mfl <;> first | exact r.elim | exact ⟨_, m1, H1, r, S1, N1, x1, q⟩
  | ret v => cases mfl <;> first | exact r.elim | exact ⟨_, m1, H1, r, S1, N1, x1, q⟩
theorem execs_ok {f : Stmt → Option S} (hf : ∀ st ms, f st = some ms → SndS C Φ c st ms) : ∀ {sts : List Stmt} {mss : List S}, mapO f sts = some mss → SndSs C Φ c sts mss := by
  intro sts
  induction sts with
  | nil => intro mss h; cases h; exact execs_nil_ok
  | cons st sts ih =>
    intro mss h
    unfold mapO at h
    split at h
    · rename_i b hb
      split at h
      · rename_i bs hbs; cases h; exact execs_cons_ok (hf _ _ hb) (ih hbs)
      · cases h
    · cases h
section
variable {Q : PS} {pos pos' : Pos} {e e1 e2 e3 : Expr} {me me1 me2 me3 : E}
theorem assign_ok {x : Str} {i : Nat} (hn : trName c x = some i) (h : SndE C Φ c e me) (hsw : ∀ env : Env, swapsWith e (some (.Name x pos')) pos.line env = pure false) (a : At C c env A m H s) (hw : wpS Φ (.assign i me) m H Q) :
    wpAny C.M A (exec (.Assign [.Name x pos'] e pos) env) (PSs C c env H s Q) NoE s := by
  simp only [s_assign, s_unpack, s_setAttr, s_setIdx, s_delIdx, s_append, s_expr, s_ret0, s_ret, s_ite, s_whl, s_for, s_brk, s_pass] at hw
  refine wpAny_Assign_Name (h.then a hw fun v s1 y H1 r a1 x1 q => store_ok hn a1 r fun s2 S2 N2 x2 => ?_) (hsw env)
  exact ⟨.next, _, H1, trivial, S2, N2, x1.toS.trans x2, q⟩
theorem ret_ok (h : SndE C Φ c e me) (a : At C c env A m H s) (hw : wpS Φ (.ret (some me)) m H Q) : wpAny C.M A (exec (.Return (some e) pos) env) (PSs C c env H s Q) NoE s := by
  simp only [s_assign, s_unpack, s_setAttr, s_setIdx, s_delIdx, s_append, s_expr, s_ret0, s_ret, s_ite, s_whl, s_for, s_brk, s_pass] at hw
  exact wpAny_Return_some (h.then a hw fun v s1 y H1 r a1 x1 q => ⟨.ret y, m, H1, r, a1.S, a1.N, x1.toS, q⟩)
theorem ret0_ok (a : At C c env A m H s) (hw : wpS Φ (.ret none) m H Q) : wpAny C.M A (exec (.Return none pos) env) (PSs C c env H s Q) NoE s := by
  simp only [s_assign, s_unpack, s_setAttr, s_setIdx, s_delIdx, s_append, s_expr, s_ret0, s_ret, s_ite, s_whl, s_for, s_brk, s_pass] at hw
  exact wpAny_Return_none ⟨.ret .none, m, H, trivial, a.S, a.N, Ext.refl.toS, hw⟩
theorem pass_ok (a : At C c env A m H s) (hw : wpS Φ .pass m H Q) : wpAny C.M A (exec (.Pass pos) env) (PSs C c env H s Q) NoE s := by
  simp only [s_assign, s_unpack, s_setAttr, s_setIdx, s_delIdx, s_append, s_expr, s_ret0, s_ret, s_ite, s_whl, s_for, s_brk, s_pass] at hw
  exact wpAny_Pass ⟨.next, m, H, trivial, a.S, a.N, Ext.refl.toS, hw⟩
theorem brk_ok (a : At C c env A m H s) (hw : wpS Φ .brk m H Q) : wpAny C.M A (exec (.Break pos) env) (PSs C c env H s Q) NoE s := by
  simp only [s_assign, s_unpack, s_setAttr, s_setIdx, s_delIdx, s_append, s_expr, s_ret0, s_ret, s_ite, s_whl, s_for, s_brk, s_pass] at hw
  exact wpAny_Break ⟨.brk, m, H, trivial, a.S, a.N, Ext.refl.toS, hw⟩
theorem if_ok {b1 b2 : List Stmt} {mb1 mb2 : List S} (h : SndT C Φ c e me) (h1 : SndSs C Φ c b1 mb1) (h2 : SndSs C Φ c b2 mb2) (a : At C c env A m H s) (hw : wpS Φ (.ite me mb1 mb2) m H Q) :
    wpAny C.M A (exec (.If e b1 b2 pos) env) (PSs C c env H s Q) NoE s := by
  simp only [s_assign, s_unpack, s_setAttr, s_setIdx, s_delIdx, s_append, s_expr, s_ret0, s_ret, s_ite, s_whl, s_for, s_brk, s_pass] at hw
  refine wpAny_If (h.then a hw fun r s1 H1 a1 x1 q => ?_)
  cases r with
  | true => exact wpAny_ext (h1 a1 q) fun _ _ z => PSs.ext x1.toS z
  | false => exact wpAny_ext (h2 a1 q) fun _ _ z => PSs.ext x1.toS z
theorem expr_ok (h : SndE C Φ c e me) (hc : isComp e = false) (a : At C c env A m H s) (hw : wpS Φ (.expr me) m H Q) : wpAny C.M A (exec (.Expr e pos) env) (PSs C c env H s Q) NoE s := by
  simp only [s_assign, s_unpack, s_setAttr, s_setIdx, s_delIdx, s_append, s_expr, s_ret0, s_ret, s_ite, s_whl, s_for, s_brk, s_pass] at hw
  refine wpAny_Expr (h.then a hw fun v s1 y H1 r a1 x1 q => ?_) (by unfold interactive; rw [a.eo.kind]; rfl) (by cases e <;> first | rfl | cases hc)
  cases y with
  | ref p => exact q.elim
  | none => cases r.none; exact ⟨.next, m, H1, trivial, a1.S, a1.N, x1.toS, q⟩
  | bool b => cases r.bool; exact ⟨.next, m, H1, trivial, a1.S, a1.N, x1.toS, q⟩
  | int b => obtain ⟨t, rfl⟩ := r.int; exact ⟨.next, m, H1, trivial, a1.S, a1.N, x1.toS, q⟩
  | flt b => obtain ⟨t, rfl⟩ := r.flt; exact ⟨.next, m, H1, trivial, a1.S, a1.N, x1.toS, q⟩
  | str b => obtain ⟨z, t, rfl, _⟩ := r.str; exact ⟨.next, m, H1, trivial, a1.S, a1.N, x1.toS, q⟩
end
end ML
namespace ML
open PySem PySem.W PySem.Calls PyProof.Rows PySem.SeqAt
variable {C : Cfg} {Φ : Orac} {c : Ctx} {H H' H'' H1 : Heap} {s s' s1 s2 : Shared} {h h' h'' : PHeap} {A : Around} {env : Env} {m m' : Loc}
variable {Q : PS} {pos pos' : Pos} {e o i : Expr} {me mo mi : E}
theorem mapSeq_list {items : Array Value} {n : Nat} (f : Array Value → Array Value) : ∃ n', Obj.mapSeq f { cls := .type "list", dict := none, data := .seq items n, slots := #[] } = { cls := .type "list", dict := none, data := .seq (f items) n', slots := #[] } := ⟨_, rfl⟩
theorem lst_write {p : Nat} {xs ys : List V} {vs us : List Value} {n : Nat} {f : Array Value → Array Value} (S : StH C H s) (hp : H p = some (.list xs)) (l : IsL s.heap p vs.toArray n) (hf : f vs.toArray = us.toArray) (hr : All2 RepV us ys) (hz : ys.length ≤ 2 * lim) :
    StH C (H.upd p (.list ys)) { s with heap := s.heap.update p (Obj.mapSeq f) } ∧ Ext H s.heap (H.upd p (.list ys)) (s.heap.update p (Obj.mapSeq f)) := by
  obtain ⟨n', e⟩ := mapSeq_list (items := vs.toArray) (n := n) f
  rw [hf] at e
  exact S.write (tk := s.toks) hp l (.inl ⟨xs, rfl⟩) (.inl ⟨ys, rfl⟩) (by rw [e]; rfl) ⟨us, n', by show _ = _; rw [Heap.get?_update_self _ l (by rw [e]; rfl), e], hr, hr.length ▸ hz⟩
theorem stored_ne {i k : Int} {w v : Value} {r : List (Int × Value)} (h : i ≠ k) : stored ((i, w) :: r) k v = (i, w) :: stored r k v := by
  unfold stored
  rw [List.any_cons, decide_eq_false h, Bool.false_or]
  split
  · rw [List.map_cons, if_neg h]
  · rfl
theorem repK_set {k : Int} {v : Value} {mv : V} (hv : RepV v mv) {kvs : List (Int × Value)} {es : List (Int × V)} (h : All2 RepK kvs es) : (kvs.map (·.1)).Nodup → All2 RepK (stored kvs k v) (dset es k mv) := by
  induction h with
  | nil => exact fun _ => .cons ⟨rfl, hv⟩ .nil
  | @cons a b kvs es h r ih =>
    obtain ⟨i, w⟩ := a
    obtain ⟨j, u⟩ := b
    obtain ⟨e1, e2⟩ := h
    replace e1 : i = j := e1
    rw [← e1]
    intro nd
    rw [List.map_cons, List.nodup_cons] at nd
    show All2 RepK _ (if i = k then (i, mv) :: es else (i, u) :: dset es k mv)
    by_cases q : i = k
    · rw [if_pos q]
      unfold stored
      rw [List.any_cons, decide_eq_true q, Bool.true_or, if_pos rfl, List.map_cons, if_pos q, map_store_of_not_mem _ _ _ (q ▸ nd.1)]
      exact .cons ⟨rfl, hv⟩ r
    · rw [if_neg q, stored_ne q]
      exact .cons ⟨rfl, e2⟩ (ih nd.2)
theorem stored_len (kvs : List (Int × Value)) (k : Int) (v : Value) : (stored kvs k v).length ≤ kvs.length + 1 := by
  unfold stored
  split
  · rw [List.length_map]; exact Nat.le_succ _
  · rw [List.length_append]; exact Nat.le_refl _
theorem setattr_ok {x : Str} {j : Nat} (O : C.Ok) (hx : attrIs j x) (he : SndE C Φ c e me) (ho : SndE C Φ c o mo) (hc : isComp e = false) (a : At C c env A m H s) (hw : wpS Φ (.setAttr mo j me) m H Q) :
    wpAny C.M A (exec (.Assign [.Attribute o x pos'] e pos) env) (PSs C c env H s Q) NoE s := by
  simp only [s_assign, s_unpack, s_setAttr, s_setIdx, s_delIdx, s_append, s_expr, s_ret0, s_ret, s_ite, s_whl, s_for, s_brk, s_pass] at hw
  refine plainObj_wpAny_Assign_Attribute (he.then a hw fun v s1 y H1 r1 a1 x1 q1 => ho.then a1 q1 fun ov s2 z H2 r2 a2 x2 q2 => ?_) (by cases e <;> first | rfl | cases hc)
  unfold setAttrW at q2
  split at q2
  · rename_i p
    cases r2.ref
    split at q2
    · rename_i ci fs hp
      refine wpAny_ext (setAttr_ok O a2.S hp hx r1 q2.1 q2.2) fun _ s3 w => ?_
      refine absG fun Cg hCg => ?_
      obtain ⟨H3, S3, x3, q3⟩ := w
      refine hCg ?_; clear hCg
      exact ⟨.next, m, H3, trivial, S3, a2.N.ext x3, ((x1.trans x2).trans x3).toS, q3⟩
    · exact q2.elim
  · exact q2.elim
theorem append_ok {ap cp : Pos} (hb : bareCall o = false) (hs : isStar e = false) (hline : (ap.endLine == cp.line) = true) (ho : SndE C Φ c o mo) (he : SndE C Φ c e me) (a : At C c env A m H s) (hw : wpS Φ (.append mo me) m H Q) :
    wpAny C.M A (exec (.Expr (.Call (.Attribute o "append" ap) [e] [] cp) pos) env) (PSs C c env H s Q) NoE s := by
  simp only [s_assign, s_unpack, s_setAttr, s_setIdx, s_delIdx, s_append, s_expr, s_ret0, s_ret, s_ite, s_whl, s_for, s_brk, s_pass] at hw
  have hst : starEach [e] env = [(false, eval e env)] := by cases e <;> first | rfl | cases hs
  refine wpAny_Expr ?_ (by unfold interactive; rw [a.eo.kind]; rfl) rfl
  refine wpAny_Call_append (base_of hb) (by rw [hst]; rfl) hline (by rw [hst]; rfl) (ho.then a hw fun ov s1 z H1 r1 a1 x1 q1 => ?_)
  obtain ⟨hl, q1⟩ := q1
  cases z with
  | ref p =>
    cases r1.ref
    unfold isLst at hl
    dsimp only at hl
    split at hl
    · rename_i ys hp
      refine absG fun Cg hCg => ?_
      obtain ⟨vs, n, l, rr, _⟩ := a1.S.rep _ _ hp
      refine hCg ?_; clear hCg
      refine ⟨p, vs.toArray, rfl, ⟨_, n, l, rfl, rfl, rfl⟩, he.then a1 q1 fun v s2 y H2 r2 a2 x2 q2 => ?_⟩
      unfold appendW at q2
      dsimp only at q2
      split at q2
      · rename_i xs hp2
        refine absG fun Cg hCg => ?_
        obtain ⟨us, n2, l2, rr2, _⟩ := a2.S.rep _ _ hp2
        have W := lst_write (f := fun x => x.push v) (us := us ++ [v]) (ys := xs ++ [y]) a2.S hp2 l2 (by simp) (rr2.append (.cons r2 .nil)) (by rw [List.length_append]; have := q2.1; have : lim = 1000000 := rfl; simp; (first | lia | omega))
        refine hCg ?_; clear hCg
        exact call_meets F.slot_list_append ⟨_, l2, rfl⟩ F.entry_list_append (F.args_list_append_2 _ _) (list_append p us.toArray n2 v (by simp only [List.size_toArray, rr2.length]; exact sizeLine_lim q2.1))
          ⟨l2, ⟨.next, m, _, trivial, W.1, a2.N.ext W.2, ((x1.trans x2).trans W.2).toS, q2.2⟩⟩
      · exact q2.elim
    · exact hl.elim
  | _ => exact hl.elim
theorem setidx_ok (hc : isComp e = false) (hi : isSlice i = false) (he : SndE C Φ c e me) (ho : SndE C Φ c o mo) (hii : SndE C Φ c i mi) (a : At C c env A m H s) (hw : wpS Φ (.setIdx mo mi me) m H Q) :
    wpAny C.M A (exec (.Assign [.Subscript o i pos'] e pos) env) (PSs C c env H s Q) NoE s := by
  simp only [s_assign, s_unpack, s_setAttr, s_setIdx, s_delIdx, s_append, s_expr, s_ret0, s_ret, s_ite, s_whl, s_for, s_brk, s_pass] at hw
  refine wpAny_Assign_Subscript (he.then a hw fun v s1 y H1 r1 a1 x1 q1 => ho.then a1 q1 fun ov s2 z H2 r2 a2 x2 q2 => hii.then a2 q2 fun iv s3 w H3 r3 a3 x3 q3 => ?_) (by cases e <;> first | rfl | cases hc)
  unfold setIdxW at q3
  split at q3
  · rename_i p k
    cases r2.ref
    obtain ⟨t, rfl⟩ := r3.int
    split at q3
    · rename_i xs hp
      refine absG fun Cg hCg => ?_
      obtain ⟨h0, h1, h2, q⟩ := q3
      obtain ⟨us, n2, l2, rr2, hz⟩ := a3.S.rep _ _ hp
      have hlen : us.length = xs.length := rr2.length
      have W := lst_write (f := fun x => x.setIfInBounds k.toNat v) (us := us.set k.toNat v) (ys := xs.set k.toNat y) a3.S hp l2 (by simp) (rr2.set r1 _) (by rw [List.length_set, ← hlen]; exact hz)
      refine hCg ?_; clear hCg
      exact ki_setAt (n := n2) l2 h0 (Int.lt_trans h2 (by decide)) (by simp only [List.size_toArray]; (first | lia | omega)) ⟨.next, m, _, trivial, W.1, a3.N.ext W.2, (((x1.trans x2).trans x3).trans W.2).toS, q⟩
    · rename_i es hp
      obtain ⟨h0, q⟩ := q3
      refine absG fun Cg hCg => ?_
      obtain ⟨kvs, hd, rr, hz, hm⟩ := a3.S.rep _ _ hp
      have hlen : kvs.length = es.length := rr.length
      refine hCg ?_; clear hCg
      refine wpAny_setItem_pairs (intKind_is C.prog C.w k t) hd (fun h' hd' hs' => ?_) (by rw [hlen]; exact Nat.le_trans h0 (by decide))
      have W := a3.S.over (g := h') (tk := s3.toks + 1) (o' := .dict (dset es k y)) hp (.inr ⟨es, rfl⟩) (.inr ⟨_, rfl⟩) (fun b n => hs'.2 b n) (let ⟨o, _, _, z, _⟩ := hd'; ⟨o, z⟩) ⟨_, hd', repK_set r1 rr (let ⟨_, _, _, _, _, _, _, _, z⟩ := hd; z), by
        have := stored_len kvs k v
        have hlim : lim = 1000000 := rfl
        (first | lia | omega), hm⟩
      exact ⟨.next, m, _, trivial, W.1, a3.N.ext W.2, (((x1.trans x2).trans x3).trans W.2).toS, q⟩
    · exact q3.elim
  · exact q3.elim
theorem delidx_ok (hi : isSlice i = false) (ho : SndE C Φ c o mo) (hii : SndE C Φ c i mi) (a : At C c env A m H s) (hw : wpS Φ (.delIdx mo mi) m H Q) :
    wpAny C.M A (exec (.Delete [.Subscript o i pos'] pos) env) (PSs C c env H s Q) NoE s := by
  simp only [s_assign, s_unpack, s_setAttr, s_setIdx, s_delIdx, s_append, s_expr, s_ret0, s_ret, s_ite, s_whl, s_for, s_brk, s_pass] at hw
  refine wpAny_Delete ?_
  show wpAny C.M A (do delete (.Subscript o i pos') env; deleteEach [] env) _ _ _
  refine wpAny_bind ?_
  show wpAny C.M A (do
    let ov ← eval o env
    let iv ← holding [ov] (eval i env)
    standAt pos'
    holding [ov, iv] (delItem ov iv)
    release [ov, iv] []) _ _ _
  refine wpAny_bind (ho.then a hw fun ov s1 z H1 r1 a1 x1 q1 => wpAny_bind (wpAny_holding (hii.then a1 q1 fun iv s2 w H2 r2 a2 x2 q2 => wpAny_bind (wpAny_standAt (wpAny_bind (wpAny_holding ?_))))))
  unfold delIdxW at q2
  split at q2
  · rename_i p k
    cases r1.ref
    obtain ⟨t, rfl⟩ := r2.int
    split at q2
    · rename_i xs hp
      refine absG fun Cg hCg => ?_
      obtain ⟨h0, h1, h2, q⟩ := q2
      obtain ⟨us, n2, l2, rr2, hz⟩ := a2.S.rep _ _ hp
      have hlen : us.length = xs.length := rr2.length
      refine hCg ?_; clear hCg
      have W := lst_write (f := fun x => x.eraseIdxIfInBounds k.toNat) (us := us.eraseIdx k.toNat) (ys := xs.eraseIdx k.toNat) a2.S hp l2 (by
        have : k.toNat < us.toArray.size := by simp only [List.size_toArray]; (first | lia | omega)
        unfold Array.eraseIdxIfInBounds
        rw [dif_pos this]
        simp) (rr2.eraseIdx _) (by have := List.length_eraseIdx_le xs k.toNat; (first | lia | omega))
      have hk : seqIndex? k us.toArray.size = some k.toNat := by
        have hk0 : ¬ k < 0 := by (first | lia | omega)
        have hk1 : (decide (0 ≤ k) && decide (k < (us.toArray.size : Int))) = true := by rw [decide_eq_true h0, Bool.true_and]; simp only [List.size_toArray]; exact decide_eq_true (by (first | lia | omega))
        unfold seqIndex?
        simp only [hk0, if_false]
        rw [if_pos hk1]
      refine P.delItem_list l2 (by simp [Builtin.List.listFitsIndex]; unfold lim at h2; (first | lia | omega)) hk ?_ (by simp only [List.size_toArray, rr2.length]; exact sizeLine_lim h2)
      refine wpAny_release (wpAny_deleteEach_nil ⟨.next, m, _, trivial, W.1, a2.N.ext W.2, ((x1.trans x2).trans W.2).toS, q⟩)
    · exact q2.elim
  · exact q2.elim
theorem while_ok {b : List Stmt} {mb : List S} (ht : SndT C Φ c e me) (hb : SndSs C Φ c b mb) (a : At C c env A m H s) (hw : wpS Φ (.whl me mb) m H Q) :
    wpAny C.M A (exec (.While e b [] pos) env) (PSs C c env H s Q) NoE s := by
  simp only [s_assign, s_unpack, s_setAttr, s_setIdx, s_delIdx, s_append, s_expr, s_ret0, s_ret, s_ite, s_whl, s_for, s_brk, s_pass] at hw
  refine absG fun Cg hCg => ?_
  obtain ⟨I, n, hI, step⟩ := hw
  refine hCg ?_; clear hCg
  refine wpAny_While (codeAny_whileLoop (fun n s' => ∃ m' H', I n m' H' ∧ StH C H' s' ∧ EnvSt C c env m' H' s'.heap ∧ ExtS env H s.heap H' s'.heap) (fun n s1 hI1 => ?_) n ⟨m, H, hI, a.S, a.N, Ext.refl.toS⟩)
  refine absG fun Cg hCg => ?_
  obtain ⟨m1, H1, I1, S1, N1, x1⟩ := hI1
  refine hCg ?_; clear hCg
  refine wpAny_mono (Q := PT C H1 s1 _) (E := NoE) (ht (a.then S1 N1) (step n m1 H1 I1)) (fun r s2 z => ?_) fun _ _ f => f.elim
  refine absG fun Cg hCg => ?_
  obtain ⟨H2, S2, x2, q⟩ := z
  have a2 : At C c env A m1 H2 s2 := (a.then S1 N1).on S2 x2
  refine hCg ?_; clear hCg
  cases r with
  | true =>
    simp only [if_true] at q ⊢
    refine wpAny_mono (hb a2 q) (fun fl s3 z => ?_) fun _ _ f => f.elim
    refine absG fun Cg hCg => ?_
    obtain ⟨mfl, m3, H3, r3, S3, N3, x3, H4, l4, q3⟩ := z
    have xx := ((x1.trans x2.toS).trans x3).forget l4
    refine hCg ?_; clear hCg
    cases fl with
    | next => cases mfl <;> first | exact r3.elim | (obtain ⟨k, hk, I3⟩ := q3; exact ⟨k, hk, m3, H4, I3, S3.forget l4, N3.forget l4, xx⟩)
    | cont => cases mfl <;> first | exact r3.elim | (obtain ⟨k, hk, I3⟩ := q3; exact ⟨k, hk, m3, H4, I3, S3.forget l4, N3.forget l4, xx⟩)
    | brk => cases mfl <;> first | exact r3.elim | exact ⟨.next, m3, H4, trivial, S3.forget l4, N3.forget l4, xx, q3⟩
    | ret v => cases mfl <;> first | exact r3.elim | exact ⟨_, m3, H4, r3, S3.forget l4, N3.forget l4, xx, q3⟩
  | false =>
    simp only [Bool.false_eq_true, if_false] at q ⊢
    exact wpAny_execs_nil ⟨.next, m1, H2, trivial, S2, a2.N, x1.trans x2.toS, q⟩
end ML
namespace ML
open PySem PySem.W PySem.Calls PyProof.Rows PySem.SeqAt
variable {C : Cfg} {Φ : Orac} {c : Ctx} {H H' H'' H1 : Heap} {s s' s1 s2 : Shared} {h h' h'' : PHeap} {A : Around} {env : Env} {m m' : Loc}
structure IterOk (C : Cfg) (xs : List V) (ok : Heap → Prop) (it : Addr) (P : Nat → PHeap → Prop) : Prop where
  look : ∀ k h, P k h → ∃ o, h.get? it = some o
  same : ∀ k h h', P k h → (∀ o, h.get? it = some o → h'.get? it = some o) → P k h'
  next : ∀ k x H s A (R : Option Value → Shared → Prop), xs[k]? = some x → StH C H s → ok H → P k s.heap →
    (∀ pv s', RepV pv x → P (k + 1) s'.heap → (∀ b, b ≠ it → s'.heap.get? b = s.heap.get? b) → s'.gens = s.gens → s'.os = s.os → R (some pv) s') → wpAny C.M A (pyNext (.ref it)) R NoE s
  stop : ∀ k H s A (R : Option Value → Shared → Prop), A.handled = none → xs[k]? = none → StH C H s → ok H → P k s.heap →
    (∀ s', (∀ b o, b ≠ it → s.heap.get? b = some o → s'.heap.get? b = some o) → s'.gens = s.gens → s'.os = s.os → R none s') → wpAny C.M A (pyNext (.ref it)) R NoE s
  self : ∀ k s A (R : Value → Shared → Prop), P k s.heap → R (.ref it) s → wpAny C.M A (pyIter (.ref it)) R NoE s
theorem iter_list {p it : Addr} {xs : List V} {o : O} (ho : o.lst? = some xs) : IterOk C xs (fun H => H p = some o) it (fun k h => h.IsListIter it p k) where
  look k h x := let ⟨o, e, _⟩ := x; ⟨o, e⟩
  same k h h' x e := x.at e
  next k x H s A R hx S hp hi kk := by
    have fin : ∀ {vs : List Value}, s.heap.IsList p vs.toArray → All2 RepV vs xs → wpAny C.M A (pyNext (.ref it)) R NoE s := by
      intro vs l rr
      refine absG fun Cg hCg => ?_
      obtain ⟨pv, e1, e2⟩ := rr.get hx
      refine hCg ?_; clear hCg
      exact wpAny_pyNext_list_item hi l (by simpa using e1) fun h' hi' hs => kk pv _ e2 hi' (fun b n => hs.2 b n) rfl rfl
    have r := S.rep _ _ hp
    cases o with
    | list ys => cases ho; obtain ⟨vs, n, l, rr, _⟩ := r; exact fin l.isList rr
    | ro ys => cases ho; obtain ⟨vs, l, rr, _⟩ := r; exact fin l rr
    | _ => cases ho
  stop k H s A R hh hx S hp hi kk := by
    have fin : ∀ {vs : List Value}, s.heap.IsList p vs.toArray → All2 RepV vs xs → wpAny C.M A (pyNext (.ref it)) R NoE s := by
      intro vs l rr
      have e1 : vs[k]? = none := by
        rw [List.getElem?_eq_none_iff] at hx ⊢
        rw [rr.length]; exact hx
      exact wpAny_pyNext_list_end hh hi l (by simpa using e1) fun h' hs => kk _ (fun b o n e => hs b o n e) rfl rfl
    have r := S.rep _ _ hp
    cases o with
    | list ys => cases ho; obtain ⟨vs, n, l, rr, _⟩ := r; exact fin l.isList rr
    | ro ys => cases ho; obtain ⟨vs, l, rr, _⟩ := r; exact fin l rr
    | _ => cases ho
  self k s A R x q := wpAny_pyIter_listiter x q
theorem iter_range {it : Addr} {a st : Int} {n : Nat} {f : Nat → Int} (hf : ∀ k, f k = a + k * st) : IterOk C ((List.range n).map fun k => V.int (f k)) (fun _ => True) it (fun k h => k ≤ n ∧ IsRangeIter h it (a + k * st) ((n : Int) - k) st) where
  look k h x := ⟨_, x.2⟩
  same k h h' x e := ⟨x.1, e _ x.2⟩
  next k x H s A R hx S _ hi kk := by
    have hk : k < n := by
      cases q : decide (k < n) with
      | true => exact of_decide_eq_true q
      | false => rw [List.getElem?_eq_none (by have := of_decide_eq_false q; simp; (first | lia | omega))] at hx; cases hx
    have hx' : x = .int (f k) := by
      rw [List.getElem?_map, List.getElem?_range hk] at hx
      exact (Option.some.inj hx).symm
    refine wpAny_pyNext_range_item hi.2 (by (first | lia | omega)) fun h' hi' hs => kk _ _ (by rw [hx', hf]; rfl) ⟨hk, ?_⟩ (fun b n => hs.2 b n) rfl rfl
    have e1 : a + k * st + st = a + ((k + 1 : Nat) : Int) * st := by rw [Int.natCast_add, Int.add_mul]; simp; (first | lia | omega)
    have e2 : (n : Int) - k - 1 = (n : Int) - ((k + 1 : Nat) : Int) := by (first | lia | omega)
    rw [e1, e2] at hi'
    exact hi'
  stop k H s A R hh hx S _ hi kk := by
    have hk : n ≤ k := by
      rw [List.getElem?_eq_none_iff] at hx
      simpa using hx
    exact wpAny_pyNext_range_end hh hi.2 (by (first | lia | omega)) fun h' hs => kk _ (fun b o n e => hs b o n e) rfl rfl
  self k s A R x q := wpAny_pyIter_rangeiter x.2 q
structure Apart (C : Cfg) (H : Heap) (h : PHeap) (b : Addr) : Prop where
  at_ : H b = none
  hid : ¬ Hid H h b
  base : C.h₀.get? b = none
theorem Apart.fp {b : Addr} (x : Apart C H h b) : ¬ Fp H h b := not_fp x.at_ x.hid
theorem EnvSt.stay (x : EnvSt C c env m H h) (hk : ∀ b o, (b = env.locals ∨ ∃ y, env.cells.lookup y = some b) → h.get? b = some o → h'.get? b = some o) (hh : ∀ b, Hid H h' b → Hid H h b) : EnvSt C c env m H h' := by
  refine absG fun Cg hCg => ?_
  obtain ⟨mm, ⟨o, es, ep, ho, hr⟩, hm⟩ := x.ns
  refine hCg ?_; clear hCg
  refine ⟨x.len, ⟨mm, ⟨o, es, ep, hk _ _ (.inl rfl) ho, hr⟩, hm⟩, fun z i e k => ?_, ⟨x.apL.1, fun z => x.apL.2.1 (hh _ z), x.apL.2.2⟩, fun z a e => ?_, x.injC⟩
  · refine absG fun Cg hCg => ?_
    obtain ⟨a, ov, e1, ⟨oc, e2, e3⟩, e4⟩ := x.cells z i e k
    refine hCg ?_; clear hCg
    exact ⟨a, ov, e1, ⟨oc, hk _ _ (.inr ⟨_, e1⟩) e2, e3⟩, e4⟩
  · refine absG fun Cg hCg => ?_
    obtain ⟨n1, n2, n3, n4, o', lk⟩ := x.apC _ _ e
    refine hCg ?_; clear hCg
    exact ⟨n1, fun z => n2 (hh _ z), n3, n4, o', hk _ _ (.inr ⟨_, e⟩) lk⟩
theorem touch {it : Addr} (a : At C c env A m H s) (ap : Apart C H s.heap it) (hl : it ≠ env.locals) (hc : ∀ x, env.cells.lookup x ≠ some it) (hk : ∀ b o, b ≠ it → s.heap.get? b = some o → s'.heap.get? b = some o) (hg : s'.gens = s.gens) (hos : s'.os = s.os) :
    At C c env A m H s' ∧ ∀ b, Hid H s'.heap b → Hid H s.heap b := by
  have hh : ∀ b, Hid H s'.heap b → Hid H s.heap b := fun b z => z.same (fun d c fs e o lk => hk _ _ (fun q => by rw [q, ap.at_] at e; cases e) lk) fun d o e => (a_rep a.S e)
  refine ⟨⟨a.eo, a.ao, a.S.quiet (fun b => b = it) (fun b o e n => hk b o n e) (fun b e => by subst e; exact ⟨ap.at_, ap.base, ap.hid⟩) hg hos, a.N.stay (fun b o w e => hk b o (fun q => ?_) e) hh⟩, hh⟩
  subst q
  rcases w with w | ⟨y, w⟩
  · exact hl w
  · exact hc y w
where a_rep {C : Cfg} {H : Heap} {s : Shared} {a : Addr} {o : O} (S : StH C H s) (e : H a = some o) : ∃ ob, s.heap.get? a = some ob := (S.rep _ _ e).look
theorem ExtS.touch {it : Addr} (x : ExtS env H h H' h') (hz : h.get? it = none) (hk : ∀ b o, b ≠ it → h'.get? b = some o → h''.get? b = some o) (hh : ∀ b, Hid H' h'' b → Hid H' h' b) : ExtS env H h H' h'' where
  keep b o e n l k := hk b o (fun q => by rw [q, hz] at e; cases e) (x.keep b o e n l k)
  alive b e := by
    by_cases q : b = it
    · rw [q]; exact hz
    · refine x.alive b ?_
      cases z : h'.get? b with
      | none => rfl
      | some o => rw [hk b o q z] at e; cases e
  fresh b f := x.fresh b (by
    rcases f with f | f | f
    · exact .inl f
    · exact .inr (.inl f)
    · exact .inr (.inr (hh _ f)))
  dom b o e := x.dom b o e
theorem ExtS.apart (x : ExtS env H h H' h') {b : Addr} {o : Obj} (e : h.get? b = some o) (a : Apart C H h b) (hl : b ≠ env.locals) (hc : ∀ x, env.cells.lookup x ≠ some b) : h'.get? b = some o ∧ Apart C H' h' b := by
  refine ⟨x.keep _ _ e a.fp hl hc, ?_, fun y => ?_, a.base⟩
  · cases q : H' b with
    | none => rfl
    | some o' =>
      rcases x.dom _ _ q with ⟨z, q⟩ | q
      · rw [a.at_] at q; cases q
      · rw [e] at q; cases q
  · rcases x.fresh _ (.inr (.inr y)) with f | q
    · exact a.fp f
    · rw [e] at q; cases q
noncomputable def SndSrc (C : Cfg) (Φ : Orac) (c : Ctx) (iter : Expr) (src : Src) : Prop :=
  ∀ {env : Env} {A : Around} {m : Loc} {H : Heap} {s : Shared} {Q : List V → (Heap → Prop) → Heap → Prop} {R : Value → Shared → Prop}, At C c env A m H s → wpSrc Φ src m H Q →
    (∀ it s2 xs ok H2 P, IterOk C xs ok it P → P 0 s2.heap → s.heap.get? it = none → Apart C H2 s2.heap it → At C c env A m H2 s2 → Ext H s.heap H2 s2.heap → Q xs ok H2 → R (.ref it) s2) →
    wpAny C.M A (eval iter env) (fun x s1 => wpAny C.M A (pyIter x) R NoE s1) NoE s
theorem for_ok {x : Str} {px pos : Pos} {iter : Expr} {src : Src} {b : List Stmt} {mb : List S} {i : Nat} {Q : PS} (hn : trName c x = some i) (hi : SndSrc C Φ c iter src) (hb : SndSs C Φ c b mb) (hs : ∀ (env : Env) x, foldedSetIterable iter env x = pure x)
    (a : At C c env A m H s) (hw : wpS Φ (.for1 [i] src mb) m H Q) :
    wpAny C.M A (exec (.For (.Name x px) iter b [] pos) env) (PSs C c env H s Q) NoE s := by
  simp only [s_assign, s_unpack, s_setAttr, s_setIdx, s_delIdx, s_append, s_expr, s_ret0, s_ret, s_ite, s_whl, s_for, s_brk, s_pass] at hw
  refine wpAny_For (hi a hw fun it s2 xs ok H2 P I hP hz ap a2 x2 q2 => ?_) (hs env)
  refine codeAny_mono (R := fun r s' => ∃ f, r = .ok f ∧ PSs C c env H s Q f s') ?_ (fun r s' z => by obtain ⟨f, rfl, z⟩ := z; exact z)
  have hl : it ≠ env.locals := fun q => by
    refine absG fun Cg hCg => ?_
    obtain ⟨mm, ⟨o, es, ep, ho, hr⟩, hm⟩ := a.N.ns
    refine hCg ?_; clear hCg
    rw [← q, hz] at ho; cases ho
  have hc : ∀ x, env.cells.lookup x ≠ some it := fun x q => by
    refine absG fun Cg hCg => ?_
    obtain ⟨_, _, _, _, o, lk⟩ := a.N.apC _ _ q
    refine hCg ?_; clear hCg
    rw [hz] at lk; cases lk
  refine codeAny_forLoop (fun n s' => ∃ k m' H', n = xs.length - k ∧ forW (wpSs Φ mb) [i] ok (xs.drop k) m' H' Q ∧ At C c env A m' H' s' ∧ ExtS env H s.heap H' s'.heap ∧ P k s'.heap ∧ Apart C H' s'.heap it) (fun n s1 hI => ?_) _ ⟨0, m, H2, rfl, q2, a2, x2.toS, hP, ap⟩
  refine absG fun Cg hCg => ?_
  obtain ⟨k, m1, H1, rfl, fw, a1, x1, P1, ap1⟩ := hI
  refine hCg ?_; clear hCg
  cases hx : xs[k]? with
  | none =>
    have hlen : xs.length ≤ k := List.getElem?_eq_none_iff.mp hx
    rw [List.drop_eq_nil_of_le hlen] at fw
    refine wpAny_noE (I.stop k H1 s1 A _ a.ao.hd hx a1.S fw.1 P1 fun s2 hk hg hos => ?_)
    obtain ⟨t1, t2⟩ := touch a1 ap1 hl hc hk hg hos
    exact wpAny_execs_nil ⟨_, rfl, .next, m1, H1, trivial, t1.S, t1.N, x1.touch hz hk t2, fw.2⟩
  | some y =>
    have hlt : k < xs.length := by
      by_cases q : k < xs.length
      · exact q
      · rw [List.getElem?_eq_none (by (first | lia | omega))] at hx; cases hx
    have hd : xs.drop k = y :: xs.drop (k + 1) := by
      rw [List.drop_eq_getElem_cons hlt]
      rw [List.getElem?_eq_getElem hlt] at hx
      rw [Option.some.inj hx]
    rw [hd] at fw
    refine wpAny_noE (I.next k y H1 s1 A _ hx a1.S fw.1 P1 fun pv s2 r hP2 hk hg hos => ?_)
    obtain ⟨t1, t2⟩ := touch a1 ap1 hl hc (fun b o n e => (hk b n).trans e) hg hos
    have ap2 : Apart C H1 s2.heap it := ⟨ap1.at_, fun z => ap1.hid (t2 _ z), ap1.base⟩
    have x2 := x1.touch hz (fun b o n e => (hk b n).trans e) t2
    obtain ⟨oi, lki⟩ := I.look _ _ hP2
    refine wpAny_noE (wpAny_assign_Name (store_ok hn t1 r fun s3 S3 N3 x3 => ?_))
    obtain ⟨lk3, ap3⟩ := x3.apart lki ap2 hl hc
    refine wpAny_mono (hb (t1.then S3 N3) fw.2) (fun fl s4 z => ?_) fun _ _ f => f.elim
    refine absG fun Cg hCg => ?_
    obtain ⟨mfl, m4, H4, r4, S4, N4, x4, H5, l5, q4⟩ := z
    obtain ⟨lk4, ap4⟩ := x4.apart lk3 ap3 hl hc
    have xx := ((x2.trans x3).trans x4).forget l5
    refine hCg ?_; clear hCg
    have ap5 : Apart C H5 s4.heap it := ⟨(by
      cases q : H5 it with
      | none => rfl
      | some o => have := l5 _ _ q; rw [ap4.at_] at this; cases this), fun ⟨a, c, fs, o, e1, e2, e3⟩ => ap4.hid ⟨a, c, fs, o, l5 _ _ e1, e2, e3⟩, ap4.base⟩
    have go : forW (wpSs Φ mb) [i] ok (xs.drop (k + 1)) m4 H5 Q → ∃ n, n < xs.length - k ∧ ∃ k m' H', n = xs.length - k ∧ forW (wpSs Φ mb) [i] ok (xs.drop k) m' H' Q ∧ At C c env A m' H' s4 ∧ ExtS env H s.heap H' s4.heap ∧ P k s4.heap ∧ Apart C H' s4.heap it := fun q =>
      ⟨xs.length - (k + 1), by (first | lia | omega), k + 1, m4, H5, rfl, q, a.then (S4.forget l5) (N4.forget l5), xx, I.same _ _ _ hP2 (fun o e => by rw [lki] at e; cases e; exact lk4), ap5⟩
    cases fl with
    | next => cases mfl <;> first | exact r4.elim | exact go q4
    | cont => cases mfl <;> first | exact r4.elim | exact go q4
    | brk => cases mfl <;> first | exact r4.elim | exact ⟨_, rfl, .next, m4, H5, trivial, S4.forget l5, N4.forget l5, xx, q4⟩
    | ret v => cases mfl <;> first | exact r4.elim | exact ⟨_, rfl, _, m4, H5, r4, S4.forget l5, N4.forget l5, xx, q4⟩
end ML
namespace ML
open PySem PySem.W PySem.Calls PyProof.Rows PySem.SeqAt
variable {C : Cfg} {Φ : Orac} {c : Ctx} {H H' H'' H1 : Heap} {s s' s1 s2 : Shared} {h h' h'' : PHeap} {A : Around} {env : Env} {m m' : Loc}
theorem src_of {e : Expr} {me : E} (he : SndE C Φ c e me) : SndSrc C Φ c e (.of me) := fun {env A m H s Q R} a hw k => by
  simp only [w_rng1, w_rng2, w_rng3, w_rngS, w_of] at hw
  refine he.then a hw fun v s1 x H1 r a1 x1 q => ?_
  unfold ofW at q
  split at q
  · rename_i p
    split at q
    · rename_i o hp
      obtain ⟨xs, e1, q⟩ := q
      cases r.ref
      have fin : o.lst? = some xs → ∀ {vs : List Value}, s1.heap.IsList p vs.toArray → wpAny C.M A (pyIter (.ref p)) R NoE s1 := by
        intro e1 vs l
        refine wpAny_pyIter_list l ?_
        obtain ⟨S2, x2⟩ := a1.S.push { cls := .type "list_iterator", data := .fields #[.ref p, .int 0 0] } s1.toks
        have hz := look_size s1.heap
        refine k s1.heap.objs.size _ xs _ H1 _ (iter_list (it := s1.heap.objs.size) (p := p) e1) ?_ (x1.alive _ hz) ⟨a1.S.none_of hz, fun z => ?_, a1.S.base_none hz⟩ (a1.on S2 x2) (x1.trans x2) q
        · exact ⟨_, Heap.get?_push_size _ rfl, rfl, rfl⟩
        · have z := Hid.same (h := s1.heap) (fun _ _ _ _ o e => push_keeps _ _ _ _ e) (fun a o e => (a1.S.rep _ _ e).look) z
          obtain ⟨ob, lk⟩ := z.look a1.S
          rw [hz] at lk; cases lk
      have rr := a1.S.rep _ _ hp
      cases o with
      | list ys => obtain ⟨vs, n, l, _⟩ := rr; exact fin e1 l.isList
      | ro ys => obtain ⟨vs, l, _⟩ := rr; exact fin e1 l
      | _ => cases e1
    · exact q.elim
  · exact q.elim
theorem Apart.new (S : StH C H s) {o : Obj} : Apart C H (s.heap.push o) s.heap.objs.size := by
  have hz := look_size s.heap
  refine ⟨S.none_of hz, fun z => ?_, S.base_none hz⟩
  have z := Hid.same (h := s.heap) (fun _ _ _ _ o e => push_keeps _ _ _ _ e) (fun a o e => (S.rep _ _ e).look) z
  obtain ⟨ob, lk⟩ := z.look S
  rw [hz] at lk; cases lk
theorem rng_iter {a b st : Int} {t u v : Tok} {ob : Addr} {n : Nat} {f : Nat → Int} {R : Value → Shared → Prop} (S : StH C H s) (hr : IsRange s.heap ob a b st t u v) (hsm : Builtin.Range.small a b st = true) (hsz : Builtin.Range.rangeSize a b st = n) (hf : ∀ k, f k = a + k * st)
    (k : ∀ it s2 P, IterOk C ((List.range n).map fun k => V.int (f k)) (fun _ => True) it P → P 0 s2.heap → s.heap.get? it = none → Apart C H s2.heap it → StH C H s2 → Ext H s.heap H s2.heap → R (.ref it) s2) : wpAny C.M A (pyIter (.ref ob)) R NoE s := by
  refine wpAny_pyIter_range hr hsm ?_
  obtain ⟨S2, x2⟩ := S.push { cls := .type "range_iterator", data := .fields #[rawInt a, rawInt (Builtin.Range.rangeSize a b st), rawInt st] } s.toks
  refine k s.heap.objs.size _ _ (iter_range (a := a) (st := st) (n := n) (f := f) hf) ⟨Nat.zero_le _, ?_⟩ (look_size _) (Apart.new S) S2 x2
  have e1 : a + ((0 : Nat) : Int) * st = a := by simp
  have e2 : (n : Int) - ((0 : Nat) : Int) = Builtin.Range.rangeSize a b st := by rw [hsz]; simp
  rw [e1, e2]
  exact Heap.get?_push_size _ rfl
theorem callT_ok {T : Str} {N : String} {p pos : Pos} {es : List Expr} {mes : List E} {Q : List V → Heap → Prop} {R : Value → Shared → Prop} (O : C.Ok) (hT : T ∈ bltNames) (hv : bootBuiltins T = some (.type N)) (hx : c.isGlob T = true) (hs : es.any isStar = false) (h : SndEs C Φ c es mes) (a : At C c env A m H s) (hw : wpEs Φ mes m H Q)
    (k : ∀ vs s1 xs H1, All2 RepV vs xs → At C c env A m H1 s1 → Ext H s.heap H1 s1.heap → Q xs H1 → wpAny C.M A (call (.type N) vs []) R NoE s1) : wpAny C.M A (eval (.Call (.Name T p) es [] pos) env) R NoE s := by
  have hne : T ≠ "__name__" := fun q => by subst q; exact absurd hT (by decide)
  have hnd : (T == ("__debug__" : Str)) = false := beq_eq_false_iff_ne.mpr fun q => by subst q; exact absurd hT (by decide)
  refine wpAny_Call_NameR (blt_ok O a hx hnd (O.blts _ hT) hv hne ?_)
  refine PySem.callWith_type (any_star hs) (wpAny_ext (args_ok hs h a hw) fun x s1 z => ?_)
  obtain ⟨hkw, xs, H1, _, r, S1, x1, q⟩ := z
  rw [hkw]
  exact k x.pos s1 xs H1 r (a.on S1 x1) x1 q
theorem All2.one {x : V} {vs : List Value} (h : All2 RepV vs [x]) : ∃ v, vs = [v] ∧ RepV v x := by
  cases h with | cons a r => cases r; exact ⟨_, rfl, a⟩
theorem All2.two {x y : V} {vs : List Value} (h : All2 RepV vs [x, y]) : ∃ v w, vs = [v, w] ∧ RepV v x ∧ RepV w y := by
  cases h with | cons a r => obtain ⟨w, rfl, b⟩ := r.one; exact ⟨_, _, rfl, a, b⟩
theorem All2.three {x y z : V} {vs : List Value} (h : All2 RepV vs [x, y, z]) : ∃ v w u, vs = [v, w, u] ∧ RepV v x ∧ RepV w y ∧ RepV u z := by
  cases h with | cons a r => obtain ⟨w, u, rfl, b⟩ := r.two; exact ⟨_, _, _, rfl, a, b⟩
noncomputable def on1 (f : V → Heap → Prop) (vs : List V) (H : Heap) : Prop := match vs with | [x] => f x H | _ => False
noncomputable def on2 (f : V → V → Heap → Prop) (vs : List V) (H : Heap) : Prop := match vs with | [x, y] => f x y H | _ => False
theorem on1.get {f : V → Heap → Prop} {vs : List Value} {xs : List V} (h : on1 f xs H) (r : All2 RepV vs xs) : ∃ v x, vs = [v] ∧ xs = [x] ∧ RepV v x ∧ f x H := by
  unfold on1 at h
  split at h
  · obtain ⟨v, rfl, r1⟩ := r.one; exact ⟨v, _, rfl, rfl, r1, h⟩
  · exact h.elim
theorem on2.get {f : V → V → Heap → Prop} {vs : List Value} {xs : List V} (h : on2 f xs H) (r : All2 RepV vs xs) : ∃ v w x y, vs = [v, w] ∧ xs = [x, y] ∧ RepV v x ∧ RepV w y ∧ f x y H := by
  unfold on2 at h
  split at h
  · obtain ⟨v, w, rfl, r1, r2⟩ := r.two; exact ⟨v, w, _, _, rfl, rfl, r1, r2, h⟩
  · exact h.elim
theorem src_rng1 {e : Expr} {me : E} {p pos : Pos} (O : C.Ok) (hx : c.isGlob "range" = true) (hs : isStar e = false) (he : SndE C Φ c e me) : SndSrc C Φ c (.Call (.Name "range" p) [e] [] pos) (.rng1 me) := fun {env A m H s Q R} a hw k => by
  simp only [w_rng1, w_rng2, w_rng3, w_rngS, w_of] at hw
  have hw' : wpEs Φ [me] m H (on1 fun x H => rng1W x fun xs => Q xs (fun _ => True) H) := hw
  refine callT_ok O (by decide) rfl hx (by simp [hs]) (items_cons hs he items_nil) a hw' fun vs s1 xs H1 r a1 x1 q => ?_
  have g := q.get r
  clear q r
  obtain ⟨v, x, rfl, rfl, r, q⟩ := g
  unfold rng1W at q
  split at q
  · rename_i n
    obtain ⟨t, rfl⟩ := r.int
    obtain ⟨hm, q⟩ := q
    refine call_range_1 ?_
    obtain ⟨S2, x2⟩ := a1.S.push { cls := .type "range", data := .fields #[.int 0 s1.toks, .int n t, .int 1 (s1.toks + 1)] } (s1.toks + 1 + 1)
    refine rng_iter (n := n.toNat) (f := fun k => 0 + (k : Int)) S2 (IsRange.new _ _ _ _ _ _ _) (small_one (by decide) (by decide) hm.1 hm.2) (by rw [rangeSize_one]; split <;> (first | lia | omega)) (fun k => by simp) fun it s2 P I hP hz ap S3 x3 => ?_
    refine k it s2 _ _ H1 P I hP (x1.alive _ (x2.alive _ hz)) ap (a1.on S3 (x2.trans x3)) (x1.trans (x2.trans x3)) ?_
    unfold rngList at q
    rw [Int.sub_zero] at q
    exact q
  · exact q.elim
theorem isOneE_ok {e : Expr} (h : isOneE e = true) : ∃ n p, e = .Constant (.int 1) n p := by
  unfold isOneE at h
  by_cases q : e.ctorIdx = 19
  · revert h
    refine Expr.Constant.elim e q fun k n p h => ?_
    replace h : isOneC k = true := h
    cases k with
    | int i => cases eq_of_beq (show (i == 1) = true from h); exact ⟨n, p, rfl⟩
    | _ => cases h
  · rw [dif_neg q] at h; cases h
theorem isOne_ok {e : Expr} (h : isOne e = true) : ∃ n p q, e = .UnaryOp .USub (.Constant (.int 1) n p) q := by
  unfold isOne at h
  by_cases q : e.ctorIdx = 3
  · revert h
    refine Expr.UnaryOp.elim e q fun op x p h => ?_
    replace h : (isSub op && isOneE x) = true := h
    obtain ⟨h1, h2⟩ := Bool.and_eq_true_iff.mp h
    obtain ⟨n, p', rfl⟩ := isOneE_ok h2
    cases op with
    | USub => exact ⟨n, p', p, rfl⟩
    | _ => cases h1
  · rw [dif_neg q] at h; cases h
theorem src_rng3 {e1 e2 e3 : Expr} {me1 me2 : E} {p pos : Pos} (O : C.Ok) (hx : c.isGlob "range" = true) (hs1 : isStar e1 = false) (hs2 : isStar e2 = false) (h3 : isOne e3 = true) (he1 : SndE C Φ c e1 me1) (he2 : SndE C Φ c e2 me2) :
    SndSrc C Φ c (.Call (.Name "range" p) [e1, e2, e3] [] pos) (.rng3 me1 me2 true) := fun {env A m H s Q R} a hw k => by
  simp only [w_rng1, w_rng2, w_rng3, w_rngS, w_of] at hw
  have hs3 : isStar e3 = false := by obtain ⟨_, _, _, rfl⟩ := isOne_ok h3; rfl
  have he3 : SndE C Φ c e3 (.neg (.lit (.int 1))) := by
    obtain ⟨nn, pk, px, rfl⟩ := isOne_ok h3
    · intro env A m H s Q a hw
      refine usub_ok (fun {env A m H s Q} a hw => ?_) a hw
      simp only [w_var, w_lit, w_bop, w_neg, w_cmp, w_cmp2, w_and, w_or, w_not, w_call, w_meth, w_new, w_prim, w_attr, w_idx, w_slice, w_list, w_tup, w_comp] at hw
      exact wpAny_Constant_int (PE.int a.S hw _)
  have hw' : wpEs Φ [me1, me2, .neg (.lit (.int 1))] m H (fun vs H => match vs with | [x, y, .int (.negSucc 0)] => rng2W true x y fun xs => Q xs (fun _ => True) H | _ => False) := by
    exact hw
  refine callT_ok O (by decide) rfl hx (by simp [hs1, hs2, hs3]) (items_cons hs1 he1 (items_cons hs2 he2 (items_cons hs3 he3 items_nil))) a hw' fun vs s1 xs H1 r a1 x1 q => ?_
  split at q
  · rename_i x y
    obtain ⟨v, w, z, rfl, r1, r2, r3⟩ := r.three
    unfold rng2W at q
    split at q
    · rename_i lo n
      obtain ⟨t, rfl⟩ := r1.int
      obtain ⟨u, rfl⟩ := r2.int
      obtain ⟨u', rfl⟩ := r3.int
      obtain ⟨hm1, hm, q⟩ := q
      refine call_range_3 (by decide) ?_ (.inl (PyProof.noPylong_small (by decide)))
      obtain ⟨S2, x2⟩ := a1.S.push { cls := .type "range", data := .fields #[.int lo t, .int n u, .int (-1) u'] } s1.toks
      refine rng_iter (n := (lo - n).toNat) (f := fun k => lo - (k : Int)) S2 (IsRange.new _ _ _ _ _ _ _) (small_down hm1.1 hm1.2 hm.1 hm.2) (rangeSize_downNat _ _) (fun k => by (first | lia | omega)) fun it s2 P I hP hz ap S3 x3 => ?_
      exact k it s2 _ _ H1 P I hP (x1.alive _ (x2.alive _ hz)) ap (a1.on S3 (x2.trans x3)) (x1.trans (x2.trans x3)) q
    · exact q.elim
  · exact q.elim
end ML
namespace ML
open PySem PySem.W PySem.Calls PyProof.Rows PySem.SeqAt
variable {C : Cfg} {Φ : Orac} {c : Ctx} {H H' H'' H1 : Heap} {s s' s1 s2 : Shared} {h h' h'' : PHeap} {A : Around} {env : Env} {m m' : Loc}
noncomputable def notSet (e : Expr) : Bool := !isSetE e
theorem marks_no {op : CmpOp} {e : Expr} (h : notSet e = true) : behindInMarks op e = false := by
  cases e <;> first | rfl | cases h
section
variable {e e1 e2 e3 : Expr} {m1 m2 m3 : E} {pos : Pos} {op op' : CmpOp}
theorem cmp_expr {Q : PV} (h1 : SndE C Φ c e1 m1) (h2 : SndE C Φ c e2 m2) (hn : notSet e2 = true) (a : At C c env A m H s) (hw : wpE Φ (.cmp (trCmp op) m1 m2) m H Q) :
    wpAny C.M A (eval (.Compare e1 [op] [e2] pos) env) (PE C H s Q) NoE s := by
  simp only [w_var, w_lit, w_bop, w_neg, w_cmp, w_cmp2, w_and, w_or, w_not, w_call, w_meth, w_new, w_prim, w_attr, w_idx, w_slice, w_list, w_tup, w_comp] at hw
  refine wpAny_Compare1 (h1.then a hw fun v s1 x H1 r1 a1 x1 q1 => h2.then a1 q1 fun v' s2 y H2 r2 a2 x2 q2 => ?_) (marks_no hn)
  refine wpAny_ext (cmp_ok a2.S r1 r2 a.ao.room q2) fun v s3 z => ?_
  obtain ⟨r, rfl, S3, x3, q⟩ := z
  exact ⟨.bool r, H2, rfl, S3, (x1.trans x2).trans x3, q⟩
theorem cmp_test {Q : Bool → Heap → Prop} {whole : Sem Value} (h1 : SndE C Φ c e1 m1) (h2 : SndE C Φ c e2 m2) (hn : notSet e2 = true) (a : At C c env A m H s) (hw : wpT Φ (.cmp (trCmp op) m1 m2) m H Q) :
    wpAny C.M A (isTrue (.Compare e1 [op] [e2] pos) env whole) (PT C H s Q) NoE s := by
  simp only [t_not, t_and, t_or, t_cmp, t_cmp2] at hw
  refine wpAny_isTrue_Compare1 (h1.then a hw fun v s1 x H1 r1 a1 x1 q1 => h2.then a1 q1 fun v' s2 y H2 r2 a2 x2 q2 => ?_) (marks_no hn)
  refine wpAny_ext (cmp_ok a2.S r1 r2 a.ao.room q2) fun v s3 z => ?_
  obtain ⟨r, rfl, S3, x3, q⟩ := z
  exact wpAny_truthy_bool ⟨H2, S3, (x1.trans x2).trans x3, q⟩
theorem bool_expr {f : Expr → Option E} (hf : ∀ e me, f e = some me → SndE C Φ c e me) {bop : PySem.BoolOp} : ∀ {es : List Expr} {me : E}, trBool f bop es = some me → SndE C Φ c (.BoolOp bop es pos) me := by
  intro es
  induction es with
  | nil => intro me h; cases h
  | cons e es ih =>
    intro me h
    cases es with
    | nil => intro env A m H s Q a hw; exact BoolOp_one (hf _ _ h a hw)
    | cons e' es =>
      intro env A m H s Q a hw
      cases bop with
      | And =>
        simp only [trBool, Option.bind_eq_bind, Option.bind_eq_some_iff, Option.some.injEq] at h
        obtain ⟨x, e1, y, e2, rfl⟩ := h
        simp only [w_var, w_lit, w_bop, w_neg, w_cmp, w_cmp2, w_and, w_or, w_not, w_call, w_meth, w_new, w_prim, w_attr, w_idx, w_slice, w_list, w_tup, w_comp] at hw
        refine BoolOp_and (SndE.then (hf _ _ e1) a hw fun v s1 x H1 r1 a1 x1 q1 => wpAny_ext (truthy_ok a1.S r1 q1) fun r s2 z => ?_)
        obtain ⟨rfl, z⟩ := z
        cases r with
        | true => exact wpAny_ext (ih e2 a1 z) fun _ _ z => PE.ext x1 z
        | false => exact ⟨x, H1, r1, a1.S, x1, z⟩
      | Or =>
        simp only [trBool, Option.bind_eq_bind, Option.bind_eq_some_iff, Option.some.injEq] at h
        obtain ⟨x, e1, y, e2, rfl⟩ := h
        simp only [w_var, w_lit, w_bop, w_neg, w_cmp, w_cmp2, w_and, w_or, w_not, w_call, w_meth, w_new, w_prim, w_attr, w_idx, w_slice, w_list, w_tup, w_comp] at hw
        refine BoolOp_or (SndE.then (hf _ _ e1) a hw fun v s1 x H1 r1 a1 x1 q1 => wpAny_ext (truthy_ok a1.S r1 q1) fun r s2 z => ?_)
        obtain ⟨rfl, z⟩ := z
        cases r with
        | true => exact ⟨x, H1, r1, a1.S, x1, z⟩
        | false => exact wpAny_ext (ih e2 a1 z) fun _ _ z => PE.ext x1 z
theorem bool_test {f : Expr → Option E} (hf : ∀ e me, f e = some me → SndT C Φ c e me) {bop : PySem.BoolOp} {whole : Sem Value} : ∀ {es : List Expr} {me : E}, trBool f bop es = some me →
    ∀ {env : Env} {A : Around} {m : Loc} {H : Heap} {s : Shared} {Q : Bool → Heap → Prop}, At C c env A m H s → wpT Φ me m H Q → wpAny C.M A (isTrue (.BoolOp bop es pos) env whole) (PT C H s Q) NoE s := by
  intro es
  induction es with
  | nil => intro me h; cases h
  | cons e es ih =>
    intro me h env A m H s Q a hw
    cases es with
    | nil =>
      cases bop with
      | And =>
        refine isTrue_and (wpAny_ext (hf _ _ h a hw) fun r s1 z => ?_)
        cases r with
        | true => exact isTrue_and_nil z
        | false => exact z
      | Or =>
        refine isTrue_or (wpAny_ext (hf _ _ h a hw) fun r s1 z => ?_)
        cases r with
        | true => exact z
        | false => exact isTrue_or_nil z
    | cons e' es =>
      cases bop with
      | And =>
        simp only [trBool, Option.bind_eq_bind, Option.bind_eq_some_iff, Option.some.injEq] at h
        obtain ⟨x, e1, y, e2, rfl⟩ := h
        simp only [t_not, t_and, t_or, t_cmp, t_cmp2] at hw
        refine isTrue_and (SndT.then (hf _ _ e1) a hw fun r s1 H1 a1 x1 q1 => ?_)
        cases r with
        | true => exact wpAny_ext (ih e2 a1 q1) fun _ _ z => PT.ext x1 z
        | false => exact ⟨H1, a1.S, x1, q1⟩
      | Or =>
        simp only [trBool, Option.bind_eq_bind, Option.bind_eq_some_iff, Option.some.injEq] at h
        obtain ⟨x, e1, y, e2, rfl⟩ := h
        simp only [t_not, t_and, t_or, t_cmp, t_cmp2] at hw
        refine isTrue_or (SndT.then (hf _ _ e1) a hw fun r s1 H1 a1 x1 q1 => ?_)
        cases r with
        | true => exact ⟨H1, a1.S, x1, q1⟩
        | false => exact wpAny_ext (ih e2 a1 q1) fun _ _ z => PT.ext x1 z
end
end ML
namespace ML
open PySem PySem.W PySem.Calls PyProof.Rows PySem.SeqAt
variable {C : Cfg} {Φ : Orac} {c : Ctx} {H H' H'' H1 : Heap} {s s' s1 s2 : Shared} {h h' h'' : PHeap} {A : Around} {env : Env} {m m' : Loc}
theorem callB_ok {T : Str} {N : String} {p pos : Pos} {es : List Expr} {mes : List E} {Q : List V → Heap → Prop} {R : Value → Shared → Prop} (O : C.Ok) (hT : T ∈ bltNames) (hv : bootBuiltins T = some (.builtin N)) (hx : c.isGlob T = true) (hs : es.any isStar = false) (h : SndEs C Φ c es mes) (a : At C c env A m H s) (hw : wpEs Φ mes m H Q)
    (k : ∀ vs s1 xs H1, All2 RepV vs xs → At C c env A m H1 s1 → Ext H s.heap H1 s1.heap → Q xs H1 → wpAny C.M A (call (.builtin N) vs []) R NoE s1) : wpAny C.M A (eval (.Call (.Name T p) es [] pos) env) R NoE s := by
  have hne : T ≠ "__name__" := fun q => by subst q; exact absurd hT (by decide)
  have hnd : (T == ("__debug__" : Str)) = false := beq_eq_false_iff_ne.mpr fun q => by subst q; exact absurd hT (by decide)
  refine wpAny_Call_NameR (blt_ok O a hx hnd (O.blts _ hT) hv hne ?_)
  refine Calls.callWith_builtin (any_star hs) (wpAny_ext (args_ok hs h a hw) fun x s1 z => ?_)
  obtain ⟨hkw, xs, H1, _, r, S1, x1, q⟩ := z
  rw [hkw]
  exact k x.pos s1 xs H1 r (a.on S1 x1) x1 q
theorem len_fit {xs : List V} {vs : List Value} (r : All2 RepV vs xs) (hz : vs.length ≤ 2 * lim) : ((vs.toArray.size : Nat) : Int) < 2 ^ 63 := by
  have : lim = 1000000 := rfl
  simp only [List.size_toArray]; (first | lia | omega)
theorem len_call {vs : List Value} {xs : List V} {Q : PV} (hh : A.handled = none) (S : StH C H s) (r : All2 RepV vs xs) (hw : primW .len xs H Q) : wpAny C.M A (call (.builtin "len") vs []) (PE C H s Q) NoE s := by
  replace hw : lenW xs H Q := hw
  unfold lenW at hw
  split at hw
  · rename_i a
    obtain ⟨v, rfl, r1⟩ := r.one
    cases r1.ref
    split at hw
    · rename_i x hx
      obtain ⟨ys, e, q⟩ := hw
      have rr := S.rep _ _ hx
      cases x with
      | list zs => cases e; obtain ⟨us, n, l, r2, hz⟩ := rr; exact len_list l.isList (len_fit r2 hz) (PE.int S (by simpa [r2.length] using q) _)
      | ro zs => cases e; obtain ⟨us, l, r2, hz⟩ := rr; exact len_list l (len_fit r2 (by have : lim = 1000000 := rfl; (first | lia | omega))) (PE.int S (by simpa [r2.length] using q) _)
      | tup zs => cases e; obtain ⟨us, l, r2, hz⟩ := rr; exact PyProof.Rows.len_tuple l (len_fit r2 hz) (PE.int S (by simpa [r2.length] using q) _)
      | _ => cases e
    · exact hw.elim
  · exact hw.elim
theorem max_call {vs : List Value} {xs : List V} {Q : PV} (hh : A.handled = none) (S : StH C H s) (r : All2 RepV vs xs) (hw : primW .max xs H Q) : wpAny C.M A (call (.builtin "max") vs []) (PE C H s Q) NoE s := by
  replace hw : int2W (fun i j => .int (if i < j then j else i)) xs H Q := hw
  unfold int2W at hw
  split at hw
  · rename_i i j
    obtain ⟨v, w, rfl, r1, r2⟩ := r.two
    obtain ⟨t, rfl⟩ := r1.int
    obtain ⟨u, rfl⟩ := r2.int
    refine max_two_ints hh fun h' tk hk => ?_
    obtain ⟨S', x'⟩ := S.grow (s' := { s with heap := h', toks := tk }) hk rfl rfl
    refine ⟨.int (if i < j then j else i), H, ?_, S', x', hw⟩
    by_cases q : i < j
    · rw [if_pos q, if_pos q]; rfl
    · rw [if_neg q, if_neg q]; rfl
  · exact hw.elim
theorem isc_ok {e : Expr} {me : E} {p1 p3 pos : Pos} {Q : PV} (O : C.Ok) (ht : c.isGlob "isinstance" = true) (hy : c.isGlob "Canopy" = true) (hs : isStar e = false) (he : SndE C Φ c e me) (hq : C.tab.cls.lookup ("Canopy" : Str) = some 1)
    (a : At C c env A m H s) (hw : wpE Φ (.prim .isCanopy [me]) m H Q) : wpAny C.M A (eval (.Call (.Name "isinstance" p1) [e, .Name "Canopy" p3] [] pos) env) (PE C H s Q) NoE s := by
  simp only [w_var, w_lit, w_bop, w_neg, w_cmp, w_cmp2, w_and, w_or, w_not, w_call, w_meth, w_new, w_prim, w_attr, w_idx, w_slice, w_list, w_tup, w_comp, w_enil, w_econs] at hw
  refine wpAny_Call_NameR (blt_ok (v := .builtin "isinstance") O a ht (by decide) (O.blts _ (by decide)) rfl (by decide) ?_)
  have hst : starEach [e, .Name "Canopy" p3] env = [(false, eval e env), (false, eval (.Name "Canopy" p3) env)] := by cases e <;> first | rfl | cases hs
  have hst2 : (backTo pos (starEach [e, .Name "Canopy" p3] env)).any (·.1) = false := any_star (by rw [List.any_cons, hs]; rfl)
  refine Calls.callWith_builtin hst2 ?_
  have go : wpAny C.M A (spliced (backTo pos (starEach [e, .Name "Canopy" p3] env))) (fun vs s1 => wpAny C.M A (call (.builtin "isinstance") vs []) (PE C H s Q) NoE s1) NoE s := by
    refine wpAny_items_cons (he.then a hw fun v s1 x H1 r1 a1 x1 q1 => ?_) (by cases e <;> first | rfl | cases hs)
    refine wpAny_items_cons ?_ rfl
    obtain ⟨Ca, hca⟩ := O.hasCls _ _ hq
    refine glob_ok O a1 hy (by decide) (O.clsN _ _ _ hq hca) (wpAny_items_nil ?_)
    replace q1 : isCanW [x] H1 Q := q1
    cases x with
    | ref b =>
      unfold isCanW at q1
      cases r1.ref
      cases hb : H1 b with
      | none => simp only [hb] at q1
      | some o =>
        simp only [hb] at q1
        split at q1
        · rename_i fs ho
          cases ho
          obtain ⟨Cb, d, es, n, h1, h2, _⟩ := a1.S.rep _ _ hb
          rw [hca] at h1; cases h1
          exact isi_call (a1.S.X O) (t := .ref Ca) (fun M => (Looks.ld h2).andThen .now) (by simp [isIn]) (by simp) ⟨.bool true, H1, rfl, a1.S, x1, q1⟩
        · exact q1.elim
    | _ => exact q1.elim
  rw [hst] at go ⊢
  exact Calls.evalArgs_plain go
end ML
namespace ML
open PySem PySem.W PySem.Calls PyProof.Rows PySem.SeqAt
variable {l : List (Str × NameKind)} {C : Cfg} {Φ : Orac} {c : Ctx} {H H' H'' H1 : Heap} {s s' s1 s2 : Shared} {h h' h'' : PHeap} {A : Around} {env : Env} {m m' : Loc}
theorem StH.adopt (S : StH C H s) {b : Addr} {o : O} (ap : Apart C H s.heap b) (hn : ∀ c fs, o ≠ .inst c fs) (hr : RepO C s.heap b o) : StH C (H.upd b o) s := by
  have cases' : ∀ d x, (H.upd b o) d = some x → (d = b ∧ x = o) ∨ H d = some x := fun d x e => by
    by_cases q : d = b
    · subst q; simp [Heap.upd] at e; exact .inl ⟨rfl, e.symm⟩
    · simp [Heap.upd, q] at e; exact .inr e
  have hid' : ∀ d, Hid (H.upd b o) s.heap d → Hid H s.heap d := fun d ⟨a, c, fs, x, e1, e2, e3⟩ =>
    (cases' _ _ e1).elim (fun ⟨_, q⟩ => absurd q.symm (hn c fs)) fun e1 => ⟨a, c, fs, x, e1, e2, e3⟩
  refine ⟨S.base, fun a x e => ?_, fun d f => ?_, fun d x => ?_, ?_, S.gens, S.os⟩
  · rcases cases' _ _ e with ⟨rfl, rfl⟩ | e
    · exact hr
    · exact S.rep _ _ e
  · rcases f with ⟨x, f⟩ | ⟨x, f⟩ | f
    · rcases cases' _ _ f with ⟨rfl, _⟩ | f
      · exact ap.base
      · exact S.own _ (.inl ⟨x, f⟩)
    · rcases cases' _ _ f with ⟨rfl, _⟩ | f
      · exact ap.base
      · exact S.own _ (.inr (.inl ⟨x, f⟩))
    · exact S.own _ (.inr (.inr (hid' _ f)))
  · have y := hid' _ x
    have ne : d ≠ b := fun q => ap.hid (q ▸ y)
    simp only [Heap.upd, ne, if_false]; exact S.hid _ y
  · intro a a' c fs c' fs' x x' d e1 e2
    rcases cases' _ _ e1 with ⟨_, q⟩ | e1
    · exact absurd q.symm (hn c fs)
    · rcases cases' _ _ e2 with ⟨_, q⟩ | e2
      · exact absurd q.symm (hn c' fs')
      · exact S.inj a a' c fs c' fs' x x' d e1 e2
theorem Ext.adopt (x : Ext H h H' h') {b : Addr} {o : O} (hz : h.get? b = none) (hn : ∀ c fs, o ≠ .inst c fs) : Ext H h (H'.upd b o) h' := by
  have cases' : ∀ d x, (H'.upd b o) d = some x → (d = b ∧ x = o) ∨ H' d = some x := fun d x e => by
    by_cases q : d = b
    · subst q; simp [Heap.upd] at e; exact .inl ⟨rfl, e.symm⟩
    · simp [Heap.upd, q] at e; exact .inr e
  refine ⟨x.keep, x.alive, fun d f => ?_, fun d y e => ?_⟩
  · rcases f with ⟨y, f⟩ | ⟨y, f⟩ | ⟨a, c, fs, y, e1, e2, e3⟩
    · rcases cases' _ _ f with ⟨rfl, _⟩ | f
      · exact .inr hz
      · exact x.fresh _ (.inl ⟨y, f⟩)
    · rcases cases' _ _ f with ⟨rfl, _⟩ | f
      · exact .inr hz
      · exact x.fresh _ (.inr (.inl ⟨y, f⟩))
    · rcases cases' _ _ e1 with ⟨_, q⟩ | e1
      · exact absurd q.symm (hn c fs)
      · exact x.fresh _ (.inr (.inr ⟨a, c, fs, y, e1, e2, e3⟩))
  · rcases cases' _ _ e with ⟨rfl, _⟩ | e
    · exact .inr hz
    · exact x.dom _ _ e
theorem Ext.touch {it : Addr} (x : Ext H h H' h') (hz : h.get? it = none) (hk : ∀ b o, b ≠ it → h'.get? b = some o → h''.get? b = some o) (hh : ∀ b, Hid H' h'' b → Hid H' h' b) : Ext H h H' h'' where
  keep b o e n := hk b o (fun q => by rw [q, hz] at e; cases e) (x.keep b o e n)
  alive b e := by
    by_cases q : b = it
    · rw [q]; exact hz
    · refine x.alive b ?_
      cases z : h'.get? b with
      | none => rfl
      | some o => rw [hk b o q z] at e; cases e
  fresh b f := x.fresh b (by
    rcases f with f | f | f
    · exact .inl f
    · exact .inr (.inl f)
    · exact .inr (.inr (hh _ f)))
  dom b o e := x.dom b o e
theorem Apart.ext (x : Ext H h H' h') {b : Addr} {o : Obj} (e : h.get? b = some o) (a : Apart C H h b) : h'.get? b = some o ∧ Apart C H' h' b :=
  let ⟨p, q, r⟩ := x.apart e a.at_ a.hid
  ⟨p, q, r, a.base⟩
theorem Apart.le {b : Addr} (a : Apart C H h b) (l : H'.le H) : Apart C H' h b := ⟨(by
    cases q : H' b with
    | none => rfl
    | some o => have := l _ _ q; rw [a.at_] at this; cases this), fun ⟨d, c, fs, o, e1, e2, e3⟩ => a.hid ⟨d, c, fs, o, l _ _ e1, e2, e3⟩, a.base⟩
theorem Apart.hidMono {b : Addr} (a : Apart C H h b) (hh : ∀ b, Hid H h' b → Hid H h b) : Apart C H h' b := ⟨a.at_, fun z => a.hid (hh _ z), a.base⟩
theorem Apart.fresh (S : StH C H s) {b : Addr} (hz : s.heap.get? b = none) : Apart C H s.heap b := ⟨S.none_of hz, fun z => (by
  obtain ⟨ob, lk⟩ := z.look S
  rw [hz] at lk; cases lk), S.base_none hz⟩
theorem hid_grow (S : StH C H s) (hk : ∀ b o, s.heap.get? b = some o → h'.get? b = some o) : ∀ b, Hid H h' b → Hid H s.heap b := fun b z => z.same (fun _ _ _ _ o e => hk _ _ e) fun a o e => (S.rep _ _ e).look
theorem store_local {x : Str} {pv : Value} {v : V} {i : Nat} {R : Unit → Shared → Prop} (hk : c.kinds.lookup x = some .local) (hn : c.ν.lookup x = some i) (a : At C c env A m H s) (r : RepV pv v)
    (k : ∀ s', At C c env A (m.set i (some v)) H s' → (∀ b, b ≠ env.locals → s'.heap.get? b = s.heap.get? b) → s'.gens = s.gens → s'.os = s.os → (∀ b, Hid H s'.heap b → Hid H s.heap b) → R () s') : wpAny C.M A (storeName env x pv) R NoE s := by
  have hi : i < m.length := by rw [a.N.len]; exact a.eo.bnd _ _ hn
  have self : OptRep (some pv) ((m.set i (some v))[i]?.join) := by rw [List.getElem?_set_self hi]; exact r
  refine absG fun Cg hCg => ?_
  obtain ⟨mm, hN, hm⟩ := a.N.ns
  refine hCg ?_; clear hCg
  refine wpAny_storeName_local (a.eo.kloc _ hk) hN (fun h' hN' hs => ?_) (by rw [a.eo.kind]; rfl)
  have Q1 := quiet_one (s' := { s with heap := h', toks := s.toks + 1 }) a.S a.N.apL (fun b n => hs.2 b n) (let ⟨o, _, _, ho, _⟩ := hN'; ⟨o, ho⟩) rfl rfl
  refine k _ ⟨a.eo, a.ao, Q1.1, ⟨by rw [List.length_set]; exact a.N.len, ⟨_, hN', fun y j hy hky => ?_⟩, fun y j hy hky => ?_, ⟨a.N.apL.1, fun z => a.N.apL.2.1 ((Q1.2 _).mp z), a.N.apL.2.2⟩, fun y b e => ?_, a.N.injC⟩⟩ (fun b n => hs.2 b n) rfl rfl fun b z => (Q1.2 b).mp z
  · by_cases q : y = x
    · subst q; rw [hn] at hy; cases hy; rw [if_pos rfl]; exact self
    · rw [if_neg q]
      have : j ≠ i := fun z => q (a.eo.inj _ _ _ hy (z ▸ hn))
      exact optRep_set hi this (hm y j hy hky)
  · refine absG fun Cg hCg => ?_
    obtain ⟨ca, ov, e1, e2, e3⟩ := a.N.cells y j hy hky
    obtain ⟨n1, n2, n3, n4, _⟩ := a.N.apC _ _ e1
    refine hCg ?_; clear hCg
    have : j ≠ i := fun z => by
      have := a.eo.inj _ _ _ hy (z ▸ hn)
      subst this
      rcases hky with q | q <;> (rw [hk] at q; cases q)
    exact ⟨ca, ov, e1, e2.sameBut hs n4, optRep_set hi this e3⟩
  · refine absG fun Cg hCg => ?_
    obtain ⟨n1, n2, n3, n4, o, lk⟩ := a.N.apC _ _ e
    refine hCg ?_; clear hCg
    exact ⟨n1, fun z => n2 ((Q1.2 _).mp z), n3, n4, o, (hs.2 _ n4).trans lk⟩
noncomputable def closOf (env : Env) : List (Str × NameKind) → List (Str × Addr) → List (Str × Addr)
  | [], acc => acc
  | (x, k) :: r, acc => closOf env r (if k == .free then (x, (env.cells.lookup x).getD 0) :: acc else acc)
theorem closOf_ok {scope : Scope} (h : ∀ x, (x, NameKind.free) ∈ scope.names → ∃ a, env.cells.lookup x = some a) : closureFor scope env = pure (closOf env scope.names []) := by
  unfold closureFor
  have key : ∀ (l : List (Str × NameKind)) (acc : List (Str × Addr)), (∀ x, (x, NameKind.free) ∈ l → ∃ a, env.cells.lookup x = some a) →
      (forIn l acc fun (x : Str × NameKind) (cs : List (Str × Addr)) => (match x with | (name, kind) => (if kind == .free then do let y ← cellOf env name; pure (ForInStep.yield ((name, y) :: cs)) else pure (ForInStep.yield cs)) : Sem (ForInStep (List (Str × Addr))))) = pure (closOf env l acc) := by
    intro l
    induction l with
    | nil => intro acc _; rfl
    | cons p r ih =>
      intro acc hl
      obtain ⟨x, k⟩ := p
      rw [List.forIn_cons]
      dsimp only
      by_cases hk : (k == NameKind.free) = true
      · obtain ⟨a, ha⟩ := hl x (by rw [beq_iff_eq.mp hk]; exact .head _)
        rw [if_pos hk]
        unfold closOf
        rw [if_pos hk, ha]
        have e : cellOf env x = pure a := by unfold cellOf; rw [ha]
        rw [e]
        exact ih _ fun y hy => hl y (.tail _ hy)
      · rw [if_neg hk]
        unfold closOf
        rw [if_neg hk]
        exact ih _ fun y hy => hl y (.tail _ hy)
  have k := key scope.names [] h
  exact congrArg (fun z : Sem (List (Str × Addr)) => z >>= fun cs => pure cs) k
theorem closOf_mem : ∀ {l : List (Str × NameKind)} {acc : List (Str × Addr)} {P : Str × Addr → Prop}, (∀ x, (x, NameKind.free) ∈ l → P (x, (env.cells.lookup x).getD 0)) → (∀ y ∈ acc, P y) → ∀ y ∈ closOf env l acc, P y
  | [], acc, P, _, h2 => h2
  | (x, k) :: r, acc, P, h1, h2 => by
    unfold closOf
    refine closOf_mem (fun y hy => h1 y (.tail _ hy)) ?_
    by_cases hk : (k == NameKind.free) = true
    · rw [if_pos hk]
      intro y hy
      cases hy with
      | head => exact h1 x (by rw [beq_iff_eq.mp hk]; exact .head _)
      | tail _ hy => exact h2 y hy
    · rw [if_neg hk]; exact h2
theorem closOf_sub : ∀ {l : List (Str × NameKind)} {acc : List (Str × Addr)} {y : Str × Addr}, y ∈ acc → y ∈ closOf env l acc
  | [], _, _, h => h
  | (x, k) :: r, acc, y, h => by
    unfold closOf
    refine closOf_sub ?_
    by_cases hk : (k == NameKind.free) = true
    · rw [if_pos hk]; exact .tail _ h
    · rw [if_neg hk]; exact h
theorem closOf_has : ∀ {l : List (Str × NameKind)} {acc : List (Str × Addr)} {x : Str}, (x, NameKind.free) ∈ l → (x, (env.cells.lookup x).getD 0) ∈ closOf env l acc
  | (y, k) :: r, acc, x, h => by
    unfold closOf
    cases h with
    | head => rw [if_pos (by rfl)]; exact closOf_sub (.head _)
    | tail _ h => exact closOf_has h
theorem lookup_mem {α : Type} : ∀ {l : List (Str × α)} {x : Str} {a : α}, l.lookup x = some a → (x, a) ∈ l
  | (y, b) :: r, x, a, h => by
    simp only [List.lookup] at h
    split at h
    · rename_i q; cases h; rw [beq_iff_eq.mp q]; exact .head _
    · exact .tail _ (lookup_mem h)
theorem lookup_some {α : Type} : ∀ {l : List (Str × α)} {x : Str} {a : α}, (x, a) ∈ l → ∃ b, l.lookup x = some b
  | (y, b) :: r, x, a, h => by
    simp only [List.lookup]
    split
    · exact ⟨_, rfl⟩
    · rename_i q
      cases h with
      | head => simp at q
      | tail _ h => exact lookup_some h
theorem clos_lookup (h : ∀ x, (x, NameKind.free) ∈ l → ∃ a, env.cells.lookup x = some a) {x : Str} {a : Addr} (e : (closOf env l []).lookup x = some a) : env.cells.lookup x = some a := by
  refine closOf_mem (P := fun y => env.cells.lookup y.1 = some y.2) (fun x hx => ?_) (fun _ h => by cases h) _ (lookup_mem e)
  obtain ⟨a, ha⟩ := h x hx
  show env.cells.lookup x = some ((env.cells.lookup x).getD 0)
  rw [ha]; rfl
theorem clos_lookup' (h : ∀ x, (x, NameKind.free) ∈ l → ∃ a, env.cells.lookup x = some a) {x : Str} {a : Addr} (hx : (x, NameKind.free) ∈ l) (e : env.cells.lookup x = some a) : (closOf env l []).lookup x = some a := by
  obtain ⟨b, hb⟩ := lookup_some (closOf_has (env := env) (acc := []) hx)
  have := clos_lookup h hb
  rw [e] at this; cases this; exact hb
theorem lookup_relabel {env : Env} : ∀ {names : List (Str × NameKind)} {x : Str} {k : NameKind}, names.lookup x = some k →
    (names.map fun (n, k) => if (k == NameKind.free && env.scope.kind == .function && env.kindOf n == some .cell) then (n, NameKind.cell) else (n, k)).lookup x = some k ∨
    (k = .free ∧ (names.map fun (n, k) => if (k == NameKind.free && env.scope.kind == .function && env.kindOf n == some .cell) then (n, NameKind.cell) else (n, k)).lookup x = some .cell)
  | (n, k') :: r, x, k, h => by
    have ih := @lookup_relabel env r x k
    rw [List.map_cons]
    cases hx : x == n with
    | true =>
      simp only [List.lookup_cons, hx] at h
      cases h
      dsimp only
      by_cases hc : (k' == NameKind.free && env.scope.kind == .function && env.kindOf n == some .cell) = true
      · rw [if_pos hc]
        simp only [Bool.and_eq_true] at hc
        exact .inr ⟨beq_iff_eq.mp hc.1.1, by simp only [List.lookup_cons, hx]⟩
      · rw [if_neg hc]; exact .inl (by simp only [List.lookup_cons, hx])
    | false =>
      simp only [List.lookup_cons, hx] at h
      dsimp only
      by_cases hc : (k' == NameKind.free && env.scope.kind == .function && env.kindOf n == some .cell) = true
      · rw [if_pos hc]; simp only [List.lookup_cons, hx]; exact ih h
      · rw [if_neg hc]; simp only [List.lookup_cons, hx]; exact ih h
structure CompOk (c : Ctx) (sc : Scope) (x : Str) : Prop where
  kind : sc.kind = .function
  own : sc.names.lookup x = some .local
  cell : ∀ y ∈ sc.names, y.2 ≠ .cell
  loc : ∀ y ∈ sc.names, y.2 = .local → sc.names.lookup y.1 = some .local
  free : ∀ y, (y, NameKind.free) ∈ sc.names → ∃ i, c.ν.lookup y = some i ∧ isCell c y
  alone : ∀ y ∈ sc.names, y.2 = .local → y.1 = x ∨ c.ν.lookup y.1 = none
theorem compOk_ok {sc : Scope} {x : Str} (h : compOk c sc x = true) : CompOk c sc x := by
  unfold compOk at h
  simp only [Bool.and_eq_true] at h
  refine absG fun Cg hCg => ?_
  obtain ⟨⟨h1, h2⟩, h3⟩ := h
  refine hCg ?_; clear hCg
  rw [List.all_eq_true] at h3
  refine ⟨by simpa using h1, beq_iff_eq.mp h2, fun y hy q => ?_, fun y hy q => ?_, fun y hy => ?_, fun y hy q => ?_⟩
  · have := h3 y hy
    unfold compName at this
    rw [q] at this
    cases this
  · have := h3 y hy
    unfold compName at this
    rw [q] at this
    simp only [Bool.and_eq_true, Bool.or_eq_true, beq_iff_eq] at this
    exact this.1
  · have := h3 _ hy
    unfold compName at this
    simp only [Bool.and_eq_true, Bool.or_eq_true, beq_iff_eq] at this
    obtain ⟨i, hi⟩ := Option.isSome_iff_exists.mp this.1
    exact ⟨i, hi, this.2⟩
  · have := h3 y hy
    unfold compName at this
    rw [q] at this
    simp only [Bool.and_eq_true, Bool.or_eq_true, beq_iff_eq] at this
    exact this.2
theorem inner_at {sc : Scope} {x : Str} {Cf : Addr} {mm : Str → Option Value} (K : CompOk c sc x) (a : At C c env A m H s) (hN : s.heap.Ns Cf mm) (hx : mm x = none) (ap : Apart C H s.heap Cf) (hl : Cf ≠ env.locals) (hc : ∀ x, env.cells.lookup x ≠ some Cf) :
    At C (c.inner1 sc x) (compEnvC sc (closOf env sc.names []) Cf env) A (m ++ [none]) H s := by
  have hfree : ∀ y, (y, NameKind.free) ∈ sc.names → ∃ b, env.cells.lookup y = some b := fun y hy => by
    refine absG fun Cg hCg => ?_
    obtain ⟨i, hi, hk⟩ := K.free y hy
    obtain ⟨b, ov, e, _⟩ := a.N.cells y i hi hk
    refine hCg ?_; clear hCg
    exact ⟨b, e⟩
  have hnu : ∀ y i, (c.inner1 sc x).ν.lookup y = some i → (y = x ∧ i = c.next) ∨ (y ≠ x ∧ c.ν.lookup y = some i) := fun y i e => by
    simp only [Ctx.inner1, List.lookup] at e
    split at e
    · rename_i q; cases e; exact .inl ⟨beq_iff_eq.mp q, rfl⟩
    · rename_i q; exact .inr ⟨by simpa using q, e⟩
  have hkf : ∀ y, isCell (c.inner1 sc x) y → (y, NameKind.free) ∈ sc.names := fun y q => by
    rcases q with q | q
    · exact absurd rfl (K.cell _ (lookup_mem q))
    · exact lookup_mem q
  have hkl : ∀ y i, (c.inner1 sc x).ν.lookup y = some i → isCell (c.inner1 sc x) y → c.ν.lookup y = some i ∧ isCell c y := fun y i e q => by
    rcases hnu y i e with ⟨rfl, _⟩ | ⟨_, e'⟩
    · rcases q with q | q <;> (have q : sc.names.lookup y = some _ := q; rw [K.own] at q; cases q)
    · refine absG fun Cg hCg => ?_
      obtain ⟨j, hj, hk⟩ := K.free y (hkf y q)
      refine hCg ?_; clear hCg
      rw [hj] at e'; cases e'; exact ⟨hj, hk⟩
  refine ⟨⟨a.eo.glob, a.eo.blts, K.kind, fun y e => ?_, fun y e => lookup_relabel_local e, fun y e => ?_, fun y e => ?_, fun y z i e1 e2 => ?_, fun y i e => ?_
    ⟩, ⟨a.ao.hd, a.ao.dp, a.ao.un⟩, a.S,
    ⟨?_, ⟨mm, hN, fun y i e k => ?_⟩, fun y i e k => ?_, ⟨ap.at_, ap.hid, ap.base⟩, fun y b e => ?_, fun y z b e1 e2 => ?_⟩⟩
  · exact (lookup_relabel e).elim id fun q => by cases q.1
  · exact absurd rfl (K.cell _ (lookup_mem e))
  · exact (lookup_relabel e).elim .inl fun q => .inr q.2
  · rcases hnu y i e1 with ⟨rfl, rfl⟩ | ⟨_, e1'⟩
    · rcases hnu z _ e2 with ⟨rfl, _⟩ | ⟨_, e2'⟩
      · rfl
      · exact absurd (a.eo.bnd _ _ e2') (Nat.lt_irrefl _)
    · rcases hnu z _ e2 with ⟨rfl, rfl⟩ | ⟨_, e2'⟩
      · exact absurd (a.eo.bnd _ _ e1') (Nat.lt_irrefl _)
      · exact a.eo.inj _ _ _ e1' e2'
  · rcases hnu y i e with ⟨_, rfl⟩ | ⟨_, e⟩
    · exact Nat.lt_succ_self _
    · exact Nat.lt_succ_of_lt (a.eo.bnd _ _ e)
  · rw [List.length_append, a.N.len]; rfl
  · rcases hnu y i e with ⟨rfl, rfl⟩ | ⟨n, e'⟩
    · rw [hx, ← a.N.len, List.getElem?_append_right (Nat.le_refl _), Nat.sub_self]; trivial
    · rcases K.alone _ (lookup_mem k) rfl with q | q
      · exact absurd q n
      · rw [show c.ν.lookup y = none from q] at e'; cases e'
  · obtain ⟨e', k'⟩ := hkl y i e k
    refine absG fun Cg hCg => ?_
    obtain ⟨b, ov, e1, e2, e3⟩ := a.N.cells y i e' k'
    refine hCg ?_; clear hCg
    refine ⟨b, ov, clos_lookup' hfree (hkf y k) e1, e2, ?_⟩
    rw [List.getElem?_append_left (by rw [a.N.len]; exact a.eo.bnd _ _ e')]; exact e3
  · refine absG fun Cg hCg => ?_
    obtain ⟨n1, n2, n3, n4, o, lk⟩ := a.N.apC _ _ (clos_lookup hfree e)
    refine hCg ?_; clear hCg
    exact ⟨n1, n2, n3, fun q => hc y (by have z := clos_lookup hfree e; rw [show b = Cf from q] at z; exact z), o, lk⟩
  · exact a.N.injC _ _ _ (clos_lookup hfree e1) (clos_lookup hfree e2)
end ML
namespace ML
open PySem PySem.W PySem.Calls PyProof.Rows PySem.SeqAt
variable {C : Cfg} {Φ : Orac} {c : Ctx} {H H' H'' H1 : Heap} {s s' s1 s2 : Shared} {h h' h'' : PHeap} {A : Around} {env : Env} {m m' : Loc}
noncomputable def SndC (C : Cfg) (Φ : Orac) (c : Ctx) (ifs : List Expr) (mc : Option E) : Prop :=
  (ifs = [] ∧ mc = none) ∨ ∃ t mt, ifs = [t] ∧ mc = some mt ∧ SndT C Φ c t mt
theorem SndC.then {ifs : List Expr} {mc : Option E} {Q : Bool → Heap → Prop} {R : Bool → Shared → Prop} (h : SndC C Φ c ifs mc) (a : At C c env A m H s) (hw : wpC Φ mc m H Q)
    (k : ∀ r s1 H1, At C c env A m H1 s1 → Ext H s.heap H1 s1.heap → Q r H1 → R r s1) :
    wpAny C.M A (forIn ifs true fun c r => if r = true then do let ok ← isTrue c env (eval c env); pure (ForInStep.yield ok) else pure (ForInStep.yield r)) R NoE s := by
  rcases h with ⟨rfl, rfl⟩ | ⟨t, mt, rfl, rfl, ht⟩
  · simp only [w_cnone, w_csome] at hw
    exact wpAny_tests_nil (k true s H a Ext.refl hw)
  · simp only [w_cnone, w_csome] at hw
    exact wpAny_tests_one (SndT.then ht a hw k)
noncomputable abbrev CompInv (C : Cfg) (Φ : Orac) (ci : Ctx) (ce : Env) (A : Around) (m : Loc) (H : Heap) (h : PHeap) (Q : PV) (melt : E) (mc : Option E) (ok : Heap → Prop) (P : Nat → PHeap → Prop) (xs : List V) (it D : Addr) (n : Nat) (s' : Shared) : Prop :=
  ∃ k acc H' ov vs nn, n = xs.length - k ∧ compW (wpE Φ melt) (wpC Φ mc) 1 ok m (xs.drop k) acc H' Q ∧ At C ci ce A (m ++ [ov]) H' s' ∧ Ext H h H' s'.heap ∧ P k s'.heap ∧
    Apart C H' s'.heap it ∧ Apart C H' s'.heap D ∧ IsL s'.heap D vs.toArray nn ∧ All2 RepV vs acc
theorem comp_loop {elt iter : Expr} {x : Str} {px pos : Pos} {ifs : List Expr} {sc : Scope} {melt : E} {mc : Option E} {Q : PV} {RR : Value → Addr → Result → Shared → Prop} (K : CompOk c sc x)
    (helt : SndE C Φ (c.inner1 sc x) elt melt) (hc : SndC C Φ (c.inner1 sc x) ifs mc) (a : At C c env A m H s)
    (hRR : ∀ D Cf s' H', s.heap.get? Cf = none → D ≠ Cf → (∃ mm, s'.heap.Ns Cf mm) → Apart C H' s'.heap Cf → StH C H' s' → Ext H s.heap H' s'.heap → Q (.ref D) H' → RR (.ref D) Cf (.ok .next) s')
    {it D Cf : Addr} {s2 s3 : Shared} {xs : List V} {ok : Heap → Prop} {H2 : Heap} {P : Nat → PHeap → Prop} (I : IterOk C xs ok it P) (hP : P 0 s2.heap) (hz : s.heap.get? it = none) (ap : Apart C H2 s2.heap it) (a2 : At C c env A m H2 s2) (x2 : Ext H s.heap H2 s2.heap) (q2 : compW (wpE Φ melt) (wpC Φ mc) 1 ok m xs [] H2 Q)
    (hDC : D ≠ Cf) (hDz : s2.heap.get? D = none) (hCz : s2.heap.get? Cf = none) (hk3 : ∀ b o, s2.heap.get? b = some o → s3.heap.get? b = some o) (hg3 : s3.gens = s2.gens) (ho3 : s3.os = s2.os) (hns₁ : s3.heap.Ns Cf (fun x => ([] : List (Str × Value)).reverse.lookup x)) (lkD : s3.heap.get? D = some { cls := .type "list", dict := none, data := .seq ([] : List Value).toArray }) :
    codeAny C.M A (.compLoop (.ListComp elt [⟨.Name x px, iter, ifs, 0⟩] sc pos) 0 (.ref it) (.ref D) (compEnvC sc (closOf env sc.names []) Cf env)) (RR (.ref D) Cf) s3 := by
  obtain ⟨oit, lkit⟩ := I.look _ _ hP
  have hDit : D ≠ it := fun q => by rw [q, lkit] at hDz; cases hDz
  have hCit : Cf ≠ it := fun q => by rw [q, lkit] at hCz; cases hCz
  have zD : s.heap.get? D = none := x2.alive _ hDz
  have zC : s.heap.get? Cf = none := x2.alive _ hCz
  have locL : ∀ b, s.heap.get? b = none → b ≠ env.locals := fun b e q => by
    refine absG fun Cg hCg => ?_
    obtain ⟨mm, ⟨o, es, ep, ho, hr⟩, hm⟩ := a.N.ns
    refine hCg ?_; clear hCg
    rw [← q, e] at ho; cases ho
  have locC : ∀ b, s.heap.get? b = none → ∀ x, env.cells.lookup x ≠ some b := fun b e x q => by
    refine absG fun Cg hCg => ?_
    obtain ⟨_, _, _, _, o, lk⟩ := a.N.apC _ _ q
    refine hCg ?_; clear hCg
    rw [e] at lk; cases lk
  have hfree : ∀ y, (y, NameKind.free) ∈ sc.names → ∃ b, env.cells.lookup y = some b := fun y hy => by
    refine absG fun Cg hCg => ?_
    obtain ⟨i, hi, hk⟩ := K.free y hy
    obtain ⟨b, ov, e, _⟩ := a.N.cells y i hi hk
    refine hCg ?_; clear hCg
    exact ⟨b, e⟩
  have locK : ∀ b, s.heap.get? b = none → ∀ x, (compEnvC sc (closOf env sc.names []) Cf env).cells.lookup x ≠ some b := fun b e x q => locC b e x (clos_lookup hfree q)
  obtain ⟨S3, x3⟩ := a2.S.grow (s' := s3) hk3 hg3 ho3
  have hid3 := hid_grow a2.S hk3
  have apD : Apart C H2 s3.heap D := (Apart.fresh a2.S hDz).hidMono hid3
  have apC : Apart C H2 s3.heap Cf := (Apart.fresh a2.S hCz).hidMono hid3
  have a3 := inner_at K (a2.on S3 x3) (Cf := Cf) (mm := fun x => ([] : List (Str × Value)).reverse.lookup x) hns₁ rfl apC (locL _ zC) (locC _ zC)
  refine codeAny_compLoop_tests (CompInv C Φ (c.inner1 sc x) (compEnvC sc (closOf env sc.names []) Cf env) A m H s.heap Q melt mc ok P xs it D) (fun n s4 hI => ?_) _
    ⟨0, [], H2, none, [], 0, rfl, q2, a3, x2.trans x3, I.same _ _ _ hP (fun o e => hk3 _ _ e), ap.hidMono hid3, apD, lkD, .nil⟩
  refine absG fun Cg hCg => ?_
  obtain ⟨k, acc, H4, ov, vs, nn, rfl, cw, a4, x4, P4, ap4, apD4, l4, r4⟩ := hI
  have apC4 : Apart C H4 s4.heap Cf := ⟨a4.N.apL.1, a4.N.apL.2.1, a4.N.apL.2.2⟩
  refine hCg ?_; clear hCg
  cases hx : xs[k]? with
  | none =>
    have hlen : xs.length ≤ k := List.getElem?_eq_none_iff.mp hx
    rw [List.drop_eq_nil_of_le hlen] at cw
    refine absG fun Cg hCg => ?_
    obtain ⟨hok, hal, cw⟩ := cw
    refine hCg ?_; clear hCg
    refine wpAny_noE (I.stop k H4 s4 A _ a.ao.hd hx a4.S hok P4 fun s5 hk hg hos => ?_)
    obtain ⟨t1, t2⟩ := touch a4 ap4 (fun q => hCit q.symm) (locK _ hz) hk hg hos
    have x5 := x4.touch hz hk t2
    have l5 : IsL s5.heap D vs.toArray nn := hk _ _ hDit l4
    have apD5 := apD4.hidMono t2
    have S5 := t1.S.adopt (o := .list acc) apD5 (fun _ _ q => by cases q) ⟨vs, nn, l5, r4, by rw [r4.length]; (first | lia | omega)⟩
    have x6 := x5.adopt (o := .list acc) zD (fun _ _ q => by cases q)
    have apC5 := apC4.hidMono t2
    refine hRR D Cf s5 _ zC hDC (let ⟨mm, hm, _⟩ := t1.N.ns; ⟨mm, hm⟩) ⟨?_, fun z => apC5.hid ?_, apC5.base⟩ S5 x6 (cw D apD5.at_)
    · simp only [Heap.upd, Ne.symm hDC, if_false]; exact apC5.at_
    · refine absG fun Cg hCg => ?_
      obtain ⟨d, ci, fs, o, e1, e2, e3⟩ := z
      refine hCg ?_; clear hCg
      by_cases q : d = D
      · subst q; simp [Heap.upd] at e1
      · simp [Heap.upd, q] at e1; exact ⟨d, ci, fs, o, e1, e2, e3⟩
  | some y =>
    have hlt : k < xs.length := by
      by_cases q : k < xs.length
      · exact q
      · rw [List.getElem?_eq_none (by (first | lia | omega))] at hx; cases hx
    have hd : xs.drop k = y :: xs.drop (k + 1) := by
      rw [List.drop_eq_getElem_cons hlt]
      rw [List.getElem?_eq_getElem hlt] at hx
      rw [Option.some.inj hx]
    rw [hd] at cw
    refine absG fun Cg hCg => ?_
    obtain ⟨hok, hal, cw⟩ := cw
    refine hCg ?_; clear hCg
    refine wpAny_noE (I.next k y H4 s4 A _ hx a4.S hok P4 fun pv s5 r5 P5 hk hg hos => ?_)
    have hk' : ∀ b o, b ≠ it → s4.heap.get? b = some o → s5.heap.get? b = some o := fun b o n e => (hk b n).trans e
    obtain ⟨t1, t2⟩ := touch a4 ap4 (fun q => hCit q.symm) (locK _ hz) hk' hg hos
    have x5 := x4.touch hz hk' t2
    have l5 : IsL s5.heap D vs.toArray nn := hk' _ _ hDit l4
    have apD5 := apD4.hidMono t2
    have ap5 := ap4.hidMono t2
    obtain ⟨oi5, lki5⟩ := I.look _ _ P5
    have hnu : (c.inner1 sc x).ν.lookup x = some c.next := by simp [Ctx.inner1, List.lookup]
    refine wpAny_noE (wpAny_assign_Name (store_local (c := c.inner1 sc x) K.own hnu t1 r5 fun s6 a6 hk6 hg6 hos6 hid6 => ?_))
    have em : (m ++ [ov]).set c.next (some y) = m ++ [some y] := by rw [← a.N.len, List.set_append_right _ _ (Nat.le_refl _), Nat.sub_self]; rfl
    rw [em] at a6
    have hk6' : ∀ b o, b ≠ Cf → s5.heap.get? b = some o → s6.heap.get? b = some o := fun b o n e => (hk6 b n).trans e
    have x6 := x5.touch zC hk6' hid6
    have l6 : IsL s6.heap D vs.toArray nn := hk6' _ _ hDC l5
    have apD6 := apD5.hidMono hid6
    have ap6 := ap5.hidMono hid6
    have lki6 : s6.heap.get? it = some oi5 := hk6' _ _ (Ne.symm hCit) lki5
    refine wpAny_noE (hc.then a6 cw fun r s7 H7 a7 x7 q7 => ?_)
    obtain ⟨lD7, apD7⟩ := apD6.ext x7 l6
    obtain ⟨li7, ap7⟩ := ap6.ext x7 lki6
    cases r with
    | false =>
      exact ⟨xs.length - (k + 1), by (first | lia | omega), k + 1, acc, H7, some y, vs, nn, rfl, q7, a7, x6.trans x7, I.same _ _ _ P5 (fun o e => by rw [lki5] at e; cases e; exact li7), ap7, apD7, lD7, r4⟩
    | true =>
      refine wpAny_noE (SndE.then helt a7 q7 fun v s8 z H8 r8 a8 x8 q8 => ?_)
      refine absG fun Cg hCg => ?_
      obtain ⟨H9, l9, q9⟩ := q8
      obtain ⟨lD8, apD8⟩ := apD7.ext x8 lD7
      obtain ⟨li8, ap8⟩ := ap7.ext x8 li7
      have a9 : At C (c.inner1 sc x) (compEnvC sc (closOf env sc.names []) Cf env) A (m ++ [some y]) H9 s8 := ⟨a8.eo, a8.ao, a8.S.forget l9, a8.N.forget l9⟩
      have lD8 : IsL s8.heap D vs.toArray nn := lD8
      refine hCg ?_; clear hCg
      refine wpAny_noE (call_meets F.slot_list_append ⟨_, lD8, rfl⟩ F.entry_list_append (F.args_list_append_2 _ _) (list_append D vs.toArray nn v (by simp only [List.size_toArray, r4.length]; exact sizeLine_lim hal)) ⟨lD8, ?_⟩)
      obtain ⟨n', en⟩ := mapSeq_list (items := vs.toArray) (n := nn) (fun x => x.push v)
      have hkD : ∀ b o, b ≠ D → s8.heap.get? b = some o → (s8.heap.update D (Obj.mapSeq fun x => x.push v)).get? b = some o := fun b o n e => (Heap.get?_update_other _ _ (Ne.symm n)).trans e
      have lD9 : (s8.heap.update D (Obj.mapSeq fun x => x.push v)).get? D = some { cls := .type "list", dict := none, data := .seq (vs.toArray.push v) n', slots := #[] } := by
        rw [Heap.get?_update_self _ lD8 (by rw [en]; rfl), en]
      obtain ⟨u1, u2⟩ := touch (s' := { s8 with heap := s8.heap.update D (Obj.mapSeq fun x => x.push v) }) a9 (apD8.le l9) hDC (locK _ zD) hkD rfl rfl
      have xx := (((x6.trans x7).trans x8).forget l9).touch zD hkD u2
      refine ⟨xs.length - (k + 1), by (first | lia | omega), k + 1, acc ++ [z], H9, some y, vs ++ [v], n', rfl, q9, u1, xx, I.same _ _ _ P5 (fun o e => by rw [lki5] at e; cases e; exact hkD _ _ (Ne.symm hDit) li8), (ap8.le l9).hidMono u2, (apD8.le l9).hidMono u2, ?_, r4.append (.cons r8 .nil)⟩
      show _ = _
      rw [lD9]; simp
theorem comp_main {elt iter : Expr} {x : Str} {px pos : Pos} {ifs : List Expr} {sc : Scope} {melt : E} {src : Src} {mc : Option E} {Q : PV} {RR : Value → Addr → Result → Shared → Prop} (K : CompOk c sc x) (hsrc : SndSrc C Φ c iter src)
    (helt : SndE C Φ (c.inner1 sc x) elt melt) (hc : SndC C Φ (c.inner1 sc x) ifs mc) (a : At C c env A m H s) (hw : wpE Φ (.comp melt 1 src mc) m H Q)
    (hRR : ∀ D Cf s' H', s.heap.get? Cf = none → D ≠ Cf → (∃ mm, s'.heap.Ns Cf mm) → Apart C H' s'.heap Cf → StH C H' s' → Ext H s.heap H' s'.heap → Q (.ref D) H' → RR (.ref D) Cf (.ok .next) s') :
    wpAny C.M A (eval iter env) (fun xv s₁ => wpAny C.M A (pyIter xv) (fun it s₂ => wpAny C.M A (newList []) (fun acc s₃ => wpAny C.M A (newFunctionEnv sc env.globals (closOf env sc.names []) [] env.qual none .none (some env)) (fun cenv s₄ =>
      codeAny C.M A (.compStart (.ListComp elt [⟨.Name x px, iter, ifs, 0⟩] sc pos) 0 it acc { cenv with scope := relabel sc env }) (RR acc cenv.locals) s₄) NoE s₃) NoE s₂) NoE s₁) NoE s := by
  simp only [w_var, w_lit, w_bop, w_neg, w_cmp, w_cmp2, w_and, w_or, w_not, w_call, w_meth, w_new, w_prim, w_attr, w_idx, w_slice, w_list, w_tup, w_comp] at hw
  refine hsrc a hw fun it s2 xs ok H2 P I hP hz ap a2 x2 q2 => ?_
  refine wpAny_newObj_type (wpAny_newFunctionEnv K.cell (by intro y hy; cases hy) (fun h₁ hns₁ hsb₁ => ?_) K.kind)
  dsimp only at hns₁ hsb₁ ⊢
  have hC : (s2.heap.push { cls := .type "list", dict := none, data := .seq ([] : List Value).toArray }).objs.size = s2.heap.objs.size + 1 := Heap.size_push _ _
  have hCz : s2.heap.get? (s2.heap.push { cls := .type "list", dict := none, data := .seq ([] : List Value).toArray }).objs.size = none := by
    cases q : s2.heap.get? (s2.heap.push { cls := .type "list", dict := none, data := .seq ([] : List Value).toArray }).objs.size with
    | none => rfl
    | some o => have := Heap.lt_size q; rw [hC] at this; exact absurd this (Nat.not_lt.mpr (Nat.le_succ _))
  have hDC : s2.heap.objs.size ≠ (s2.heap.push { cls := .type "list", dict := none, data := .seq ([] : List Value).toArray }).objs.size := by rw [hC]; exact Nat.ne_of_lt (Nat.lt_succ_self _)
  have old : ∀ b o, s2.heap.get? b = some o → h₁.get? b = some o := fun b o e => hsb₁.extBut b o (fun q => by rw [q, hCz] at e; cases e) (Heap.get?_push_of_some _ (Heap.get?_push_of_some _ e))
  have lkD : h₁.get? s2.heap.objs.size = some { cls := .type "list", dict := none, data := .seq ([] : List Value).toArray } := hsb₁.extBut _ _ hDC (Heap.get?_push_of_some _ (Heap.get?_push_size _ rfl))
  have loop := comp_loop (elt := elt) (iter := iter) (px := px) (pos := pos) K helt hc a hRR I hP hz ap a2 x2 q2 hDC (look_size _) hCz (s3 := { s2 with heap := h₁, toks := s2.toks + ([] : List (Str × Value)).length }) old rfl rfl hns₁ lkD
  exact codeAny_compStart_list loop (wpAny_noE (I.self 0 _ _ _ (I.same _ _ _ hP (fun o e => old _ _ e)) loop))
theorem hfree_of {sc : Scope} {x : Str} (K : CompOk c sc x) (N : EnvSt C c env m H h) : ∀ y, (y, NameKind.free) ∈ sc.names → ∃ b, env.cells.lookup y = some b := fun y hy => by
  refine absG fun Cg hCg => ?_
  obtain ⟨i, hi, hk⟩ := K.free y hy
  obtain ⟨b, ov, e, _⟩ := N.cells y i hi hk
  refine hCg ?_; clear hCg
  exact ⟨b, e⟩
section
variable {elt iter : Expr} {x : Str} {px pos : Pos} {ifs : List Expr} {sc : Scope} {melt : E} {src : Src} {mc : Option E}
theorem comp_expr {Q : PV} (K : CompOk c sc x) (hsrc : SndSrc C Φ c iter src) (hs : ∀ (env : Env) x, foldedSetIterable iter env x = pure x)
    (helt : SndE C Φ (c.inner1 sc x) elt melt) (hc : SndC C Φ (c.inner1 sc x) ifs mc) (a : At C c env A m H s) (hw : wpE Φ (.comp melt 1 src mc) m H Q) :
    wpAny C.M A (eval (.ListComp elt [⟨.Name x px, iter, ifs, 0⟩] sc pos) env) (PE C H s Q) NoE s := by
  rw [eval_ListComp]
  refine wpAny_comprehension_free (use := none) rfl (hs env) (closOf_ok (hfree_of K a.N)) K.kind K.loc (comp_main (RR := fun acc Cf => compPost C.M A NoE none (PE C H s Q) acc Cf) K hsrc helt hc a hw ?_)
  intro D Cf s' H' hz hne ⟨mm, hN⟩ ap S' x' q
  refine ⟨mm, hN, fun h' hs' => ?_⟩
  have hk : ∀ b o, b ≠ Cf → s'.heap.get? b = some o → h'.get? b = some o := fun b o n e => hs'.extBut b o n e
  have hh : ∀ b, Hid H' h' b → Hid H' s'.heap b := fun b z => z.same (fun d c fs e o lk => hk _ _ (fun q => by rw [q, ap.at_] at e; cases e) lk) fun a o e => (S'.rep _ _ e).look
  exact ⟨.ref D, H', rfl, S'.quiet (s' := { s' with heap := h' }) (fun b => b = Cf) (fun b o e n => hk b o n e) (fun b e => by subst e; exact ⟨ap.at_, ap.base, ap.hid⟩) rfl rfl, x'.touch hz hk hh, q⟩
theorem comp_assign {Q : PS} {y : Str} {py spos : Pos} {i : Nat} (hn : trName c y = some i) (K : CompOk c sc x) (hsrc : SndSrc C Φ c iter src) (hs : ∀ (env : Env) x, foldedSetIterable iter env x = pure x)
    (helt : SndE C Φ (c.inner1 sc x) elt melt) (hc : SndC C Φ (c.inner1 sc x) ifs mc) (a : At C c env A m H s) (hw : wpS Φ (.assign i (.comp melt 1 src mc)) m H Q) :
    wpAny C.M A (exec (.Assign [.Name y py] (.ListComp elt [⟨.Name x px, iter, ifs, 0⟩] sc pos) spos) env) (PSs C c env H s Q) NoE s := by
  simp only [s_assign, s_unpack, s_setAttr, s_setIdx, s_delIdx, s_append, s_expr, s_ret0, s_ret, s_ite, s_whl, s_for, s_brk, s_pass] at hw
  obtain ⟨b, hb⟩ : ∃ b, swapsWith (.ListComp elt [⟨.Name x px, iter, ifs, 0⟩] sc pos) (some (.Name y py)) spos.line env = pure b := ⟨_, rfl⟩
  cases b with
  | false => exact wpAny_Assign_Name (SndE.then (comp_expr K hsrc hs helt hc) a hw fun v s1 z H1 r a1 x1 q => store_ok hn a1 r fun s2 S2 N2 x2 => ⟨.next, _, H1, trivial, S2, N2, x1.toS.trans x2, q⟩) hb
  | true =>
    rw [exec_Assign_Name_used _ _ _ _ hb]
    refine wpAny_bind (wpAny_standAt (wpAny_bind ?_))
    show wpAny _ A (do let _ ← comprehension (.ListComp elt [⟨.Name x px, iter, ifs, 0⟩] sc pos) sc env _ (newList []) false (eval iter env) (some (assign (.Name y py) env))) _ _ s
    refine wpAny_bind (wpAny_mono (wpAny_comprehension_free (use := some (assign (.Name y py) env)) (Q := fun _ s' => PSs C c env H s Q .next s') rfl (hs env) (closOf_ok (hfree_of K a.N)) K.kind K.loc
      (comp_main (RR := fun acc Cf => compPost C.M A NoE (some (assign (.Name y py) env)) (fun _ s' => PSs C c env H s Q .next s') acc Cf) K hsrc helt hc a hw ?_)) (fun _ s' hq => wpAny_pure (wpAny_pure hq)) fun _ _ e => e)
    intro D Cf s' H' hz hne ⟨mm, hN⟩ ap S' x' q
    have hL : Cf ≠ env.locals := fun q => by
      refine absG fun Cg hCg => ?_
      obtain ⟨mm, ⟨o, es, ep, ho, hr⟩, hm⟩ := a.N.ns
      refine hCg ?_; clear hCg
      rw [← q, hz] at ho; cases ho
    have hK : ∀ x, env.cells.lookup x ≠ some Cf := fun x q => by
      refine absG fun Cg hCg => ?_
      obtain ⟨_, _, _, _, o, lk⟩ := a.N.apC _ _ q
      refine hCg ?_; clear hCg
      rw [hz] at lk; cases lk
    have a' := a.on S' x'
    refine wpAny_assign_Name (store_ok (v := .ref D) hn a' rfl fun s2 S2 N2 x2 => ?_)
    refine absG fun Cg hCg => ?_
    obtain ⟨o, es, ep, ho, hr⟩ := hN
    obtain ⟨lk2, ap2⟩ := x2.apart ho ap hL hK
    refine hCg ?_; clear hCg
    refine ⟨mm, ⟨o, es, ep, lk2, hr⟩, fun h' hs' => ?_⟩
    have hk : ∀ b o, b ≠ Cf → s2.heap.get? b = some o → h'.get? b = some o := fun b o n e => hs'.extBut b o n e
    obtain ⟨t1, t2⟩ := touch (s' := { s2 with heap := h' }) (a'.then S2 N2) ap2 hL hK hk rfl rfl
    exact ⟨.next, _, H', trivial, t1.S, t1.N, (x'.toS.trans x2).touch hz hk t2, q⟩
end
end ML
namespace ML
open PySem PySem.W PySem.Calls PyProof.Rows PySem.SeqAt
variable {C : Cfg} {Φ : Orac} {c : Ctx} {H H' H'' H1 : Heap} {s s' s1 s2 : Shared} {h h' h'' : PHeap} {A : Around} {env : Env} {m m' : Loc}
theorem PE.made {tk : Nat} {b : Addr} {vs : List Value} {n : Nat} {xs : List V} {Q : PV} (S : StH C H s) (hk : ∀ b o, s.heap.get? b = some o → h'.get? b = some o) (hz : s.heap.get? b = none) (hl : IsL h' b vs.toArray n) (r : All2 RepV vs xs) (hlen : vs.length ≤ 2 * lim) (q : allocW (.list xs) H Q) :
    PE C H s Q (.ref b) { s with heap := h', toks := tk } := by
  obtain ⟨S1, x1⟩ := S.grow (s' := { s with heap := h', toks := tk }) hk rfl rfl
  have ap : Apart C H h' b := ⟨S.none_of hz, fun z => (by
    have z := Hid.same (h := s.heap) (fun _ _ _ _ o e => hk _ _ e) (fun a o e => (S.rep _ _ e).look) z
    obtain ⟨ob, lk⟩ := z.look S
    rw [hz] at lk; cases lk), S.base_none hz⟩
  exact ⟨.ref b, H.upd b (.list xs), rfl, S1.adopt ap (fun _ _ q => by cases q) ⟨vs, n, hl, r, hlen⟩, x1.adopt hz (fun _ _ q => by cases q), q b (S.none_of hz)⟩
theorem ints_are : ∀ {vs : List Value} {ns : List Int}, All2 RepV vs (ns.map V.int) → IntsAre vs ns
  | [], [], _ => .nil
  | v :: vs, n :: ns, .cons a r => by
    obtain ⟨t, rfl⟩ := RepV.int a
    exact .cons _ _ (ints_are r)
theorem intsA_rep : ∀ {vs : List Value} {ns : List Int}, IntsAre vs ns → All2 RepV vs (ns.map V.int)
  | _, _, .nil => .nil
  | _, _, .cons _ _ r => .cons rfl (intsA_rep r)
theorem copy_call {vs : List Value} {xs : List V} {Q : PV} (S : StH C H s) (r : All2 RepV vs xs) (hw : primW .list xs H Q) : wpAny C.M A (call (.type "list") vs []) (PE C H s Q) NoE s := by
  replace hw : copyW xs H Q := hw
  unfold copyW at hw
  split at hw
  · rename_i a
    obtain ⟨v, rfl, r1⟩ := r.one
    cases r1.ref
    split at hw
    · rename_i x hx
      obtain ⟨ys, e, hz, q⟩ := hw
      have rr := S.rep _ _ hx
      have hs : lim = 1000000 := rfl
      have fin : ∀ {T : String} {o : Obj} {items : List Value} {n : Nat}, T = "list" ∨ T = "tuple" → s.heap.get? a = some o → o.cls = .type T → o.data = .seq items.toArray n → All2 RepV items ys → wpAny C.M A (call (.type "list") [.ref a] []) (PE C H s Q) NoE s := by
        intro T o items n hT ho hc hd r2
        have hl := r2.length
        exact PySem.call_list_seq a hT ho hc hd (fun h' c' hk hl' => PE.made (tk := s.toks) S hk (look_size _) hl' r2 (by (first | lia | omega)) q) (by simp only [List.size_toArray, hl]; exact Nat.le_trans hz (by decide))
      cases x with
      | list zs => cases e; obtain ⟨us, n, l, r2, _⟩ := rr; exact fin (.inl rfl) l rfl rfl r2
      | ro zs => cases e; obtain ⟨us, ⟨ob, l, lc, n, ld⟩, r2, _⟩ := rr; exact fin (.inl rfl) l lc ld r2
      | tup zs => cases e; obtain ⟨us, ⟨ob, l, lc, n, ld⟩, r2, _⟩ := rr; exact fin (.inr rfl) l lc ld r2
      | _ => cases e
    · exact hw.elim
  · exact hw.elim
theorem sort_call {vs : List Value} {xs : List V} {Q : PV} (hh : A.handled = none) (S : StH C H s) (r : All2 RepV vs xs) (hw : primW .sorted xs H Q) : wpAny C.M A (call (.builtin "sorted") vs []) (PE C H s Q) NoE s := by
  replace hw : sortW xs H Q := hw
  have hlim : lim = 1000000 := rfl
  unfold sortW at hw
  split at hw
  · rename_i a
    obtain ⟨v, rfl, r1⟩ := r.one
    cases r1.ref
    split at hw
    · rename_i x hx
      obtain ⟨ns, e, h64, q⟩ := hw
      have rr := S.rep _ _ hx
      have fin : ∀ {us : List Value}, s.heap.IsList a us.toArray → All2 RepV us (ns.map V.int) → wpAny C.M A (call (.builtin "sorted") [.ref a] []) (PE C H s Q) NoE s := by
        intro us l r2
        have hl : us.length = ns.length := by rw [r2.length, List.length_map]
        refine sorted_ints l (ints_are r2) (by (first | lia | omega)) fun out ns' a1 a2 a3 => ?_
        obtain ⟨e1, he⟩ := sortedAll_at s.heap us out
        have r3 := intsA_rep a1
        have hz : s.heap.get? (s.heap.objs.size + 1) = none := by
          cases q : s.heap.get? (s.heap.objs.size + 1) with
          | none => rfl
          | some o => exact absurd (Heap.lt_size q) (Nat.not_lt.mpr (Nat.le_succ _))
        refine PE.made (tk := s.toks) (vs := out.toList) (n := e1) S (fun b o e => sortedAll_old e) hz (by rw [Array.toArray_toList]; exact he) r3 ?_ (q ns' a2 a3)
        have := r3.length
        rw [List.length_map, a2.length_eq] at this
        (first | lia | omega)
      cases x with
      | list zs => cases e; obtain ⟨us, n, l, r2, _⟩ := rr; exact fin l.isList r2
      | ro zs => cases e; obtain ⟨us, l, r2, _⟩ := rr; exact fin l r2
      | dict es =>
        have e : es.map (fun e => V.int e.1) = ns.map V.int := Option.some.inj e
        obtain ⟨kvs, hd, rk, hz, hsm⟩ := rr
        obtain ⟨ep, hat⟩ := hd.dictAt
        have hkl : kvs.length = ns.length := by rw [rk.length]; have := congrArg List.length e; simpa using this
        refine call_function_entry kind_sorted plain_sorted entry_sorted (args_sorted1 _) ?_
        unfold Builtin.«sorted»
        refine wpAny_bind (m := checkCount "sorted" 1 1 _) (wpAny_pure ?_)
        refine wpAny_bind (kdu_collect (A := A.in1) (kdl_dict (knd := intKind C.prog C.w) (kvs := kvs) (ep := ep) hsm) hh hat (by rw [hkl]; exact Nat.le_trans (Nat.le_of_lt h64) (by decide)) fun h' tk acc hk hacc => ?_)
        have hl : acc.toList.length = kvs.length := by rw [Array.length_toList]; exact hacc.1
        refine wpAny_bind (wpAny_newList ?_ (by rw [hl, hkl]; exact Nat.le_trans (Nat.le_of_lt h64) (by decide)))
        have r2 : All2 RepV acc.toList (ns.map V.int) := by
          rw [← e]
          have key : ∀ (us : List Value) (kvs : List (Int × Value)) (es : List (Int × V)), All2 RepK kvs es → us.length = kvs.length → (∀ (i : Nat) v, us[i]? = some v → ∃ k x, kvs[i]? = some (k, x) ∧ (intKind C.prog C.w).is k v = true) → All2 RepV us (es.map fun e => V.int e.1) := by
            intro us kvs es rk
            induction rk generalizing us with
            | nil => intro h _; cases us with | nil => exact .nil | cons _ _ => cases h
            | @cons kv ee kvs es r0 r1 ih =>
              intro h hv
              cases us with
              | nil => cases h
              | cons u us =>
                refine .cons ?_ (ih us (by simpa using h) fun i v hi => hv (i + 1) v hi)
                obtain ⟨k, x, h1, h2⟩ := hv 0 u rfl
                obtain ⟨t, rfl⟩ := Value.isInt_shape h2
                cases h1
                exact r0.1
          exact key _ kvs es rk hl fun i v hi => hacc.2 i v (by rw [← Array.getElem?_toList]; exact hi)
        have hoL : (h'.push (seqObj "list" acc.toList.toArray 0)).get? h'.objs.size = some (seqObj "list" acc.toList.toArray 0) := Heap.get?_push_size _ rfl
        refine wpAny_bind (wpAny_holding (wpAny_call_entry slot_list_sort ⟨_, hoL, rfl⟩ entry_list_sort (list_sort_tree hoL (ints_are r2) (by (first | lia | omega)) fun out ns' a1 a2 a3 => ⟨_, rfl, ?_⟩) (args_list_sort _)))
        refine wpAny_pure ⟨_, rfl, ?_⟩
        obtain ⟨e1, he⟩ := sortedHeap_at (out := out) hoL
        have r3 := intsA_rep a1
        have hz2 : s.heap.get? h'.objs.size = none := by
          cases q : s.heap.get? h'.objs.size with
          | none => rfl
          | some o => exact absurd (Heap.lt_size (hk _ _ q)) (Nat.lt_irrefl _)
        refine PE.made (vs := out.toList) (n := e1) S (fun b o e => ?_) hz2 (by rw [Array.toArray_toList]; exact he) r3 ?_ (q ns' a2 a3)
        · have hlt := Heap.lt_size (hk _ _ e)
          rw [sortedHeap_old (Nat.ne_of_lt hlt) (by rw [size_push']; exact Nat.lt_succ_of_lt hlt)]
          exact Heap.get?_push_of_some _ (hk _ _ e)
        · have := r3.length
          rw [List.length_map, a2.length_eq] at this
          (first | lia | omega)
      | _ => cases e
    · exact hw.elim
  · exact hw.elim
theorem dict0_ok {pos : Pos} {Q : PV} (O : C.Ok) (a : At C c env A m H s) (hw : wpE Φ .dict0 m H Q) : wpAny C.M A (eval (.Dict [] [] pos) env) (PE C H s Q) NoE s := by
  refine wpAny_Dict_empty ?_
  have hsm : (s.heap.objs.size == sysModules) = false := by
    obtain ⟨o, _, _, ho, _⟩ := O.T.g
    have h1 := Heap.lt_size (a.S.base _ _ ho)
    have h2 : (3 : Nat) < s.heap.objs.size := h1
    refine beq_eq_false_iff_ne.mpr fun q => ?_
    have q : s.heap.objs.size = 1 := q
    (first | lia | omega)
  have W := a.S.alloc (ob := { cls := .type "dict", data := .dict #[] }) (o := .dict []) (tk := s.toks) rfl (fun _ _ q => by cases q) ⟨[], Heap.DictOf.new _, .nil, Nat.zero_le _, hsm⟩
  exact ⟨.ref _, _, rfl, W.1, W.2, hw _ (a.S.fresh_none)⟩
end ML
namespace ML
open PySem PySem.W PySem.Calls PyProof.Rows PySem.SeqAt
variable {C : Cfg} {Φ : Orac} {c : Ctx} {H H' H'' H1 : Heap} {s s' s1 s2 : Shared} {h h' h'' : PHeap} {A : Around} {env : Env} {m m' : Loc}
variable {Q : PV} {pos pos' : Pos} {e o i : Expr} {me mo mi : E}
theorem attr_ok {x : Str} {j : Nat} (O : C.Ok) (hb : bareCall o = false) (hx : attrIs j x) (ho : SndE C Φ c o mo) (a : At C c env A m H s) (hw : wpE Φ (.attr mo j) m H Q) :
    wpAny C.M A (eval (.Attribute o x pos) env) (PE C H s Q) NoE s := by
  simp only [w_var, w_lit, w_bop, w_neg, w_cmp, w_cmp2, w_and, w_or, w_not, w_call, w_meth, w_new, w_prim, w_attr, w_idx, w_slice, w_list, w_tup, w_comp] at hw
  refine Attribute_any_ (ho.then a hw fun ov s1 z H1 r1 a1 x1 q1 => ?_) (by rw [arm_eval_Attribute, base_of hb])
  unfold attrW at q1
  split at q1
  · rename_i p
    cases r1.ref
    split at q1
    · rename_i ci fs hp
      obtain ⟨v, hl, q⟩ := q1
      exact wpAny_ext (getAttr_ok O a1.S hp hx hl q) fun _ _ z => PE.ext x1 z
    · exact q1.elim
  · exact q1.elim
theorem sub_plain (hi : isSlice i = false) : ∀ o v : Value, subscripted i false o v = operate [o, v] (getItem o v) := by
  cases i <;> first | (intro o v; rfl) | cases hi
theorem index_ok (hi : isSlice i = false) (ho : SndE C Φ c o mo) (hii : SndE C Φ c i mi) (a : At C c env A m H s) (hw : wpE Φ (.idx mo mi) m H Q) :
    wpAny C.M A (eval (.Subscript o i pos) env) (PE C H s Q) NoE s := by
  simp only [w_var, w_lit, w_bop, w_neg, w_cmp, w_cmp2, w_and, w_or, w_not, w_call, w_meth, w_new, w_prim, w_attr, w_idx, w_slice, w_list, w_tup, w_comp] at hw
  refine Subscript_ (ho.then a hw fun ov s1 x H1 r1 a1 x1 q1 => hii.then a1 q1 fun iv s2 y H2 r2 a2 x2 q2 => ?_)
  refine wpAny_ext (idx_ok a2.S r1 r2 q2 (sub_plain hi)) fun v s3 z => ?_
  obtain ⟨mv, H3, r3, S3, x3, rfl, q3⟩ := z
  exact ⟨mv, H3, r3, S3, (x1.trans x2).trans x3, q3⟩
theorem not_debug (O : C.Ok) {x : Str} {f : Nat} (h : C.tab.fns.lookup x = some f ∨ C.tab.cls.lookup x = some f) : (x == ("__debug__" : Str)) = false := beq_eq_false_iff_ne.mpr fun q => by
  subst q
  rcases h with h | h
  · rw [O.nodbg.1] at h; cases h
  · rw [O.nodbg.2] at h; cases h
theorem fits_ok {f : Nat} (h : c.fits f = true) : ∃ l, c.tab.lv.lookup f = some l ∧ l < c.top := by
  unfold Ctx.fits at h
  split at h
  · rename_i l e; exact ⟨l, e, of_decide_eq_true h⟩
  · cases h
theorem trEs_star {f : Expr → Option E} {es : List Expr} {mes : List E} (h : trEs f es = some mes) : es.any isStar = false := by
  unfold trEs at h
  split at h
  · cases h
  · rename_i q
    simp only [Bool.or_eq_true, not_or, Bool.not_eq_true] at q
    exact q.1
noncomputable def isNotU (e : Expr) : Bool := if h : e.ctorIdx = 3 then Expr.UnaryOp.elim (motive_1 := fun _ => Bool) e h (fun op _ _ => op.ctorIdx == 1) else false
noncomputable def plainTest (e : Expr) : Bool := !(e.ctorIdx == 0 || e.ctorIdx == 5 || e.ctorIdx == 15 || isNotU e)
theorem isTrue_of {e : Expr} (h : plainTest e = true) : isTrue e env (eval e env) = (do let v ← eval e env; standAt e.pos; holding [v] (truthy v)) := by
  cases e with
  | UnaryOp op x p => cases op <;> first | rfl | cases h
  | _ => first | rfl | cases h
noncomputable def plainE (e : E) : Bool := !(e.ctorIdx == 4 || e.ctorIdx == 5 || e.ctorIdx == 6 || e.ctorIdx == 7 || e.ctorIdx == 8)
theorem wpT_plain {me : E} {Q : Bool → Heap → Prop} (h : plainE me = true) (hw : wpT Φ me m H Q) : wpE Φ me m H fun v H => truthW v H fun r => Q r H := by
  cases me <;> first | exact hw | cases h
theorem sndT_of {e : Expr} {me : E} (h1 : plainTest e = true) (h2 : plainE me = true) (h : SndE C Φ c e me) : SndT C Φ c e me := fun {env A m H s Q} a hw => tval_ok h a (wpT_plain h2 hw) (isTrue_of h1)
theorem prim_ok {f : Str} {p pos : Pos} {es : List Expr} {mes : List E} {q : Prim} (O : C.Ok) (hg : c.isGlob f = true) (hp : trPrim f es.length = some q) (hs : es.any isStar = false) (h : SndEs C Φ c es mes) (a : At C c env A m H s) (hw : wpE Φ (.prim q mes) m H Q) :
    wpAny C.M A (eval (.Call (.Name f p) es [] pos) env) (PE C H s Q) NoE s := by
  simp only [w_var, w_lit, w_bop, w_neg, w_cmp, w_cmp2, w_and, w_or, w_not, w_call, w_meth, w_new, w_prim, w_attr, w_idx, w_slice, w_list, w_tup, w_comp] at hw
  have key : ∀ (N : String), f ∈ bltNames → bootBuiltins f = some (.builtin N) → (∀ {s1 : Shared} {H1 : Heap} {vs : List Value} {xs : List V}, A.handled = none → StH C H1 s1 → All2 RepV vs xs → primW q xs H1 Q → wpAny C.M A (call (.builtin N) vs []) (PE C H1 s1 Q) NoE s1) → wpAny C.M A (eval (.Call (.Name f p) es [] pos) env) (PE C H s Q) NoE s := by
    intro N h1 h2 h3
    exact callB_ok O h1 h2 hg hs h a hw fun vs s1 xs H1 r a1 x1 q1 => wpAny_ext (h3 a1.ao.hd a1.S r q1) fun _ _ z => PE.ext x1 z
  unfold trPrim at hp
  split at hp
  · rename_i e; simp only [Bool.and_eq_true, beq_iff_eq] at e; cases hp; cases e.1; exact key "len" (by decide) rfl len_call
  split at hp
  · rename_i e; simp only [Bool.and_eq_true, beq_iff_eq] at e; cases hp; cases e.1; exact key "max" (by decide) rfl max_call
  split at hp
  · rename_i e; simp only [Bool.and_eq_true, beq_iff_eq] at e; cases hp; cases e.1
    exact callT_ok (N := "list") O (by decide) rfl hg hs h a hw fun vs s1 xs H1 r a1 x1 q1 => wpAny_ext (copy_call a1.S r q1) fun _ _ z => PE.ext x1 z
  split at hp
  · rename_i e; simp only [Bool.and_eq_true, beq_iff_eq] at e; cases hp; cases e.1; exact key "sorted" (by decide) rfl sort_call
  · cases hp
theorem gName_ok {c : Ctx} {e : Expr} {y : Str} (h : gName c e = some y) : ∃ p, e = .Name y p ∧ c.isGlob y = true := by
  unfold gName at h
  split at h
  · rename_i x hx
    split at h
    · rename_i q; cases h; obtain ⟨p, rfl⟩ := nameOf_ok hx; exact ⟨p, rfl, q⟩
    · cases h
  · cases h
theorem trPrimC_ok {tr : Expr → Option E} {f : Str} {p pos : Pos} {es : List Expr} (O : C.Ok) (hg : c.isGlob f = true) (hf : ∀ e me, tr e = some me → SndE C (phi C) c e me) (h : trPrimC c tr f es = some me) :
    SndE C (phi C) c (.Call (.Name f p) es [] pos) me ∧ plainE me = true := by
  unfold trPrimC at h
  split at h
  · rename_i q hq
    simp only [Option.bind_eq_bind, Option.bind_eq_some_iff, Option.some.injEq] at h
    obtain ⟨mes, h1, rfl⟩ := h
    exact ⟨fun {env A m H s Q} a hw => prim_ok O hg hq (trEs_star h1) (items_ok hf h1) a hw, rfl⟩
  · cases h
theorem trCall_ok {tr : Expr → Option E} {f : Str} {p pos : Pos} {es : List Expr} (O : C.Ok) (ht : c.tab = C.tab) (hf : ∀ e me, tr e = some me → SndE C (phi C) c e me) (h : trCall c tr f es = some me) :
    SndE C (phi C) c (.Call (.Name f p) es [] pos) me ∧ plainE me = true := by
  unfold trCall at h
  split at h
  · cases h
  rename_i hg
  have hg : c.isGlob f = true := by simpa using hg
  split at h
  · rename_i i hi
    rw [ht] at hi
    split at h
    · rename_i hfit
      simp only [Option.bind_eq_bind, Option.bind_eq_some_iff, Option.some.injEq] at h
      obtain ⟨mes, h1, rfl⟩ := h
      obtain ⟨l, hl, hlt⟩ := fits_ok hfit
      rw [ht] at hl
      exact ⟨fun {env A m H s Q} a hw => call_ok O (trEs_star h1) (items_ok hf h1) hg (not_debug O (.inl hi)) hi hl hlt a hw, rfl⟩
    · cases h
  · split at h
    · rename_i i hi
      rw [ht] at hi
      split at h
      · rename_i hfit
        simp only [Option.bind_eq_bind, Option.bind_eq_some_iff, Option.some.injEq] at h
        obtain ⟨mes, h1, rfl⟩ := h
        obtain ⟨l, hl, hlt⟩ := fits_ok hfit
        rw [ht] at hl
        obtain ⟨Ca, hc⟩ := O.hasCls _ _ hi
        exact ⟨fun {env A m H s Q} a hw => new_ok O (trEs_star h1) (items_ok hf h1) hg (not_debug O (.inr hi)) hi hc hl hlt a hw, rfl⟩
      · cases h
    · split at h
      · rename_i hisi
        cases beq_iff_eq.mp hisi
        unfold trIsiC at h
        match es, h with
        | [a, b], h =>
          dsimp only [trIsiC] at h
          split at h
          · rename_i y hy
            obtain ⟨py, rfl, hgy⟩ := gName_ok hy
            split at h
            · cases h
            · rename_i hsa
              split at h
              · rename_i q hq
                simp only [Option.bind_eq_bind, Option.bind_eq_some_iff, Option.some.injEq] at h
                obtain ⟨ma, h1, rfl⟩ := h
                cases hq
              · split at h
                · rename_i hcy
                  obtain ⟨hc1, hc2⟩ := Bool.and_eq_true_iff.mp hcy
                  cases beq_iff_eq.mp hc1
                  simp only [Option.bind_eq_bind, Option.bind_eq_some_iff, Option.some.injEq] at h
                  obtain ⟨ma, h1, rfl⟩ := h
                  rw [ht] at hc2
                  exact ⟨fun {env A m H s Q} a hw => isc_ok O hg hgy (by simpa using hsa) (hf _ _ h1) (eq_of_beq hc2) a hw, rfl⟩
                · cases h
          · cases h
        | [], h => cases h
        | [_], h => cases h
        | _ :: _ :: _ :: _, h => cases h
      · exact trPrimC_ok O hg hf h
end ML
namespace ML
open PySem PySem.W PySem.Calls PyProof.Rows PySem.SeqAt
variable {C : Cfg} {Φ : Orac} {c : Ctx} {H H' H'' H1 : Heap} {s s' s1 s2 : Shared} {A : Around} {env : Env} {m m' : Loc}
end ML
namespace ML
open PySem PySem.W PySem.Calls PyProof.Rows PySem.SeqAt
variable {C : Cfg}
noncomputable def notSetE (tr : Expr → Option E) : Prop := ∀ e me, tr e = some me → notSet e = true
theorem trE_set {n : Nat} {c : Ctx} {e : Expr} {me : E} (h : trE n c e = some me) : notSet e = true := by
  cases n with
  | zero => cases h
  | succ n => cases e <;> first | rfl | cases h
theorem trE_star {n : Nat} {c : Ctx} {e : Expr} {me : E} (h : trE n c e = some me) : isSlice e = false := by
  cases n with
  | zero => cases h
  | succ n => cases e <;> first | rfl | cases h
theorem folded_of {e : Expr} (h : notSet e = true) : ∀ (env : Env) x, foldedSetIterable e env x = pure x := by
  cases e <;> first | (intro env x; rfl) | cases h
theorem trRange_ok {c : Ctx} {tr : Expr → Option E} {args : List Expr} {p q : Pos} {src : Src} (O : C.Ok) (hg : c.isGlob "range" = true) (hf : ∀ e me, tr e = some me → SndE C (phi C) c e me) (h : trRange tr args = some src) : SndSrc C (phi C) c (.Call (.Name "range" p) args [] q) src := by
  unfold trRange at h
  split at h
  · rename_i n
    split at h
    · cases h
    · rename_i hs
      simp only [Option.bind_eq_bind, Option.bind_eq_some_iff, Option.some.injEq] at h
      obtain ⟨mn, h1, rfl⟩ := h
      exact src_rng1 O hg (by simpa using hs) (hf _ _ h1)
  · rename_i a b st
    split at h
    · cases h
    · rename_i hs
      simp only [Bool.or_eq_true, not_or, Bool.not_eq_true] at hs
      split at h
      · rename_i h3
        simp only [Option.bind_eq_bind, Option.bind_eq_some_iff, Option.some.injEq] at h
        obtain ⟨ma, h1, mb, h2, rfl⟩ := h
        exact src_rng3 O hg hs.1 hs.2 h3 (hf _ _ h1) (hf _ _ h2)
      · cases h
  · cases h
theorem trSrc_ok {c : Ctx} {tr : Expr → Option E} {e : Expr} {src : Src} (O : C.Ok) (hf : ∀ e me, tr e = some me → SndE C (phi C) c e me) (h : trSrc c tr e = some src) : SndSrc C (phi C) c e src ∧ notSet e = true := by
  unfold trSrc at h
  split at h
  · rename_i as hr
    unfold rangeArgs at hr
    split at hr
    · rename_i x hx
      cases callOf_ok hx
      obtain ⟨g, args, kws, q⟩ := x
      split at hr
      · rename_i hk
        obtain ⟨h1, h2⟩ := Bool.and_eq_true_iff.mp hk
        cases isNil_ok h1
        cases hr
        obtain ⟨p, e1, hg⟩ := gName_ok (eq_of_beq h2)
        replace e1 : g = .Name "range" p := e1
        subst e1
        exact ⟨fun {env A m H s Q R} a hw k => trRange_ok O hg hf h a hw k, rfl⟩
      · cases hr
    · cases hr
  · split at h
    · cases h
    · rename_i hs
      simp only [Option.bind_eq_bind, Option.bind_eq_some_iff, Option.some.injEq] at h
      obtain ⟨me, h3, rfl⟩ := h
      exact ⟨src_of (hf _ _ h3), by unfold notSet; simpa using hs⟩
noncomputable abbrev Both (C : Cfg) (c : Ctx) (e : Expr) (me : E) : Prop := SndE C (phi C) c e me ∧ SndT C (phi C) c e me
theorem both {c : Ctx} {e : Expr} {me : E} (h1 : plainTest e = true) (h2 : plainE me = true) (h3 : SndE C (phi C) c e me) : Both C c e me := ⟨h3, sndT_of h1 h2 h3⟩
section
variable {c : Ctx} {f : Expr → Option E} {e l r o i x : Expr} {me : E} {p : Pos}
theorem const_ok {k : Const} {n : Nat} (O : C.Ok) (ht : c.tab = C.tab) (h : trConst c k = some me) : Both C c (.Constant k n p) me := by
  refine both rfl ?_ fun {env A m H s Q} a hw => lit_ok (by rw [ht]; exact O.sts) h a hw
  unfold trConst at h
  split at h <;> first | (cases h; rfl) | (cases h; done) | (obtain ⟨_, _, rfl⟩ := Option.map_eq_some_iff.mp h; rfl)
theorem var_ok {y : Str} (h : trVar c y = some me) : Both C c (.Name y p) me := by
  unfold trVar at h
  split at h
  · rename_i k hk
    split at h
    · rename_i hv
      simp only [Bool.and_eq_true, Bool.not_eq_true', Bool.not_eq_eq_eq_not, Bool.not_true] at hv
      obtain ⟨i, hi, rfl⟩ := Option.map_eq_some_iff.mp h
      exact both rfl rfl fun {env A m H s Q} a hw => name_ok hv.1.2 hv.2 hk hv.1.1 hi a hw
    · cases h
  · cases h
theorem bin_ok {op : Operator} (hE : ∀ e me, f e = some me → SndE C (phi C) c e me) (h : trBin f l op r = some me) : Both C c (.BinOp l op r p) me := by
  simp only [trBin, Option.bind_eq_bind, Option.bind_eq_some_iff, Option.some.injEq] at h
  obtain ⟨mop, h0, ml, h1, mr, h2, rfl⟩ := h
  exact both rfl rfl fun {env A m H s Q} a hw => binop_ok (hE _ _ h1) (hE _ _ h2) h0 a hw
theorem un_ok {op : UnaryOp} (hE : ∀ e me, f e = some me → SndE C (phi C) c e me) (hT : ∀ e me, f e = some me → SndT C (phi C) c e me) (h : trUn f op x = some me) : Both C c (.UnaryOp op x p) me := by
  unfold trUn at h
  split at h
  · simp only [Option.bind_eq_bind, Option.bind_eq_some_iff, Option.some.injEq] at h
    obtain ⟨mx, h1, rfl⟩ := h
    exact ⟨fun {env A m H s Q} a hw => not_ok (hE _ _ h1) a hw, fun {env A m H s Q} a hw => tnot_ok (hT _ _ h1) a hw⟩
  · simp only [Option.bind_eq_bind, Option.bind_eq_some_iff, Option.some.injEq] at h
    obtain ⟨mx, h1, rfl⟩ := h
    exact both rfl rfl fun {env A m H s Q} a hw => usub_ok (hE _ _ h1) a hw
  · cases h
theorem cmp1_ok {op : CmpOp} (O : C.Ok) (hE : ∀ e me, f e = some me → SndE C (phi C) c e me) (hS : ∀ e me, f e = some me → notSet e = true) (h : trCmp1 c f l op r = some me) : Both C c (.Compare l [op] [r] p) me := by
  unfold trCmp1 at h
  skip
  · simp only [Option.bind_eq_bind, Option.bind_eq_some_iff, Option.some.injEq] at h
    obtain ⟨ml, h1, mr, h2, rfl⟩ := h
    exact ⟨fun {env A m H s Q} a hw => cmp_expr (hE _ _ h1) (hE _ _ h2) (hS _ _ h2) a hw, fun {env A m H s Q} a hw => cmp_test (hE _ _ h1) (hE _ _ h2) (hS _ _ h2) a hw⟩
theorem cmps_ok {ops : List CmpOp} {rs : List Expr} (O : C.Ok) (hE : ∀ e me, f e = some me → SndE C (phi C) c e me) (hS : ∀ e me, f e = some me → notSet e = true) (h : trCmps c f l ops rs = some me) : Both C c (.Compare l ops rs p) me := by
  unfold trCmps at h
  split at h
  · exact cmp1_ok O hE hS h
  · cases h
theorem trMeth_ok {name : Str} {args : List Expr} {ap cp : Pos} (O : C.Ok) (ht : c.tab = C.tab) (hE : ∀ e me, f e = some me → SndE C (phi C) c e me) (h : trMeth c f o name args (ap.endLine == cp.line) = some me) : Both C c (.Call (.Attribute o name ap) args [] cp) me := by
  unfold trMeth at h
  split at h
  · cases h
  · rename_i hb
    simp only [Bool.or_eq_true, not_or, Bool.not_eq_true, Bool.not_eq_true', Bool.not_eq_false] at hb
    split at h
    · rename_i f hf
      split at h
      · rename_i hfit
        simp only [Option.bind_eq_bind, Option.bind_eq_some_iff, Option.some.injEq] at h
        obtain ⟨mo, h1, mes, h2, rfl⟩ := h
        obtain ⟨l, hl, hlt⟩ := fits_ok hfit
        rw [ht] at hl hf
        exact both rfl rfl fun {env A m H s Q} a hw => meth_ok O hb.1 (by simpa using hb.2) (trEs_star h2) (trEs_len h2) (hE _ _ h1) (items_ok hE h2) hf hl hlt a hw
      · cases h
    · cases h
theorem calls_ok {g : Expr} {args : List Expr} {cp : Pos} (O : C.Ok) (ht : c.tab = C.tab) (hE : ∀ e me, f e = some me → SndE C (phi C) c e me) (h : trCalls c f cp args g = some me) : Both C c (.Call g args [] cp) me := by
  unfold trCalls at h
  split at h
  · rename_i y hy
    obtain ⟨q, rfl⟩ := nameOf_ok hy
    obtain ⟨h1, h2⟩ := trCall_ok (p := q) (pos := cp) O ht hE h
    exact both rfl h2 h1
  · split at h
    · rename_i x hx
      cases attrOf_ok hx
      exact trMeth_ok O ht hE h
    · cases h
theorem attrE_ok {y : Str} (O : C.Ok) (ht : c.tab = C.tab) (hE : ∀ e me, f e = some me → SndE C (phi C) c e me) (h : trAttr c f o y = some me) : Both C c (.Attribute o y p) me := by
  unfold trAttr at h
  split at h
  · cases h
  · rename_i hb
    split at h
    · rename_i i hi
      simp only [Option.bind_eq_bind, Option.bind_eq_some_iff, Option.some.injEq] at h
      obtain ⟨mo, h1, rfl⟩ := h
      rw [ht, O.ats] at hi
      exact both rfl rfl fun {env A m H s Q} a hw => attr_ok O (by simpa using hb) hi (hE _ _ h1) a hw
    · cases h
theorem sub_ok (hE : ∀ e me, f e = some me → SndE C (phi C) c e me) (hS : ∀ e me, f e = some me → isSlice e = false) (h : trSub f o i = some me) : Both C c (.Subscript o i p) me := by
  unfold trSub at h
  split at h
  · rename_i x hx
    obtain ⟨q, rfl⟩ := sliceOf_ok hx
    obtain ⟨lo, hi, st⟩ := x
    cases st with
    | some _ => cases h
    | none =>
      replace h : (do some (.slice (← f o) (← trO f lo) (← trO f hi)) : Option E) = some me := h
      simp only [Option.bind_eq_bind, Option.bind_eq_some_iff, Option.some.injEq] at h
      obtain ⟨mo, h1, ml, h2, mh, h3, rfl⟩ := h
      exact both rfl rfl fun {env A m H s Q} a hw => slice_ok hE (hE _ _ h1) h2 h3 a hw
  · simp only [Option.bind_eq_bind, Option.bind_eq_some_iff, Option.some.injEq] at h
    obtain ⟨mo, h1, mi, h2, rfl⟩ := h
    exact both rfl rfl fun {env A m H s Q} a hw => index_ok (hS _ _ h2) (hE _ _ h1) (hE _ _ h2) a hw
theorem cond_ok {ifs : List Expr} {mc : Option E} (hT : ∀ e me, f e = some me → SndT C (phi C) c e me) (h : trCond f ifs = some mc) : SndC C (phi C) c ifs mc := by
  unfold trCond at h
  split at h
  · cases h; exact .inl ⟨rfl, rfl⟩
  · simp only [Option.bind_eq_bind, Option.bind_eq_some_iff, Option.some.injEq] at h
    obtain ⟨mt, h4, rfl⟩ := h
    exact .inr ⟨_, mt, rfl, rfl, hT _ _ h4⟩
  · cases h
end
theorem comps_get {c : Ctx} {f : Ctx → Expr → Option E} {elt : Expr} {sc : Scope} {gs : List Comprehension} {me : E} (O : C.Ok) (hf : ∀ c' e me, c'.tab = c.tab → f c' e = some me → Both C c' e me) (h : trComps c f elt sc gs = some me) :
    ∃ x px iter ifs melt src mc, gs = [⟨.Name x px, iter, ifs, 0⟩] ∧ me = .comp melt 1 src mc ∧ CompOk c sc x ∧ SndSrc C (phi C) c iter src ∧ (∀ (env : Env) x, foldedSetIterable iter env x = pure x) ∧ SndE C (phi C) (c.inner1 sc x) elt melt ∧ SndC C (phi C) (c.inner1 sc x) ifs mc := by
  match gs, h with
  | [], h => cases h
  | _ :: _ :: _, h => cases h
  | [⟨t, iter, ifs, n⟩], h =>
    replace h : (if n == 0 then trComp1 c f elt sc iter ifs t else none) = some me := h
    split at h
    · rename_i hn
      cases eq_of_beq hn
      unfold trComp1 at h
      split at h
      · rename_i x hx
        obtain ⟨px, rfl⟩ := nameOf_ok hx
        split at h
        · rename_i hk
          simp only [Option.bind_eq_bind, Option.bind_eq_some_iff, Option.some.injEq] at h
          obtain ⟨melt, h1, src, h2, mc, h3, rfl⟩ := h
          obtain ⟨hsrc, hns⟩ := trSrc_ok O (fun e me h => (hf c e me rfl h).1) h2
          exact ⟨x, px, iter, ifs, melt, src, mc, rfl, rfl, compOk_ok hk, hsrc, folded_of hns, (hf (c.inner1 sc x) _ _ rfl h1).1, cond_ok (fun e me h => (hf (c.inner1 sc x) e me rfl h).2) h3⟩
        · cases h
      · cases h
    · cases h
theorem trE_ok (O : C.Ok) : ∀ (n : Nat) (c : Ctx) (e : Expr) (me : E), c.tab = C.tab → trE n c e = some me → Both C c e me := by
  intro n
  induction n with
  | zero => intro c e me _ h; cases h
  | succ n ih =>
    intro c e me ht h
    have hE : ∀ e me, trE n c e = some me → SndE C (phi C) c e me := fun e me h => (ih c e me ht h).1
    have hT : ∀ e me, trE n c e = some me → SndT C (phi C) c e me := fun e me h => (ih c e me ht h).2
    cases e with
    | Constant k n' p => exact const_ok O ht h
    | Name x p => exact var_ok h
    | BinOp l op r p => exact bin_ok hE h
    | UnaryOp op x p => exact un_ok hE hT h
    | BoolOp op vs p => exact ⟨bool_expr hE h, fun {env A m H s Q} a hw => bool_test hT h a hw⟩
    | Compare l ops rs p => exact cmps_ok O hE (fun _ _ => trE_set) h
    | Call g args kws cp => cases kws with
      | nil => exact calls_ok O ht hE h
      | cons _ _ => cases h
    | Attribute o a p => exact attrE_ok O ht hE h
    | Subscript o i p => exact sub_ok hE (fun _ _ => trE_star) h
    | List es p =>
      replace h : (do some (.list (← trEs (trE n c) es)) : Option E) = some me := h
      simp only [Option.bind_eq_bind, Option.bind_eq_some_iff, Option.some.injEq] at h
      obtain ⟨mes, h1, rfl⟩ := h
      exact both rfl rfl fun {env A m H s Q} a hw => list_ok (trEs_len h1) (items_ok hE h1) a hw
    | Tuple es k p =>
      replace h : (do some (.tup (← trEs (trE n c) es)) : Option E) = some me := h
      simp only [Option.bind_eq_bind, Option.bind_eq_some_iff, Option.some.injEq] at h
      obtain ⟨mes, h1, rfl⟩ := h
      exact both rfl rfl fun {env A m H s Q} a hw => tuple_ok (trEs_len h1) (items_ok hE h1) a hw
    | Dict ks vs p =>
      match ks, vs, h with
      | [], [], h => cases h; exact both rfl rfl fun {env A m H s Q} a hw => dict0_ok O a hw
      | _ :: _, _, h => cases h
      | [], _ :: _, h => cases h
    | ListComp elt gs sc p =>
      obtain ⟨x, px, iter, ifs, melt, src, mc, rfl, rfl, K, hsrc, hfo, helt, hc⟩ := comps_get O (fun c' e me h1 h2 => ih c' e me (h1.trans ht) h2) h
      exact both rfl rfl fun {env A m H s Q} a hw => comp_expr K hsrc hfo helt hc a hw
    | _ => cases h
theorem swaps_no {e : Expr} (h : isComp e = false) (t : Option Expr) (line : Nat) (env : Env) : swapsWith e t line env = pure false := by
  cases e <;> first | rfl | cases h
section
variable {c : Ctx} {p : Pos}
theorem trSetIdx_ok {t v : Expr} {ms : S} (O : C.Ok) (ht : c.tab = C.tab) (h : trSetIdx c v t = some ms) : SndS C (phi C) c (.Assign [t] v p) ms := by
  have hE : ∀ e me, trE deep c e = some me → SndE C (phi C) c e me := fun e me h => (trE_ok O deep c e me ht h).1
  unfold trSetIdx at h
  split at h
  · rename_i x hx
    obtain ⟨q, rfl⟩ := subOf_ok hx
    split at h
    · cases h
    · rename_i hc
      simp only [Bool.or_eq_true, not_or, Bool.not_eq_true] at hc
      simp only [Option.bind_eq_bind, Option.bind_eq_some_iff, Option.some.injEq] at h
      obtain ⟨mo, h1, mi, h2, mv, h3, rfl⟩ := h
      intro env A m H s Q a hw
      exact setidx_ok hc.1 hc.2 (hE _ _ h3) (hE _ _ h1) (hE _ _ h2) a hw
  · cases h
theorem trSetAttr_ok {v o : Expr} {x : Str} {px : Pos} {ms : S} (O : C.Ok) (ht : c.tab = C.tab) (h : trSetAttr c v ⟨o, x, px⟩ = some ms) : SndS C (phi C) c (.Assign [.Attribute o x px] v p) ms := by
  have hE : ∀ e me, trE deep c e = some me → SndE C (phi C) c e me := fun e me h => (trE_ok O deep c e me ht h).1
  unfold trSetAttr at h
  split at h
  · cases h
  · rename_i hc
    split at h
    · rename_i i hi
      simp only [Option.bind_eq_bind, Option.bind_eq_some_iff, Option.some.injEq] at h
      obtain ⟨mo, h1, mv, h2, rfl⟩ := h
      rw [ht, O.ats] at hi
      intro env A m H s Q a hw
      exact setattr_ok O hi (hE _ _ h2) (hE _ _ h1) (by simpa using hc) a hw
    · cases h
theorem trAssign_ok {t v : Expr} {ms : S} (O : C.Ok) (ht : c.tab = C.tab) (h : trAssign c v t = some ms) : SndS C (phi C) c (.Assign [t] v p) ms := by
  unfold trAssign at h
  split at h
  · rename_i x hx
    obtain ⟨px, rfl⟩ := nameOf_ok hx
    simp only [Option.bind_eq_bind, Option.bind_eq_some_iff, Option.some.injEq] at h
    obtain ⟨i, h0, mv, h1, rfl⟩ := h
    rcases Bool.eq_false_or_eq_true (isComp v) with hc | hc
    · cases v <;> first | (cases h1; done) | (cases hc; done) | skip
      obtain ⟨x, px, iter, ifs, melt, src, mc, rfl, rfl, K, hsrc, hfo, helt, hc⟩ := comps_get O (fun c' e me h1 h2 => trE_ok O 39 c' e me (h1.trans ht) h2) h1
      intro env A m H s Q a hw
      exact comp_assign h0 K hsrc hfo helt hc a hw
    · intro env A m H s Q a hw
      exact assign_ok h0 (trE_ok O deep c v mv ht h1).1 (fun env => swaps_no hc _ _ env) a hw
  · split at h
    · rename_i x hx
      cases attrOf_ok hx
      exact fun {env A m H s Q} a hw => trSetAttr_ok O ht h a hw
    · exact fun {env A m H s Q} a hw => trSetIdx_ok O ht h a hw
theorem trDel_ok {ts : List Expr} {ms : S} (O : C.Ok) (ht : c.tab = C.tab) (h : trDel c ts = some ms) : SndS C (phi C) c (.Delete ts p) ms := by
  unfold trDel at h
  split at h
  · rename_i t ht'
    cases one_ok ht'
    split at h
    · rename_i x hx
      obtain ⟨q, rfl⟩ := subOf_ok hx
      split at h
      · cases h
      · rename_i hc
        simp only [Option.bind_eq_bind, Option.bind_eq_some_iff, Option.some.injEq] at h
        obtain ⟨mo, h1, mi, h2, rfl⟩ := h
        intro env A m H s Q a hw
        exact delidx_ok (by simpa using hc) (trE_ok O deep c _ _ ht h1).1 (trE_ok O deep c _ _ ht h2).1 a hw
    · cases h
  · cases h
theorem appendOf_ok {v : Expr} {x : AppX} (h : appendOf v = some x) : ∃ ap cp, v = .Call (.Attribute x.o "append" ap) [x.e] [] cp ∧ x.fit = (ap.endLine == cp.line) := by
  unfold appendOf at h
  split at h
  · rename_i y hy
    cases callOf_ok hy
    obtain ⟨g, args, kws, cp⟩ := y
    split at h
    · rename_i hk
      cases isNil_ok hk
      split at h
      · rename_i a ha
        cases attrOf_ok ha
        obtain ⟨o, nm, ap⟩ := a
        split at h
        · rename_i hn
          cases eq_of_beq hn
          obtain ⟨e, h1, rfl⟩ := Option.map_eq_some_iff.mp h
          cases one_ok h1
          exact ⟨ap, cp, rfl, rfl⟩
        · cases h
      · cases h
    · cases h
  · cases h
theorem trAppend_ok {o e : Expr} {ap cp : Pos} {ms : S} (O : C.Ok) (ht : c.tab = C.tab) (h : trAppend c o e (ap.endLine == cp.line) = some ms) : SndS C (phi C) c (.Expr (.Call (.Attribute o "append" ap) [e] [] cp) p) ms := by
  unfold trAppend at h
  split at h
  · cases h
  · rename_i hc
    simp only [Bool.or_eq_true, not_or, Bool.not_eq_true, Bool.not_eq_true', Bool.not_eq_false] at hc
    simp only [Option.bind_eq_bind, Option.bind_eq_some_iff, Option.some.injEq] at h
    obtain ⟨mo, h1, me, h2, rfl⟩ := h
    intro env A m H s Q a hw
    exact append_ok hc.1.1 hc.1.2 (by simpa using hc.2) (trE_ok O deep c _ _ ht h1).1 (trE_ok O deep c _ _ ht h2).1 a hw
theorem trExprS_ok {v : Expr} {ms : S} (O : C.Ok) (ht : c.tab = C.tab) (h : trExprS c v = some ms) : SndS C (phi C) c (.Expr v p) ms := by
  unfold trExprS at h
  split at h
  · cases h
  · rename_i hc
    simp only [Option.bind_eq_bind, Option.bind_eq_some_iff, Option.some.injEq] at h
    obtain ⟨me, h1, rfl⟩ := h
    intro env A m H s Q a hw
    exact expr_ok (trE_ok O deep c _ me ht h1).1 (by simpa using hc) a hw
theorem trRet_ok {e : Option Expr} {ms : S} (O : C.Ok) (ht : c.tab = C.tab) (h : trRet c e = some ms) : SndS C (phi C) c (.Return e p) ms := by
  cases e with
  | none => cases h; intro env A m H s Q a hw; exact ret0_ok a hw
  | some e =>
    simp only [trRet, Option.bind_eq_bind, Option.bind_eq_some_iff, Option.some.injEq] at h
    obtain ⟨me, h1, rfl⟩ := h
    intro env A m H s Q a hw
    exact ret_ok (trE_ok O deep c _ me ht h1).1 a hw
theorem trFor_ok {t iter : Expr} {b : List Stmt} {ob : Option (List S)} {ms : S} (O : C.Ok) (ht : c.tab = C.tab) (hB : ∀ mb, ob = some mb → SndSs C (phi C) c b mb) (h : trForS c iter ob t = some ms) : SndS C (phi C) c (.For t iter b [] p) ms := by
  unfold trForS at h
  split at h
  · rename_i x hx
    obtain ⟨px, rfl⟩ := nameOf_ok hx
    simp only [Option.bind_eq_bind, Option.bind_eq_some_iff, Option.some.injEq] at h
    obtain ⟨i, h0, src, h1, mb, h2, rfl⟩ := h
    obtain ⟨hsrc, hns⟩ := trSrc_ok O (fun e me h => (trE_ok O deep c e me ht h).1) h1
    intro env A m H s Q a hw
    exact for_ok h0 hsrc (hB _ h2) (folded_of hns) a hw
  · cases h
end
theorem trS_ok (O : C.Ok) : ∀ (n : Nat) (c : Ctx) (st : Stmt) (ms : S), c.tab = C.tab → trS n c st = some ms → SndS C (phi C) c st ms := by
  intro n
  induction n with
  | zero => intro c st ms _ h; cases h
  | succ n ih =>
    intro c st ms ht h
    have hT : ∀ e me, trE deep c e = some me → SndT C (phi C) c e me := fun e me h => (trE_ok O deep c e me ht h).2
    have hB : ∀ {sts : List Stmt} {mss : List S}, mapO (trS n c) sts = some mss → SndSs C (phi C) c sts mss := fun h => execs_ok (fun st ms h => ih c st ms ht h) h
    cases st with
    | Assign ts v p =>
      match ts, h with
      | [t], h => exact fun {env A m H s Q} a hw => trAssign_ok O ht h a hw
      | [], h => cases h
      | _ :: _ :: _, h => cases h
    | Delete ts p => exact fun {env A m H s Q} a hw => trDel_ok O ht h a hw
    | Expr v p =>
      replace h : (match appendOf v with | some x => trAppend c x.o x.e x.fit | none => trExprS c v) = some ms := h
      split at h
      · rename_i x ha
        obtain ⟨ap, cp, rfl, e1⟩ := appendOf_ok ha
        rw [e1] at h
        exact fun {env A m H s Q} a hw => trAppend_ok O ht h a hw
      · exact fun {env A m H s Q} a hw => trExprS_ok O ht h a hw
    | Return e p => exact fun {env A m H s Q} a hw => trRet_ok O ht h a hw
    | If t a b p =>
      replace h : (do some (.ite (← trE deep c t) (← mapO (trS n c) a) (← mapO (trS n c) b)) : Option S) = some ms := h
      simp only [Option.bind_eq_bind, Option.bind_eq_some_iff, Option.some.injEq] at h
      obtain ⟨mt, h1, ma, h2, mb, h3, rfl⟩ := h
      intro env A m H s Q a hw
      exact if_ok (hT _ _ h1) (hB h2) (hB h3) a hw
    | While t b e p =>
      cases e with
      | nil =>
        replace h : (do some (.whl (← trE deep c t) (← mapO (trS n c) b)) : Option S) = some ms := h
        simp only [Option.bind_eq_bind, Option.bind_eq_some_iff, Option.some.injEq] at h
        obtain ⟨mt, h1, ma, h2, rfl⟩ := h
        intro env A m H s Q a hw
        exact while_ok (hT _ _ h1) (hB h2) a hw
      | cons _ _ => cases h
    | For t iter b e p =>
      cases e with
      | nil => exact fun {env A m H s Q} a hw => trFor_ok O ht (fun mb h => hB h) h a hw
      | cons _ _ => cases h
    | Break p => cases h; intro env A m H s Q a hw; exact brk_ok a hw
    | Pass p => cases h; intro env A m H s Q a hw; exact pass_ok a hw
    | _ => cases h
end ML
namespace ML
open PySem PySem.W PySem.Calls PyProof.Rows PySem.SeqAt
variable {C : Cfg} {Φ : Orac} {c : Ctx} {H H' H'' H1 : Heap} {s s' s1 s2 : Shared} {h h' h'' : PHeap} {A : Around} {env : Env} {m m' : Loc}
theorem zip_lookup : ∀ {ns : List Str} {vs : List Value}, ns.Nodup → ns.length = vs.length → ns.filterMap (fun n => ((ns.zip vs).lookup n).map (n, ·)) = ns.zip vs := by
  have key : ∀ (ns : List Str) (vs : List Value) (pre : List (Str × Value)), ns.Nodup → ns.length = vs.length → (∀ n ∈ ns, pre.lookup n = none) → ns.filterMap (fun n => ((pre ++ ns.zip vs).lookup n).map (n, ·)) = ns.zip vs := by
    intro ns
    induction ns with
    | nil => intro vs pre _ _ _; rfl
    | cons n ns ih =>
      intro vs pre hn hl hp
      cases vs with
      | nil => cases hl
      | cons v vs =>
        rw [List.nodup_cons] at hn
        have e : (pre ++ (n :: ns).zip (v :: vs)).lookup n = some v := by
          rw [List.lookup_append, hp n (.head _)]
          simp [List.zip_cons_cons, List.lookup]
        rw [List.filterMap_cons, e]
        simp only [Option.map_some, List.zip_cons_cons]
        congr 1
        have := ih vs (pre ++ [(n, v)]) hn.2 (by simpa using hl) (fun k hk => by
          rw [List.lookup_append, hp k (.tail _ hk)]
          simp only [List.lookup, Option.none_or]
          have : (k == n) = false := beq_eq_false_iff_ne.mpr fun q => hn.1 (q ▸ hk)
          rw [this])
        simpa using this
  intro ns vs h1 h2
  simpa using key ns vs [] h1 h2 (fun _ _ => rfl)
theorem bind_ok {fd : FuncData} {vals : List Value} (h0 : fd.params.posonlyargs = []) (h1 : fd.params.vararg = none) (h2 : fd.params.kwonlyargs = []) (h3 : fd.params.kwarg = none) (hd : fd.defaults = .none)
    (hn : (fd.params.args.map (·.arg)).Nodup) (hl : vals.length = (fd.params.args.map (·.arg)).length) : bindArgs fd ⟨vals, []⟩ = pure ((fd.params.args.map (·.arg)).zip vals) := by
  obtain ⟨f1, f2, ⟨g1, g2, g3, g4, g5, g6, g7⟩, f4, f5, f6, f7, f8, f9, f10, f11⟩ := fd
  dsimp only at h0 h1 h2 h3 hd hn hl ⊢
  subst h0
  subst h1
  subst h2
  subst h3
  subst hd
  have z := zip_lookup hn hl.symm
  have hm : List.filter (fun n => (List.lookup n ((g2.map (·.arg)).zip vals)).isNone) (g2.map (·.arg)) = [] := by
    rw [List.filter_eq_nil_iff]
    intro n hmem
    rw [← List.map_fst_zip (l₁ := g2.map (·.arg)) (l₂ := vals) (by (first | lia | omega))] at hmem
    obtain ⟨⟨n', v⟩, hp, rfl⟩ := List.mem_map.mp hmem
    obtain ⟨b, hb⟩ := lookup_some hp
    rw [hb]; exact Bool.false_ne_true
  unfold bindArgs
  refine (if_neg ?_).trans ?_
  · show ¬ ((decide ((g2.map (·.arg)).length < vals.length) && true) = true)
    rw [hl, decide_eq_false (Nat.lt_irrefl _)]; exact Bool.false_ne_true
  refine (if_neg ?_).trans ?_
  · show ¬ ((!(List.filter (fun n => (List.lookup n ((g2.map (·.arg)).zip vals)).isNone) ((g2.map (·.arg)).take ((g2.map (·.arg)).length - (List.drop (0 - (g2.map (·.arg)).length) ([] : List Value)).length))).isEmpty) = true)
    rw [List.drop_nil, List.length_nil, Nat.sub_zero, List.take_length, hm]; exact Bool.false_ne_true
  have e : ((g2.map (·.arg)).drop ((g2.map (·.arg)).length - (List.drop (0 - (g2.map (·.arg)).length) ([] : List Value)).length)).zip (List.drop (0 - (g2.map (·.arg)).length) ([] : List Value)) = [] := by rw [List.drop_nil, List.zip_nil_right]
  refine (congrArg (fun l => forIn (m := Sem) l _ _ >>= _) e).trans ?_
  show (pure (List.filterMap (fun n => Option.map (fun x => (n, x)) (List.lookup n ((g2.map (·.arg)).zip vals))) (g2.map (·.arg) ++ [])) : Sem (List (Str × Value))) = _
  rw [List.append_nil, z]
theorem nodupB_ok : ∀ {l : List Str}, nodupB l = true → l.Nodup
  | [], _ => List.nodup_nil
  | x :: r, h => by
    simp only [nodupB, Bool.and_eq_true, Bool.not_eq_true', Bool.not_eq_eq_eq_not, Bool.not_true] at h
    rw [List.nodup_cons]
    exact ⟨fun q => by rw [List.contains_iff_mem.mpr q] at h; exact absurd h.1 (by decide), nodupB_ok h.2⟩
theorem bindL_out {K : Str → Option NameKind} : ∀ {binds : List (Str × Value)} {mm : Str → Option Value} {x : Str}, x ∉ binds.map (·.1) → bindL K binds mm x = mm x
  | [], _, _, _ => rfl
  | (n, v) :: r, mm, x, h => by
    simp only [List.map_cons, List.mem_cons, not_or] at h
    unfold bindL
    rw [bindL_out h.2]
    split
    · exact if_neg h.1
    · rfl
theorem bindC_out {K : Str → Option NameKind} : ∀ {binds : List (Str × Value)} {mm : Str → Option Value} {x : Str}, x ∉ binds.map (·.1) → bindC K binds mm x = mm x
  | [], _, _, _ => rfl
  | (n, v) :: r, mm, x, h => by
    simp only [List.map_cons, List.mem_cons, not_or] at h
    unfold bindC
    rw [bindC_out h.2]
    split
    · rfl
    · exact if_neg h.1
theorem bindL_at {K : Str → Option NameKind} {x : Str} {v : Value} (hk : K x = some .local) : ∀ {binds : List (Str × Value)} {mm : Str → Option Value}, (binds.map (·.1)).Nodup → (x, v) ∈ binds → bindL K binds mm x = some v
  | (n, w) :: r, mm, hn, h => by
    rw [List.map_cons, List.nodup_cons] at hn
    unfold bindL
    cases h with
    | head => rw [bindL_out hn.1, if_pos hk]; exact if_pos rfl
    | tail _ h => exact bindL_at hk hn.2 h
theorem bindC_at {K : Str → Option NameKind} {x : Str} {v : Value} (hk : K x ≠ some .local) : ∀ {binds : List (Str × Value)} {mm : Str → Option Value}, (binds.map (·.1)).Nodup → (x, v) ∈ binds → bindC K binds mm x = some v
  | (n, w) :: r, mm, hn, h => by
    rw [List.map_cons, List.nodup_cons] at hn
    unfold bindC
    cases h with
    | head => rw [bindC_out hn.1, if_neg hk]; exact if_pos rfl
    | tail _ h => exact bindC_at hk hn.2 h
theorem lookup_of_nodup {α : Type} : ∀ {l : List (Str × α)} {x : Str} {a : α}, (l.map (·.1)).Nodup → (x, a) ∈ l → l.lookup x = some a
  | (y, b) :: r, x, a, hn, h => by
    rw [List.map_cons, List.nodup_cons] at hn
    cases h with
    | head => simp [List.lookup]
    | tail _ h =>
      have : (x == y) = false := beq_eq_false_iff_ne.mpr fun q => hn.1 (q ▸ List.mem_map_of_mem (f := (·.1)) h)
      simp only [List.lookup, this]
      exact lookup_of_nodup hn.2 h
theorem zipIdx_lookup {l : List Str} (hn : l.Nodup) {x : Str} {i : Nat} : l.zipIdx.lookup x = some i ↔ l[i]? = some x := by
  constructor
  · intro h
    have := lookup_mem h
    rw [List.mem_zipIdx_iff_getElem?] at this
    exact this
  · intro h
    refine lookup_of_nodup (by rw [List.zipIdx_map_fst]; exact hn) ?_
    rw [List.mem_zipIdx_iff_getElem?]; exact h
theorem cellsFrom_has : ∀ {names : List (Str × NameKind)} {n : Nat} {acc : List (Str × Addr)} {x : Str}, ((x, NameKind.cell) ∈ names ∨ ∃ a, (x, a) ∈ acc) → ∃ a, (x, a) ∈ cellsFrom n names acc
  | [], _, _, _, h => by
    rcases h with h | h
    · cases h
    · exact h
  | (y, k) :: r, n, acc, x, h => by
    unfold cellsFrom
    split
    · refine cellsFrom_has ?_
      rcases h with h | ⟨a, h⟩
      · cases h with
        | head => exact .inr ⟨n, .head _⟩
        | tail _ h => exact .inl h
      · exact .inr ⟨a, .tail _ h⟩
    · rename_i hk
      refine cellsFrom_has ?_
      rcases h with h | h
      · cases h with
        | head => exact absurd (by rfl) hk
        | tail _ h => exact .inl h
      · exact .inr h
structure FShape (params : List Str) (sc : Scope) : Prop where
  nodup : (sc.names.map (·.1)).Nodup
  par : (ownNames sc.names).take params.length = params
  kind : sc.kind = .function
  gen : sc.isGenerator = false
  co : sc.isCoroutine = false
  free : ∀ p ∈ sc.names, p.2 ≠ .free
theorem fShape_ok {params : List Str} {sc : Scope} (h : fShape params sc = true) : FShape params sc := by
  unfold fShape at h
  simp only [Bool.and_eq_true, Bool.not_eq_true', Bool.not_eq_eq_eq_not, Bool.not_true, List.all_eq_true] at h
  refine absG fun Cg hCg => ?_
  obtain ⟨⟨⟨⟨⟨h1, h2⟩, h3⟩, h4⟩, h5⟩, h6⟩ := h
  refine hCg ?_; clear hCg
  exact ⟨nodupB_ok h1, eq_of_beq h2, by simpa using h3, h4, h5, fun p hp q => by have := h6 p hp; rw [q] at this; cases this⟩
theorem own_nodup {sc : Scope} (h : (sc.names.map (·.1)).Nodup) : (ownNames sc.names).Nodup := by
  unfold ownNames
  exact List.Nodup.sublist (List.Sublist.map _ List.filter_sublist) h
theorem own_mem {sc : Scope} {x : Str} (h : x ∈ ownNames sc.names) : (x, NameKind.local) ∈ sc.names ∨ (x, NameKind.cell) ∈ sc.names := by
  unfold ownNames at h
  refine absG fun Cg hCg => ?_
  obtain ⟨⟨y, k⟩, hp, rfl⟩ := List.mem_map.mp h
  refine hCg ?_; clear hCg
  rw [List.mem_filter] at hp
  simp only [Bool.or_eq_true, beq_iff_eq] at hp
  rcases hp.2 with q | q
  · exact .inl (q ▸ hp.1)
  · exact .inr (q ▸ hp.1)
theorem Ext.ofCall {h₁ : PHeap} (S : StH C H s) (hk : ∀ b o, s.heap.get? b = some o → h₁.get? b = some o) (x : ExtS env H h₁ H' h') (hL : s.heap.get? env.locals = none) (hC : ∀ y a, env.cells.lookup y = some a → s.heap.get? a = none) : Ext H s.heap H' h' := by
  have hid := hid_grow S hk
  have fp : ∀ b, Fp H h₁ b → Fp H s.heap b := fun b f => by
    rcases f with f | f | f
    · exact .inl f
    · exact .inr (.inl f)
    · exact .inr (.inr (hid _ f))
  have al : ∀ b, h₁.get? b = none → s.heap.get? b = none := fun b e => by
    cases q : s.heap.get? b with
    | none => rfl
    | some o => rw [hk _ _ q] at e; cases e
  exact ⟨fun b o e n => x.keep b o (hk _ _ e) (fun f => n (fp _ f)) (fun q => by rw [q, hL] at e; cases e) (fun y q => by rw [hC y b q] at e; cases e),
    fun b e => al _ (x.alive b e), fun b f => (x.fresh b f).imp (fp b) (al b), fun b o e => (x.dom b o e).imp id (al b)⟩
structure FnOk (C : Cfg) (f : Nat) (fa : Addr) (fd : FuncData) (body : List Stmt) (l : Nat) (fn : Fn) : Prop where
  obj : ∃ oc od osl, C.K.lookup fa = some ⟨oc, od, .func fd, osl⟩
  addr : C.fnA.lookup f = some fa
  lv : C.tab.lv.lookup f = some l
  bd : fd.body = .stmts body
  gl : fd.globals = mainGlobals
  bl : fd.builtins = builtinsNs
  clo : fd.closure = []
  dfl : fd.defaults = .none
  code : codeIn C.K fd.code fd.qualname = true
  p0 : fd.params.posonlyargs = []
  p1 : fd.params.vararg = none
  p2 : fd.params.kwonlyargs = []
  p3 : fd.params.kwarg = none
  tr : trF C.tab l (fd.params.args.map (·.arg)) fd.scope body = some fn
theorem call_fn {f : Nat} {fa : Addr} {fd : FuncData} {body : List Stmt} {l : Nat} {fn : Fn} {vs : List V} {Q : PV} (O : C.Ok) (F : FnOk C f fa fd body l fn) (hlen : vs.length = fn.np)
    (hw : wpSs (phi C) fn.body (fn.start vs) H (fun fl _ H' => ∃ H'', H''.le H' ∧ Q fl.val H'')) : phi C f vs H Q := by
  intro A s pvs l' fa' hl' hfa hh hd hu S r
  rw [F.lv] at hl'; cases hl'
  rw [F.addr] at hfa; cases hfa
  refine absG fun Cg hCg => ?_
  obtain ⟨oc, od, osl, hK⟩ := F.obj
  have X := S.X O
  have T := O.T.keeps S.base
  have htr := F.tr
  refine hCg ?_; clear hCg
  unfold trF at htr
  split at htr
  case isFalse => cases htr
  rename_i hsh
  have Sh := fShape_ok hsh
  split at htr
  case h_2 => cases htr
  rename_i b hb
  cases htr
  have hown := own_nodup Sh.nodup
  have hlen : vs.length = (fd.params.args.map (·.arg)).length := hlen
  generalize hps : fd.params.args.map (·.arg) = params at *
  have hple : params.length ≤ (ownNames fd.scope.names).length := by
    have := congrArg List.length Sh.par
    rw [List.length_take] at this; (first | lia | omega)
  have hpn : params.Nodup := by rw [← Sh.par]; exact List.Nodup.sublist (List.take_sublist _ _) hown
  have hvl : pvs.length = params.length := by rw [r.length]; exact hlen
  have hbind := bind_ok (fd := fd) (vals := pvs) F.p0 F.p1 F.p2 F.p3 F.dfl (by rw [hps]; exact hpn) (by rw [hps]; exact hvl)
  rw [hps] at hbind
  have hfst : (params.zip pvs).map (·.1) = params := List.map_fst_zip (by (first | lia | omega))
  have hcl : ∀ x, (x, NameKind.cell) ∈ fd.scope.names → ∃ a, (cellsFrom (s.heap.objs.size + 1) fd.scope.names []).lookup x = some a := fun x hx => by
    obtain ⟨a, ha⟩ := cellsFrom_has (n := s.heap.objs.size + 1) (acc := []) (.inl hx)
    exact lookup_some ha
  have hkind : ∀ x ∈ params.zip pvs, fd.scope.names.lookup x.1 = some .local ∨ (fd.scope.names.lookup x.1 = some .cell ∧ ((cellsFrom (s.heap.objs.size + 1) fd.scope.names []).lookup x.1).isSome = true) := by
    intro x hx
    have hx1 : x.1 ∈ params := by rw [← hfst]; exact List.mem_map_of_mem (f := (·.1)) hx
    have hx2 : x.1 ∈ ownNames fd.scope.names := by rw [← Sh.par] at hx1; exact List.mem_of_mem_take hx1
    rcases own_mem hx2 with q | q
    · exact .inl (lookup_of_nodup Sh.nodup q)
    · obtain ⟨a, ha⟩ := hcl _ q
      exact .inr ⟨lookup_of_nodup Sh.nodup q, by rw [ha]; rfl⟩
  refine codeAny_call_cells (fd := fd) (body := body) (by have : recursionLimit = 1000 := rfl; (first | lia | omega)) (X _ _ hK) rfl T.nolimit (codeRec_of X F.code) F.bd hbind F.clo hkind (fun s1 x => ?_) Sh.co Sh.gen Sh.kind
  generalize henv : callEnvC fd s.heap.objs.size fa = env at *
  have eL : env.locals = s.heap.objs.size := by rw [← henv]; rfl
  have eC : env.cells = cellsFrom (s.heap.objs.size + 1) fd.scope.names [] := by rw [← henv]; rfl
  have eS : env.scope = fd.scope := by rw [← henv]; rfl
  have eK : ∀ y, env.kindOf y = fd.scope.names.lookup y := fun y => by rw [← henv]; rfl
  refine absG fun Cg hCg => ?_
  obtain ⟨h₁, tk, es1, hk⟩ := x.done
  have hk : ∀ b o, s.heap.get? b = some o → s1.heap.get? b = some o := by rw [es1]; exact hk
  obtain ⟨S1, _⟩ := S.grow (s' := s1) hk (by rw [es1]) (by rw [es1])
  have zL : s.heap.get? env.locals = none := by rw [eL]; exact look_size _
  refine hCg ?_; clear hCg
  have zC : ∀ y a, env.cells.lookup y = some a → s.heap.get? a = none := fun y a e => by
    have := x.above y a (lookup_mem e)
    rw [eL] at this
    cases q : s.heap.get? a with
    | none => rfl
    | some o => exact absurd (Nat.lt_trans this (Heap.lt_size q)) (Nat.lt_irrefl _)
  have hid := hid_grow S hk
  have hnl : ∀ y i, (fCtx C.tab l fd.scope).ν.lookup y = some i ↔ (ownNames fd.scope.names)[i]? = some y := fun y i => zipIdx_lookup hown
  have hstart : ∀ (y : Str) (i : Nat) (ov : Option Value), (ownNames fd.scope.names)[i]? = some y → (∀ v, (y, v) ∈ params.zip pvs → ov = some v) → (y ∉ params → ov = none) → OptRep ov (((Fn.mk params.length (ownNames fd.scope.names).length b).start vs)[i]?.join) := by
    intro y i ov hy h1 h2
    have hlt : i < (ownNames fd.scope.names).length := by
      by_cases q : i < (ownNames fd.scope.names).length
      · exact q
      · rw [List.getElem?_eq_none (by (first | lia | omega))] at hy; cases hy
    unfold Fn.start
    by_cases q : i < params.length
    · have hpi : params[i]? = some y := by
        have e : params[i]? = ((ownNames fd.scope.names).take params.length)[i]? := by rw [Sh.par]
        rw [e, List.getElem?_take_of_lt q]; exact hy
      have hvi : vs[i]? = some (vs[i]'(by (first | lia | omega))) := List.getElem?_eq_getElem _
      refine absG fun Cg hCg => ?_
      obtain ⟨pv, e1, e2⟩ := r.get hvi
      refine hCg ?_; clear hCg
      have hmem : (y, pv) ∈ params.zip pvs := by
        rw [List.mem_iff_getElem?]
        exact ⟨i, by rw [List.getElem?_zip_eq_some]; exact ⟨hpi, e1⟩⟩
      rw [h1 pv hmem, List.getElem?_append_left (by rw [List.length_map]; (first | lia | omega)), List.getElem?_map, hvi]
      exact e2
    · have hnp : y ∉ params := fun hm => by
        rw [← Sh.par] at hm
        obtain ⟨j, hj⟩ := List.mem_iff_getElem?.mp hm
        rw [List.getElem?_take] at hj
        split at hj
        · rename_i hjl
          have := (List.getElem?_inj hlt hown).mp (hy.trans hj.symm)
          (first | lia | omega)
        · cases hj
      rw [h2 hnp, List.getElem?_append_right (by rw [List.length_map]; (first | lia | omega)), List.getElem?_replicate]
      split <;> trivial
  have a : At C (fCtx C.tab l fd.scope) env (A.deeper env) ((Fn.mk params.length (ownNames fd.scope.names).length b).start vs) H s1 := by
    refine ⟨⟨?_, ?_, ?_, fun y e => (eK y).trans e, fun y e => (eK y).trans e, fun y e => (eK y).trans e, fun y e => .inl ((eK y).trans e), fun y z i e1 e2 => ?_, fun y i e => ?_
      ⟩, ⟨hh, ?_, ?_⟩, S1,
      ⟨?_, ⟨_, x.toInCall.ns, fun y i e k => ?_⟩, fun y i e k => ?_, ?_, fun y d e => ?_, fun y z d e1 e2 => ?_⟩⟩
    · rw [← henv]; exact F.gl
    · rw [← henv]; exact F.bl
    · rw [eS]; exact Sh.kind
    · exact Option.some.inj (((hnl y i).mp e1).symm.trans ((hnl z i).mp e2))
    · have := (hnl y i).mp e
      show i < (ownNames fd.scope.names).length
      by_cases q : i < (ownNames fd.scope.names).length
      · exact q
      · rw [List.getElem?_eq_none (by (first | lia | omega))] at this; cases this
    · show (A.deeper env).depth + 4 * l ≤ 900
      rw [depth_deeper]; (first | lia | omega)
    · show (A.deeper env).units + 20 * l ≤ 9000
      rw [units_deeper]; (first | lia | omega)
    · unfold Fn.start
      rw [List.length_append, List.length_map, List.length_replicate]
      show _ = (ownNames fd.scope.names).length
      show vs.length + ((ownNames fd.scope.names).length - params.length) = _
      (first | lia | omega)
    · have hk' : env.kindOf y = some .local := (eK y).trans k
      exact hstart y i _ ((hnl y i).mp e) (fun v hm => bindL_at hk' (by rw [hfst]; exact hpn) hm) fun hn => bindL_out (by rw [hfst]; exact hn)
    · have hkc : fd.scope.names.lookup y = some .cell := by
        rcases k with k | k
        · exact k
        · exact absurd rfl (Sh.free _ (lookup_mem k))
      obtain ⟨ca, hca⟩ := hcl y (lookup_mem hkc)
      have hca' : env.cells.lookup y = some ca := by rw [eC]; exact hca
      have hk' : env.kindOf y ≠ some .local := by rw [eK, hkc]; decide
      exact ⟨ca, _, hca', x.cell y ca hca', hstart y i _ ((hnl y i).mp e) (fun v hm => bindC_at hk' (by rw [hfst]; exact hpn) hm) fun hn => bindC_out (by rw [hfst]; exact hn)⟩
    · have ap := (Apart.fresh S zL).hidMono hid
      exact ⟨ap.at_, ap.hid, ap.base⟩
    · have ap := (Apart.fresh S (zC y d e)).hidMono hid
      refine absG fun Cg hCg => ?_
      obtain ⟨o, ho, _⟩ := x.cell y d e
      refine hCg ?_; clear hCg
      exact ⟨ap.at_, ap.hid, ap.base, fun q => absurd (x.above y d (lookup_mem e)) (by rw [q]; exact Nat.lt_irrefl _), o, ho⟩
    · exact name_of_addr x.apart (lookup_mem e1) (lookup_mem e2)
  have hb' : SndSs C (phi C) (fCtx C.tab l fd.scope) body b := execs_ok (fun st ms h => trS_ok O deep _ st ms rfl h) hb
  refine wpAny_mono (hb' a hw) (fun fl s2 z => ?_) fun _ _ f => f.elim
  refine absG fun Cg hCg => ?_
  obtain ⟨mfl, m2, H2, rf, S2, N2, x2, H3, l3, q⟩ := z
  have xx := (Ext.ofCall S hk x2 zL zC).forget l3
  refine hCg ?_; clear hCg
  refine ⟨_, rfl, mfl.val, H3, ?_, S2.forget l3, xx, q⟩
  cases fl <;> cases mfl <;> first | exact rf.elim | exact trivial | exact rf
end ML
namespace ML
open PySem PySem.W PySem.Calls PyProof.Rows PySem.SeqAt
noncomputable def isNoneV : Value → Bool
  | .none => true
  | _ => false
noncomputable def fdOk (K : Frag) (fd : FuncData) : Bool :=
  fd.globals == mainGlobals && fd.builtins == builtinsNs && fd.closure.isEmpty && isNoneV fd.defaults && codeIn K fd.code fd.qualname && fd.params.posonlyargs.isEmpty && fd.params.vararg.isNone && fd.params.kwonlyargs.isEmpty && fd.params.kwarg.isNone
noncomputable def fdGet (K : Frag) (tab : Tab) (l : Nat) (fd : FuncData) : Option Fn := match fd.body with
  | .stmts body => if fdOk K fd then trF tab l (fd.params.args.map (·.arg)) fd.scope body else none
  | _ => none
noncomputable def objGet (K : Frag) (tab : Tab) (l : Nat) : Option Obj → Option Fn
  | some ⟨_, _, .func fd, _⟩ => fdGet K tab l fd
  | _ => none
noncomputable def fnGet (K : Frag) (tab : Tab) (fnA : List (Nat × Addr)) (f : Nat) : Option Fn :=
  match fnA.lookup f with
  | none => none
  | some fa => match tab.lv.lookup f with
    | some l => objGet K tab l (K.lookup fa)
    | none => none
theorem fnGet_ok {C : Cfg} {f : Nat} {fn : Fn} (h : fnGet C.K C.tab C.fnA f = some fn) : ∃ fa fd body l, FnOk C f fa fd body l fn := by
  unfold fnGet at h
  split at h
  · cases h
  rename_i fa hfa
  split at h
  case h_2 => cases h
  rename_i l hl
  unfold objGet at h
  split at h
  case h_2 => cases h
  rename_i oc od fd osl hK
  unfold fdGet at h
  split at h
  case h_2 => cases h
  rename_i body hb
  split at h
  case isFalse => cases h
  rename_i hc
  unfold fdOk at hc
  simp only [Bool.and_eq_true] at hc
  obtain ⟨⟨⟨⟨⟨⟨⟨⟨c1, c2⟩, c3⟩, c4⟩, c5⟩, c6⟩, c7⟩, c8⟩, c9⟩ := hc
  refine ⟨fa, fd, body, l, ⟨oc, od, osl, hK⟩, hfa, hl, hb, eq_of_beq c1, eq_of_beq c2, List.isEmpty_iff.mp c3, ?_, c5, List.isEmpty_iff.mp c6, Option.isNone_iff_eq_none.mp c7, List.isEmpty_iff.mp c8, Option.isNone_iff_eq_none.mp c9, h
    ⟩
  cases hq : fd.defaults <;> first | rfl | (rw [hq] at c4; cases c4)
noncomputable def sysOf {C : Cfg} (O : C.Ok) : Sys (fnGet C.K C.tab C.fnA) where
  Φ := phi C
  call h hl hw := let ⟨_, _, _, _, F⟩ := fnGet_ok h; call_fn O F hl hw
noncomputable def refOf : Option (Option Value) → Option Addr
  | some (some (.ref a)) => some a
  | _ => none
noncomputable def mkCls (K : Frag) (tab : Tab) : List (Nat × Addr) := tab.cls.filterMap fun p => (refOf (nsIn K mainGlobals p.1)).map (p.2, ·)
noncomputable def mkFns (K : Frag) (tab : Tab) (clsA : List (Nat × Addr)) : List (Nat × Addr) :=
  (tab.fns.filterMap fun p => (refOf (nsIn K mainGlobals p.1)).map (p.2, ·)) ++
  (tab.mts.filterMap fun p => (clsA.lookup (methCls p.2)).bind fun Ca => (refOf (findIn K (.ref Ca) p.1)).map (p.2, ·)) ++
  (clsA.filterMap fun p => (refOf (findIn K (.ref p.2) "__init__")).map (p.1, ·))
noncomputable def clsB (K : Frag) (Ca : Addr) : Bool :=
  findIn K (.ref Ca) "__getattribute__" == some (some (.builtin "object.__getattribute__")) && findIn K (.ref Ca) "__getattr__" == some none && findIn K (.ref Ca) "__setattr__" == some (some (.builtin "object.__setattr__")) &&
  (clsIn K Ca).any (·.hasDict) && coreAts.all (fun p => findIn K (.ref Ca) p.1 == some none) && plainOver K Ca && makesIn K Ca
noncomputable def cfgB (K : Frag) (tab : Tab) (fnA clsA : List (Nat × Addr)) : Bool :=
  bltNames.all (fun x => nsIn K mainGlobals x == some none) &&
  (tab.fns.lookup ("__debug__" : Str)).isNone && (tab.cls.lookup ("__debug__" : Str)).isNone &&
  tab.cls.all (fun p => (clsA.lookup p.2).isSome) &&
  clsA.all (fun p => clsB K p.2) &&
  fnA.all (fun p => fnIn K p.2) &&
  tab.fns.all (fun p => match fnA.lookup p.2 with | some fa => nsIn K mainGlobals p.1 == some (some (.ref fa)) | none => true) &&
  tab.mts.all (fun p => match fnA.lookup p.2, clsA.lookup (methCls p.2) with
    | some fa, some Ca => findIn K (.ref Ca) p.1 == some (some (.ref fa)) && typeIn K (.ref fa) == some (.type "function") && (coreAts.lookup p.1).isNone
    | _, _ => true) &&
  tab.cls.all (fun p => match clsA.lookup p.2 with | some Ca => nsIn K mainGlobals p.1 == some (some (.ref Ca)) | none => true) &&
  clsA.all (fun p => match fnA.lookup p.1 with | some fa => findIn K (.ref p.2) "__init__" == some (some (.ref fa)) && typeIn K (.ref fa) == some (.type "function") | none => true) &&
  tab.lv.all (fun p => (fnA.lookup p.1).isSome)
theorem lookupN_mem {α : Type} : ∀ {l : List (Nat × α)} {x : Nat} {a : α}, l.lookup x = some a → (x, a) ∈ l
  | (y, b) :: r, x, a, h => by
    simp only [List.lookup] at h
    split at h
    · rename_i q; cases h; rw [beq_iff_eq.mp q]; exact .head _
    · exact .tail _ (lookupN_mem h)
structure Base (C : Cfg) : Prop where
  X : C.K.In C.h₀
  T : TopRead C.p C.loose C.mg C.mb C.h₀
  ats : C.tab.ats = coreAts
  sts : C.tab.sts = coreStrs
theorem cfg_ok {C : Cfg} (B : Base C) (h : cfgB C.K C.tab C.fnA C.clsA = true) : C.Ok := by
  unfold cfgB at h
  simp only [Bool.and_eq_true, List.all_eq_true] at h
  obtain ⟨⟨⟨⟨⟨⟨⟨⟨⟨⟨b1, b2⟩, b3⟩, b4⟩, b5⟩, b6⟩, b7⟩, b8⟩, b9⟩, b10⟩, b11⟩ := h
  refine ⟨fun x hx => eq_of_beq (b1 x hx), ⟨Option.isNone_iff_eq_none.mp b2, Option.isNone_iff_eq_none.mp b3⟩, B.ats, fun x ci e => Option.isSome_iff_exists.mp (b4 _ (lookup_mem e)), B.sts, B.X, B.T, fun ci Ca e => ?_,
    fun f fa e => b6 _ (lookupN_mem e), fun x f fa e1 e2 => ?_, fun x f fa Ca e1 e2 e3 => ?_, fun x ci Ca e1 e2 => ?_, fun ci Ca fa e1 e2 => ?_, fun f l e => Option.isSome_iff_exists.mp (b11 _ (lookupN_mem e))
    ⟩
  · have := b5 _ (lookupN_mem e)
    unfold clsB at this
    simp only [Bool.and_eq_true, List.all_eq_true] at this
    obtain ⟨⟨⟨⟨⟨⟨c1, c2⟩, c3⟩, c4⟩, c5⟩, c6⟩, c7⟩ := this
    exact ⟨eq_of_beq c1, eq_of_beq c2, eq_of_beq c3, c4, fun i x hx => eq_of_beq (c5 _ hx.mem), c6, c7⟩
  · have := b7 _ (lookup_mem e1)
    dsimp only at this
    rw [e2] at this
    exact eq_of_beq this
  · have := b8 _ (lookup_mem e1)
    dsimp only at this
    rw [e2, e3] at this
    simp only [Bool.and_eq_true] at this
    exact ⟨eq_of_beq this.1.1, eq_of_beq this.1.2, Option.isNone_iff_eq_none.mp this.2⟩
  · have := b9 _ (lookup_mem e1)
    dsimp only at this
    rw [e2] at this
    exact eq_of_beq this
  · have := b10 _ (lookupN_mem e1)
    dsimp only at this
    rw [e2] at this
    simp only [Bool.and_eq_true] at this
    exact ⟨eq_of_beq this.1, eq_of_beq this.2⟩
noncomputable def rowTab (K : Frag) (helpers : List (Str × Nat × Nat)) : Tab :=
  let t := mkTab helpers
  let A := mkFns K t (mkCls K t)
  { t with cls := t.cls.filter (fun p => (refOf (nsIn K mainGlobals p.1)).isSome), lv := t.lv.filter fun p => (A.lookup p.1).isSome }
end ML
namespace ML
open PySem PySem.W PySem.Calls PyProof.Rows PySem.SeqAt
noncomputable def H0 (a : Nat) (ns : List Int) : Heap := fun b => if b = a then some (.ro (ns.map V.int)) else none
theorem ints_rep {vs : List Value} {ns : List Int} (h : IntsAre vs ns) : All2 RepV vs (ns.map V.int) := by
  induction h with
  | nil => exact .nil
  | cons n t _ ih => exact .cons rfl ih
theorem st0 {C : Cfg} {s : Shared} {a : Addr} {vs : List Value} {ns : List Int} (hh : C.h₀ = s.heap) (ho : C.os = s.os) (hg : s.gens = #[]) (hl : s.heap.IsList a vs.toArray) (hi : IntsAre vs ns) (hn : ns.length ≤ 63) : StH C (H0 a ns) s := by
  have cs : ∀ b o, H0 a ns b = some o → b = a ∧ o = .ro (ns.map V.int) := fun b o e => by
    unfold H0 at e
    split at e
    · rename_i q; cases e; exact ⟨q, rfl⟩
    · cases e
  have r := ints_rep hi
  have nh : ∀ b, ¬ Hid (H0 a ns) s.heap b := fun b ⟨d, c, fs, o, e, _⟩ => by cases (cs _ _ e).2
  refine ⟨fun b o e => by rw [← hh]; exact e, fun b o e => ?_, fun b f => ?_, fun b x => absurd x (nh b), fun b _ c fs _ _ _ _ _ e => (by cases (cs _ _ e).2), hg, ho.symm⟩
  · obtain ⟨rfl, rfl⟩ := cs _ _ e
    exact ⟨vs, hl, r, by rw [r.length, List.length_map]; (first | lia | omega)⟩
  · rcases f with ⟨x, f⟩ | ⟨x, f⟩ | f
    · cases (cs _ _ f).2
    · cases (cs _ _ f).2
    · exact absurd f (nh b)
theorem row_start {C : Cfg} {A : Around} {s : Shared} {a fa : Addr} {vs : List Value} {ns : List Int} {f l : Nat} (O : C.Ok) (hh : C.h₀ = s.heap) (ho : C.os = s.os) (hg : s.gens = #[]) (hl : s.heap.IsList a vs.toArray) (hi : IntsAre vs ns) (hn : ns.length ≤ 63)
    (hf : C.fnA.lookup f = some fa) (hlv : C.tab.lv.lookup f = some l) (ha : A.handled = none) (hd : A.depth + 4 * l + 3 ≤ 900) (hu : A.units + 20 * l + 10 ≤ 9000)
    (hlaw : (sysOf O).Φ f [.ref a] (H0 a ns) (fun v _ => v = .bool true)) :
    codeAny C.M A (.call (.ref fa) ⟨[.ref a], []⟩) (fun r s' => r = .ok (.ret (.bool true)) ∧ (∀ b o, s.heap.get? b = some o → s'.heap.get? b = some o) ∧ s'.os = s.os ∧ s'.gens = #[]) s := by
  have S := st0 hh ho hg hl hi hn
  refine codeAny_mono (hlaw A s [.ref a] l fa hlv hf ha hd hu S (.cons rfl .nil)) fun r s' z => ?_
  obtain ⟨v, rfl, mv, H', rv, S', x', rfl⟩ := z
  cases rv.bool
  refine ⟨rfl, fun b o e => x'.keep b o e fun f => ?_, S'.os.trans ho, S'.gens⟩
  have := S.own b f
  rw [hh, e] at this; cases this
theorem row_end {prog : Program} {w : World} {K : Frag} {p : Program} {loose : List Str} {mg mb : Str → Option Value} {s : Shared} {a fa : Addr} {vs : List Value} {ns : List Int} {tab : Tab} {fnA clsA : List (Nat × Addr)} {f l : Nat}
    (KX : K.In s.heap) (T : TopRead p loose mg mb s.heap) (hmg : mg "law" = some (.ref fa)) (hg : s.gens = #[]) (hl : s.heap.IsList a vs.toArray) (hi : IntsAre vs ns) (hn : ¬ ((63 : Nat) : Int) < (ns.length : Nat))
    (ha : tab.ats = coreAts) (hs : tab.sts = coreStrs) (hchk : cfgB K tab fnA clsA = true) (hat : nsIn K mainGlobals "law" = some ((fnA.lookup f).map Value.ref)) (hlv : tab.lv.lookup f = some l) (hlt : l ≤ 20)
    (hlaw : ∀ S : Sys (fnGet K tab fnA), S.Φ f [.ref a] (H0 a ns) (fun v _ => v = .bool true)) :
    codeAny (model prog w) callerA (.call (.ref fa) ⟨[.ref a], []⟩) (fun r s' => r = .ok (.ret (.bool true)) ∧ (∀ b o, s.heap.get? b = some o → s'.heap.get? b = some o) ∧ s'.os = s.os ∧ s'.gens = #[]) s := by
  let C : Cfg := ⟨prog, w, K, s.heap, p, loose, mg, mb, s.os, tab, fnA, clsA⟩
  have O : C.Ok := cfg_ok ⟨KX, T, ha, hs⟩ hchk
  have hfa : fnA.lookup f = some fa := by
    cases q : fnA.lookup f with
    | none =>
      rw [q] at hat
      have := mg_none_of KX T.g hat
      rw [hmg] at this; cases this
    | some b =>
      rw [q] at hat
      have := mg_of KX T.g (v := .ref b) hat
      rw [hmg] at this; cases this; rfl
  exact row_start (C := C) O rfl rfl hg hl hi (by (first | lia | omega)) hfa hlv rfl (by show 1 + claimMargin + 4 * l + 3 ≤ 900; have : claimMargin = 300 := rfl; (first | lia | omega)) (by show 4 + 20 * l + 10 ≤ 9000; (first | lia | omega)) (hlaw (sysOf O))
end ML
namespace ML
open PySem PySem.W PyProof.Rows
noncomputable abbrev boot0 (w : World) (os : OsState) : Shared := ⟨boot_heap w.params, Array.mk [], boot_drawn, boot_toks, os⟩
noncomputable def osOf (p : Program) (N : Nat) (w : World) : OsState := ((fencedOpening treeTable p w N).map (·.os)).getD default
noncomputable def stAt (p : Program) (N : Nat) (w : World) : Option Shared := topFrom treeTable p w N (boot0 w (osOf p N w))
noncomputable def fragFor (h : PySem.Heap) (as : List Addr) : Frag := as.filterMap fun a => (h.get? a).map fun o => (a, o)
noncomputable def fragAt (h : PySem.Heap) : Frag := fragFor h (List.range h.objs.size)
theorem fragFor_in {h : PySem.Heap} : ∀ {as : List Addr}, (fragFor h as).In h
  | [], a, o, e => by cases e
  | b :: r, a, o, e => by
    unfold fragFor at e
    rw [List.filterMap_cons] at e
    cases q : h.get? b with
    | none => rw [q] at e; exact fragFor_in (as := r) a o e
    | some o' =>
      rw [q] at e
      replace e : List.lookup a ((b, o') :: fragFor h r) = some o := e
      rw [List.lookup_cons] at e
      split at e
      · rename_i q'
        have : a = b := by simpa using q'
        subst this
        rw [q]; exact e
      · exact fragFor_in (as := r) a o e
theorem frag_in {h : PySem.Heap} : (fragAt h).In h := fragFor_in
noncomputable def KAt (p : Program) (N : Nat) (w : World) : Frag := match stAt p N w with
  | some s => fragAt s.heap
  | none => []
theorem bootNs (P : Params) : (boot_heap P).isNs mainGlobals = true := by kernel_rfl
theorem run_of {p q : Program} {loose : List Str} {Xt : Shared → Bool} {N : Nat} {α : Type} {F : Frag → α} {G : α} {w : World} {os : OsState}
    (h : (topRun treeTable p w (boot_heap w.params).objs.size ((boot_heap w.params).nsMap mainGlobals "__annotations__") N (boot0 w os) (topStub p)).map (fun s =>
      ((staticsOk (importedModules p.main.body) (boot_heap w.params) s.heap && namesBound p s.heap && gensDone s && laidKept (boot_heap w.params) s.heap), openSeen q loose (importedModules p.main.body) Xt true s, F (fragAt s.heap))) = some (true, openGood q loose, G)) :
    ∃ s, topFrom treeTable p w N (boot0 w os) = some s ∧ openSeen q loose (importedModules p.main.body) Xt true s = openGood q loose ∧ F (fragAt s.heap) = G := by
  obtain ⟨s, h1, h2⟩ := Option.map_eq_some_iff.mp h
  obtain ⟨a, h2⟩ := Prod.mk.inj h2
  obtain ⟨b, c⟩ := Prod.mk.inj h2
  refine ⟨s, ?_, b, c⟩
  unfold topFrom
  have e : ((boot0 w os).heap.isNs mainGlobals && (boot0 w os).gens.size == 0) = true := by
    rw [show (boot0 w os).heap.isNs mainGlobals = true from bootNs w.params]; rfl
  rw [e]
  show (topRun treeTable p w (boot_heap w.params).objs.size ((boot_heap w.params).nsMap mainGlobals "__annotations__") N (boot0 w os) (topStub p)).bind _ = _
  rw [h1]
  show (match staticsOk (importedModules p.main.body) (boot_heap w.params) s.heap && namesBound p s.heap && gensDone s && laidKept (boot_heap w.params) s.heap with | true => some s | false => none) = some s
  rw [a]
theorem left_whole {p q : Program} {loose : List Str} {Xt : Shared → Bool} {N : Nat} (e : opening p = plainProg p.main.scope.names) (hN : Nat.ble 600 N = true) (f : ∀ s, fenceModules? p s = some s)
    (run : ∀ w os, ∃ s, topFrom treeTable p w N (boot0 w os) = some s ∧ openSeen q loose (importedModules p.main.body) Xt true s = openGood q loose) :
    LeftO p q loose Xt (fun s => fragAt s.heap) (fun w => KAt p N w) N := fun w => by
  obtain ⟨s₀, h1, h2⟩ := Option.map_eq_some_iff.mp (boot_open e hN f w)
  have h3 : s₀ = boot0 w (osOf p N w) := by
    have : osOf p N w = s₀.os := by unfold osOf; rw [h1]; rfl
    rw [this]
    obtain ⟨a, b, c, d, o⟩ := s₀
    simp only [Prod.mk.injEq] at h2
    obtain ⟨rfl, rfl, rfl, rfl⟩ := h2
    rfl
  obtain ⟨s, h4, h5⟩ := run w (osOf p N w)
  unfold openEnds
  rw [h1, h3]
  show (topFrom treeTable p w N (boot0 w (osOf p N w))).map _ = _
  have hs : stAt p N w = some s := h4
  rw [h4]
  exact congrArg some (Prod.ext h5 (by show fragAt s.heap = KAt p N w; unfold KAt; rw [hs]))
noncomputable def lawOk (K : Frag) (fnA : List (Nat × Addr)) (f : Nat) : Bool := match nsIn K mainGlobals "law", fnA.lookup f with
  | some (some (.ref a)), some b => a == b
  | _, _ => false
theorem law_of {K : Frag} {fnA : List (Nat × Addr)} {f : Nat} (h : lawOk K fnA f = true) : nsIn K mainGlobals "law" = some ((fnA.lookup f).map Value.ref) := by
  unfold lawOk at h
  split at h
  · rename_i a b e1 e2
    rw [e1, e2, beq_iff_eq.mp h]; rfl
  · cases h
theorem pick {α β : Type} {f : α → β} {l : List α} {l' : List β} (z : l.map f = l') {i : Nat} {x : α} {y : β} (h1 : l[i]? = some x) (h2 : l'[i]? = some y) : f x = y := by
  have h := congrArg (fun l => l[i]?) z
  rw [List.getElem?_map, h1, h2] at h
  exact Option.some.inj h
noncomputable def looks (helpers : List (Str × Nat × Nat)) (f : Nat) (ids : List Nat) (K : Frag) : Bool × Bool × Option Nat × List (Option Fn) :=
  (cfgB K (rowTab K helpers) (mkFns K (rowTab K helpers) (mkCls K (rowTab K helpers))) (mkCls K (rowTab K helpers)), lawOk K (mkFns K (rowTab K helpers) (mkCls K (rowTab K helpers))) f, (rowTab K helpers).lv.lookup f,
    ids.map (fnGet K (rowTab K helpers) (mkFns K (rowTab K helpers) (mkCls K (rowTab K helpers)))))
theorem looks_of {p : Program} {N : Nat} {w : World} {helpers : List (Str × Nat × Nat)} {f : Nat} {ids : List Nat} {G : Bool × Bool × Option Nat × List (Option Fn)} (h : ∃ s, topFrom treeTable p w N (boot0 w (osOf p N w)) = some s ∧ looks helpers f ids (fragAt s.heap) = G) : looks helpers f ids (KAt p N w) = G := by
  obtain ⟨s, h1, h2⟩ := h
  have hs : stAt p N w = some s := h1
  unfold KAt
  rw [hs]; exact h2
end ML
namespace ML
theorem drop_cons {α : Type} {xs : List α} {k : Nat} {x : α} (h : xs[k]? = some x) : xs.drop k = x :: xs.drop (k + 1) := by
  have hlt : k < xs.length := by
    by_cases q : k < xs.length
    · exact q
    · rw [List.getElem?_eq_none (by (first | lia | omega))] at h; cases h
  rw [List.drop_eq_getElem_cons hlt]
  rw [List.getElem?_eq_getElem hlt] at h
  rw [Option.some.inj h]
theorem drop_head {α : Type} {xs ys : List α} {k : Nat} {y : α} (h : xs.drop k = y :: ys) : xs[k]? = some y ∧ xs.drop (k + 1) = ys ∧ k + 1 ≤ xs.length := by
  have e : xs[k]? = some y := by
    have := congrArg (·[0]?) h
    rwa [List.getElem?_drop] at this
  refine ⟨e, ?_, (List.getElem?_eq_some_iff.mp e).1⟩
  rw [List.drop_add_one_eq_tail_drop, h]; rfl
theorem for_inv {body : Loc → Heap → PS → Prop} {tgt : List Nat} {ok : Heap → Prop} {xs : List V} {m : Loc} {H : Heap} {Q : PS} (I : Nat → Loc → Heap → Prop) (h0 : I 0 m H)
    (step : ∀ k x m H (K : Loc → Heap → Prop), xs[k]? = some x → I k m H → (∀ m' H', I (k + 1) m' H' → K m' H') → ok H ∧ bindTo tgt x H m fun m => body m H (turnW K Q))
    (fin : ∀ m H, I xs.length m H → ok H ∧ Q .next m H) : forW body tgt ok xs m H Q := by
  have key : ∀ ys k m H, xs.drop k = ys → k ≤ xs.length → I k m H → forW body tgt ok ys m H Q := by
    intro ys
    induction ys with
    | nil =>
      intro k m H e hk hI
      exact fin m H (Nat.le_antisymm hk (List.drop_eq_nil_iff.mp e) ▸ hI)
    | cons y ys ih =>
      intro k m H e hk hI
      obtain ⟨h1, h2, h3⟩ := drop_head e
      exact step k y m H _ h1 hI fun m' H' hI' => ih (k + 1) m' H' h2 h3 hI'
  exact key xs 0 m H rfl (Nat.zero_le _) h0
theorem comp_inv {elt : Loc → Heap → PV → Prop} {cond : Loc → Heap → (Bool → Heap → Prop) → Prop} {n : Nat} {ok : Heap → Prop} {m : Loc} {xs : List V} {H : Heap} {Q : PV} (I : Nat → List V → Heap → Prop) (h0 : I 0 [] H)
    (step : ∀ k x acc H (K : List V → Heap → Prop), xs[k]? = some x → I k acc H → (∀ acc' H', I (k + 1) acc' H' → K acc' H') → ok H ∧ acc.length ≤ lim ∧ bindNew n x H m fun m' => cond m' H fun b H => if b then elt m' H fun v H => ∃ H', H'.le H ∧ K (acc ++ [v]) H' else K acc H)
    (fin : ∀ acc H, I xs.length acc H → ok H ∧ acc.length ≤ lim ∧ allocW (.list acc) H Q) : compW elt cond n ok m xs [] H Q := by
  have key : ∀ ys k acc H, xs.drop k = ys → k ≤ xs.length → I k acc H → compW elt cond n ok m ys acc H Q := by
    intro ys
    induction ys with
    | nil =>
      intro k acc H e hk hI
      exact fin acc H (Nat.le_antisymm hk (List.drop_eq_nil_iff.mp e) ▸ hI)
    | cons y ys ih =>
      intro k acc H e hk hI
      obtain ⟨h1, h2, h3⟩ := drop_head e
      exact step k y acc H (fun acc H => compW elt cond n ok m ys acc H Q) h1 hI fun acc' H' hI' => ih (k + 1) acc' H' h2 h3 hI'
  exact key xs 0 [] H rfl (Nat.zero_le _) h0
theorem rngList_get {a n : Int} {k : Nat} {x : V} (h : (rngList a n)[k]? = some x) : x = .int (a + k) ∧ (k : Int) < n - a := by
  unfold rngList at h
  rw [List.getElem?_map] at h
  obtain ⟨j, e1, e2⟩ := Option.map_eq_some_iff.mp h
  have hlt : k < (n - a).toNat := by
    by_cases q : k < (n - a).toNat
    · exact q
    · rw [List.getElem?_eq_none (by simp; (first | lia | omega))] at e1; cases e1
  rw [List.getElem?_range hlt] at e1
  cases e1
  exact ⟨e2.symm, by (first | lia | omega)⟩
theorem rngList_len {a n : Int} : (rngList a n).length = (n - a).toNat := by simp [rngList]
theorem rngDown_get {a n : Int} {k : Nat} {x : V} (h : (rngDown a n)[k]? = some x) : x = .int (a - k) ∧ (k : Int) < a - n := by
  unfold rngDown at h
  rw [List.getElem?_map] at h
  obtain ⟨j, e1, e2⟩ := Option.map_eq_some_iff.mp h
  have hlt : k < (a - n).toNat := by
    by_cases q : k < (a - n).toNat
    · exact q
    · rw [List.getElem?_eq_none (by simp; (first | lia | omega))] at e1; cases e1
  rw [List.getElem?_range hlt] at e1
  cases e1
  exact ⟨e2.symm, by (first | lia | omega)⟩
theorem rngDown_len {a n : Int} : (rngDown a n).length = (a - n).toNat := by simp [rngDown]
theorem turn_next {K : Loc → Heap → Prop} {Q : PS} {m : Loc} {H : Heap} (k : K m H) : turnW K Q .next m H := ⟨H, fun _ _ e => e, k⟩
theorem turn_ret {K : Loc → Heap → Prop} {Q : PS} {m : Loc} {H : Heap} {v : V} (k : Q (.ret v) m H) : turnW K Q (.ret v) m H := ⟨H, fun _ _ e => e, k⟩
theorem mid_of {i : Int} (h1 : -1000000 ≤ i) (h2 : i ≤ 1000000) : mid i := by unfold mid; (first | lia | omega)
theorem end_ret {Q : PV} {fl : Flow} {v : V} {H : Heap} (hv : fl.val = v) (k : Q v H) : ∃ H'', H''.le H ∧ Q fl.val H'' := ⟨H, fun _ _ e => e, hv ▸ k⟩
theorem upd_le_of {H H' : Heap} {b : Nat} {o : O} (h : H.le H') (hb : H' b = some o) : (H.upd b o).le H' := fun p x hp => by
  by_cases e : p = b
  · subst e; rw [upd_self] at hp; cases hp; exact hb
  · rw [upd_ne e] at hp; exact h _ _ hp
theorem end_new {Q : PV} {H H' : Heap} {b : Nat} {o : O} {fl : Flow} (hv : fl.val = .ref b) (h : H.le H') (hb : H' b = some o) (hn : H b = none) (k : ∀ b, H b = none → Q (.ref b) (H.upd b o)) : ∃ H'', H''.le H' ∧ Q fl.val H'' :=
  ⟨H.upd b o, upd_le_of h hb, by rw [hv]; exact k b hn⟩
theorem end_old {Q : PV} {H H' : Heap} {fl : Flow} {v : V} (hv : fl.val = v) (h : H.le H') (k : Q v H) : ∃ H'', H''.le H' ∧ Q fl.val H'' := ⟨H, h, hv ▸ k⟩
theorem upd_none_of {H : Heap} {a b : Nat} {o : O} (h : (H.upd a o) b = none) : H b = none ∧ b ≠ a := by
  by_cases e : b = a
  · subst e; rw [upd_self] at h; cases h
  · rw [upd_ne e] at h; exact ⟨h, e⟩
theorem fresh_le {H H' : Heap} {b : Nat} (l : H.le H') (h : H' b = none) : H b = none := by
  cases e : H b with
  | none => rfl
  | some o => rw [l _ _ e] at h; cases h
theorem v_ifT {c : Bool} {A B : Prop} (h : c = true) (k : A) : if c = true then A else B := by rw [if_pos h]; exact k
theorem v_ifF {c : Bool} {A B : Prop} (h : c = false) (k : B) : if c = true then A else B := by rw [if_neg (by rw [h]; decide)]; exact k
theorem v_neR {p q : Nat} {H : Heap} {da db : D} {Q : Bool → Prop} (h1 : Rd H depthMax (.ref p) da) (h2 : Rd H depthMax (.ref q) db) (k : ∀ r : Bool, (r = true ↔ da = db) → Q (!r)) : cmpW .ne (.ref p) (.ref q) H Q := .inl ⟨da, db, h1, h2, k⟩
theorem v_neRt {p q : Nat} {H : Heap} {d : D} {Q : Bool → Prop} (h1 : Rd H depthMax (.ref p) d) (h2 : Rd H depthMax (.ref q) d) (k : Q false) : cmpW .ne (.ref p) (.ref q) H Q := v_neR h1 h2 fun r e => by rw [e.mpr rfl]; exact k
theorem All2.mapMem {α β γ : Type} {R : α → β → Prop} {f : γ → α} {g : γ → β} : ∀ {l : List γ}, (∀ x ∈ l, R (f x) (g x)) → All2 R (l.map f) (l.map g)
  | [], _ => .nil
  | x :: r, h => .cons (h x (.head _)) (All2.mapMem fun y hy => h y (.tail _ hy))
theorem rd_int {H : Heap} {n : Nat} {i : Int} : Rd H n (.int i) (.int i) := by cases n with | zero => rfl | succ n => exact .inl rfl
theorem rd_none {H : Heap} {n : Nat} : Rd H n .none .none := by cases n with | zero => trivial | succ n => exact .inl trivial
theorem rd_str {H : Heap} {n k : Nat} : Rd H n (.str k) (.str k) := by cases n with | zero => rfl | succ n => exact .inl rfl
theorem rd_list {H : Heap} {n p : Nat} {o : O} {xs : List V} {ds : List D} (h : H p = some o) (ho : o.lst? = some xs) (k : All2 (Rd H n) xs ds) : Rd H (n + 1) (.ref p) (.list ds) := .inr (.inl ⟨p, o, xs, ds, rfl, h, ho, rfl, k⟩)
theorem rd_tup {H : Heap} {n p : Nat} {xs : List V} {ds : List D} (h : H p = some (.tup xs)) (k : All2 (Rd H n) xs ds) : Rd H (n + 1) (.ref p) (.tup ds) := .inr (.inr ⟨p, xs, ds, rfl, h, rfl, k⟩)
end ML
namespace ML
section
variable {Φ : Orac} {m : Loc} {H : Heap} {Q : PS} {r : List S}
theorem n_assign {i e} (k : wpE Φ e m H fun v H => wpSs Φ r (m.set i (some v)) H Q) : wpSs Φ (.assign i e :: r) m H Q := k
theorem n_unpack {is e} (k : wpE Φ e m H fun v H => unpW is v H m fun m => wpSs Φ r m H Q) : wpSs Φ (.unpack is e :: r) m H Q := k
theorem n_setAttr {o i e} (k : wpE Φ e m H fun v H => wpE Φ o m H fun x H => setAttrW x i v H fun H => wpSs Φ r m H Q) : wpSs Φ (.setAttr o i e :: r) m H Q := k
theorem n_setIdx {o i e} (k : wpE Φ e m H fun v H => wpE Φ o m H fun x H => wpE Φ i m H fun y H => setIdxW x y v H fun H => wpSs Φ r m H Q) : wpSs Φ (.setIdx o i e :: r) m H Q := k
theorem n_del {o i} (k : wpE Φ o m H fun x H => wpE Φ i m H fun y H => delIdxW x y H fun H => wpSs Φ r m H Q) : wpSs Φ (.delIdx o i :: r) m H Q := k
theorem n_append {o e} (k : wpE Φ o m H fun x H => isLst H x ∧ wpE Φ e m H fun v H => appendW x v H fun H => wpSs Φ r m H Q) : wpSs Φ (.append o e :: r) m H Q := k
theorem n_expr {e} (k : wpE Φ e m H fun v H => dropW v (wpSs Φ r m H Q)) : wpSs Φ (.expr e :: r) m H Q := k
theorem n_ret {e} (k : wpE Φ e m H fun v H => Q (.ret v) m H) : wpSs Φ (.ret (some e) :: r) m H Q := k
theorem n_chk {c e} (k : wpT Φ c m H fun b H => if b then wpE Φ e m H (fun v H => Q (.ret v) m H) else wpSs Φ r m H Q) : wpSs Φ (.ite c [.ret (some e)] [] :: r) m H Q := k
theorem n_ite {c a b} (k : wpT Φ c m H fun x H => if x then wpSs Φ a m H (thenW (fun m H => wpSs Φ r m H Q) Q) else wpSs Φ b m H (thenW (fun m H => wpSs Φ r m H Q) Q)) : wpSs Φ (.ite c a b :: r) m H Q := k
theorem n_whl {c b} (k : whileW (wpT Φ c) (wpSs Φ b) m H (thenW (fun m H => wpSs Φ r m H Q) Q)) : wpSs Φ (.whl c b :: r) m H Q := k
theorem n_for {t src b} (k : wpSrc Φ src m H fun xs ok H => forW (wpSs Φ b) t ok xs m H (thenW (fun m H => wpSs Φ r m H Q) Q)) : wpSs Φ (.for1 t src b :: r) m H Q := k
theorem n_nil (k : Q .next m H) : wpSs Φ [] m H Q := k
theorem hideK {c b} {K : Loc → Heap → Prop} (h : ∀ K' : Loc → Heap → Prop, (∀ m H, K m H → K' m H) → wpT Φ c m H fun b' H => if b' then wpSs Φ b m H (turnW K' Q) else Q .next m H) : wpT Φ c m H fun b' H => if b' then wpSs Φ b m H (turnW K Q) else Q .next m H := h K fun _ _ h => h
theorem n_then {K : Loc → Heap → Prop} (k : K m H) : thenW K Q .next m H := k
theorem n_thenR {K : Loc → Heap → Prop} {v} (k : Q (.ret v) m H) : thenW K Q (.ret v) m H := k
end
theorem mid_nat {n : Nat} (h : n ≤ 1000000) : mid (n : Int) := by unfold mid; (first | lia | omega)
theorem mid_m1 : mid (-1) := by unfold mid; decide
theorem mid_2 : mid 2 := by unfold mid; decide
theorem v_idxN {H : Heap} {p k : Nat} {x : O} {xs : List V} {v : V} {Q : V → Prop} (h : H p = some x) (hs : x.seq? = some xs) (h1 : k ≤ 900000) (hv : xs[k]? = some v) (K : Q v) : idxW (.ref p) (.int k) H Q :=
  v_idx h hs (Int.natCast_nonneg _) (by show (k : Int) < ((1000000 : Nat) : Int); (first | lia | omega)) (by rw [Int.toNat_natCast]; exact hv) K
theorem lt_of_get {α : Type} {l : List α} {i : Nat} {x : α} (h : l[i]? = some x) : i < l.length := (List.getElem?_eq_some_iff.mp h).1
theorem v_sliceL {p x xs lo hi l h'} {H : Heap} {Q : PV} (h : H p = some x) (hs : x.lst? = some xs) (hl : part? lo = some l) (hh : part? hi = some h') (n1 : nonneg? l) (n2 : nonneg? h') (hz : xs.length ≤ lim)
    (k : ∀ a H', H.le H' → H a = none → H' a = some (.list (cut xs l h')) → Q (.ref a) H') : sliceW (.ref p) lo hi H Q := v_slice h hs hl hh n1 n2 hz fun a na => k a _ (Heap.le_upd na) na upd_self
theorem v_addLL {p q xs ys} {H : Heap} {Q : PV} (h1 : H p = some (.list xs)) (h2 : H q = some (.list ys)) (hl : xs.length + ys.length ≤ lim) (k : ∀ a H', H.le H' → H a = none → H' a = some (.list (xs ++ ys)) → Q (.ref a) H') :
    bopW .add (.ref p) (.ref q) H Q := v_addL h1 h2 hl fun a na => k a _ (Heap.le_upd na) na upd_self
end ML
open ML
set_option bootstrap.genMatcherCode true
local macro_rules | `(tactic| walk_at $s) => do
  if s.getString == "n" then
    let ws ← "n_assign n_chk n_ite n_for n_append n_expr n_ret n_setAttr n_del n_whl n_setIdx n_unpack".splitOn " " |>.toArray.mapM fun s => `(tactic| refine $(Lean.mkIdent s.toName) ?_)
    `(tactic| ((repeat first | refine n_then ?_ | refine n_nil ?_); (first $[| $ws:tactic]*); walk_at "m"))
  else if s.getString == "m" then `(tactic| try walk_at "m0")
  else if s.getString == "z" then `(tactic| repeat (first | walk_at "z0" | walk_at "m0"))
  else if s.getString == "m0" || s.getString == "z0" then
    let ws ← ((if s.getString == "m0" then "w_var w_lit w_bop w_neg w_cmp w_cmp2 w_and w_or w_not w_call w_meth w_new w_prim w_attr w_idx w_slice w_list w_tup w_comp w_onone w_osome w_enil w_econs w_rng1 w_rng2 w_rng3 w_rngS w_dict0 w_of w_cnone w_csome t_not t_and t_or t_cmp t_cmp2 t_var t_lit t_call t_meth t_idx t_prim t_bop z_var z_addI z_subI z_negI z_lt z_le z_gt z_ge z_eqI z_neI z_eqB z_neB z_eqS z_neS z_is z_isnot z_isNN z_isBB z_isRN z_isIN z_isBN z_isSN z_isFN z_isNB z_isRB z_isIB z_tN z_tB z_tI z_abs z_min z_max z_tyInt z_tyBool z_isBool z_dropN z_dropB z_dropI z_ifT z_ifF z_new1 z_to1 z_mapN z_mapC z_appN z_appC z_set0 z_setS z_get0 z_getS z_notT z_notF List.replicate Nat.reduceSub Fn.start" else "s_assign s_unpack s_setAttr s_setIdx s_delIdx s_append s_expr s_ret0 s_ret s_ite s_whl s_for s_brk s_pass s_nil s_cons z_then z_thenB z_thenR").splitOn " ").toArray.mapM fun s => `(Lean.Parser.Tactic.simpLemma| $(Lean.mkIdent s.toName):ident)
    `(tactic| dsimp only [$[$ws],*])
  else Lean.Macro.throwUnsupported
set_option bootstrap.genMatcherCode false

namespace ML
theorem All2.mono {α β : Type} {R R' : α → β → Prop} (h : ∀ a b, R a b → R' a b) : ∀ {l : List α} {m : List β}, All2 R l m → All2 R' l m
  | _, _, .nil => .nil
  | _, _, .cons a r => .cons (h _ _ a) (r.mono h)
theorem All2.len {α β : Type} {R : α → β → Prop} {l : List α} {m : List β} (h : All2 R l m) : l.length = m.length := h.length
theorem All2.app {α β : Type} {R : α → β → Prop} {l l' : List α} {m m' : List β} (x : All2 R l m) (y : All2 R l' m') : All2 R (l ++ l') (m ++ m') := x.append y
theorem All2.filter {α β : Type} {R : α → β → Prop} {p : α → Bool} {q : β → Bool} (h : ∀ a b, R a b → p a = q b) : ∀ {l : List α} {m : List β}, All2 R l m → All2 R (l.filter p) (m.filter q)
  | _, _, .nil => .nil
  | a :: l, b :: m, .cons x r => by
    rw [List.filter_cons, List.filter_cons, h _ _ x]
    split
    · exact .cons x (r.filter h)
    · exact r.filter h
theorem All2.at {α β : Type} {R : α → β → Prop} {l : List α} {m : List β} {i : Nat} {b : β} (h : All2 R l m) (e : m[i]? = some b) : ∃ a, l[i]? = some a ∧ R a b := h.get e
theorem All2.at' {α β : Type} {R : α → β → Prop} {l : List α} {m : List β} {i : Nat} {a : α} (h : All2 R l m) (e : l[i]? = some a) : ∃ b, m[i]? = some b ∧ R a b := h.get' e
noncomputable def PairIs (H : Heap) (x : V) (kv : Int × Int) : Prop := ∃ r, x = .ref r ∧ H r = some (.tup [.int kv.1, .int kv.2])
noncomputable def kvOf (H : Heap) : V → Int × Int
  | .ref r => match H r with
    | some (.tup [.int k, .int v]) => (k, v)
    | _ => (0, 0)
  | _ => (0, 0)
theorem PairIs.kv {H : Heap} {x : V} {kv : Int × Int} (h : PairIs H x kv) : kvOf H x = kv := by
  obtain ⟨r, rfl, h⟩ := h
  unfold kvOf
  simp only [h]
theorem PairIs.le {H H' : Heap} {x : V} {kv : Int × Int} (l : H.le H') (h : PairIs H x kv) : PairIs H' x kv := let ⟨r, e, h⟩ := h; ⟨r, e, l _ _ h⟩
theorem PairIs.lst {H : Heap} {x : V} {kv : Int × Int} {p : Nat} {xs : List V} {o : O} (hp : H p = some (.list xs)) (h : PairIs H x kv) : PairIs (H.upd p o) x kv := by
  obtain ⟨r, e, h⟩ := h
  refine ⟨r, e, ?_⟩
  rw [upd_ne (fun q => by rw [q, hp] at h; cases h)]; exact h
noncomputable abbrev Pairs (H : Heap) (xs : List V) (kvs : List (Int × Int)) : Prop := All2 (PairIs H) xs kvs
theorem Pairs.le {H H' : Heap} {xs : List V} {kvs : List (Int × Int)} (h : Pairs H xs kvs) (l : H.le H') : Pairs H' xs kvs := All2.mono (fun _ _ => PairIs.le l) h
theorem Pairs.lst {H : Heap} {xs ys : List V} {kvs : List (Int × Int)} {p : Nat} {o : O} (h : Pairs H xs kvs) (hp : H p = some (.list ys)) : Pairs (H.upd p o) xs kvs := All2.mono (fun _ _ => PairIs.lst hp) h
noncomputable def dPairs (kvs : List (Int × Int)) : D := .list (kvs.map fun kv => .tup [.int kv.1, .int kv.2])
theorem comp_pure {elt : Loc → Heap → PV → Prop} {cond : Loc → Heap → (Bool → Heap → Prop) → Prop} {ok : Heap → Prop} {m : Loc} {xs : List V} {H : Heap} {Q : PV} (p : V → Bool) (f : V → V) (hok : ok H) (hz : xs.length ≤ lim)
    (hc : ∀ x ∈ xs, ∀ K : Bool → Heap → Prop, K (p x) H → cond (m ++ [some x]) H K) (he : ∀ x ∈ xs, p x = true → ∀ K : PV, K (f x) H → elt (m ++ [some x]) H K)
    (k : ∀ b, H b = none → Q (.ref b) (H.upd b (.list ((xs.filter p).map f)))) : compW elt cond 1 ok m xs [] H Q := by
  refine comp_inv (fun k acc H' => H' = H ∧ acc = ((xs.take k).filter p).map f) ⟨rfl, rfl⟩ (fun j x acc H' K hx hI hK => ?_) fun acc H' hI => ?_
  · obtain ⟨rfl, rfl⟩ := hI
    have hm : x ∈ xs := List.mem_of_getElem? hx
    have ht : xs.take (j + 1) = xs.take j ++ [x] := by
      rw [List.take_succ, hx]; rfl
    refine ⟨hok, ?_, ?_⟩
    · have h1 := List.length_filter_le p (xs.take j)
      have h2 := List.length_take_le j xs
      have h3 : (xs.take j).length ≤ xs.length := by rw [List.length_take]; (first | lia | omega)
      rw [List.length_map]; (first | lia | omega)
    · show cond (m ++ [some x]) H' _
      refine hc x hm _ ?_
      cases hp : p x with
      | false =>
        refine hK _ _ ⟨rfl, ?_⟩
        rw [ht, List.filter_append]; simp [hp]
      | true =>
        refine he x hm hp _ ⟨H', fun _ _ e => e, hK _ _ ⟨rfl, ?_⟩⟩
        rw [ht, List.filter_append]; simp [hp]
  · obtain ⟨rfl, rfl⟩ := hI
    rw [List.take_length]
    refine ⟨hok, ?_, k⟩
    have h1 := List.length_filter_le p xs
    rw [List.length_map]; (first | lia | omega)
theorem comp_map {Φ : Orac} {elt : Loc → Heap → PV → Prop} {ok : Heap → Prop} {m : Loc} {xs : List V} {H : Heap} {Q : PV} (f : V → V) (hok : ok H) (hz : xs.length ≤ lim)
    (he : ∀ x ∈ xs, ∀ K : PV, K (f x) H → elt (m ++ [some x]) H K) (k : ∀ b, H b = none → Q (.ref b) (H.upd b (.list (xs.map f)))) : compW elt (wpC Φ none) 1 ok m xs [] H Q := by
  refine comp_pure (fun _ => true) f hok hz (fun x _ K h => r_cnone h) (fun x hx _ => he x hx) ?_
  rw [List.filter_eq_self.mpr (fun _ _ => rfl)]
  exact k
end ML
namespace ML
section
variable {T : Nat → Option Fn} (S : Sys T)
theorem spec_init (h0 : T 0 = some f_Node_init) {H : Heap} {a : Nat} {x y z : V} {Q : PV} (ha : H a = some (.inst 0 [])) (h : Q .none (H.upd a (.inst 0 [(0, x), (1, y), (2, z)]))) : S.Φ 0 [.ref a, x, y, z] H Q := by
  refine S.call h0 rfl ?_
  dsimp only [f_Node_init]
  walk_at "z"
  refine v_setAttr (fs' := [(0, x)]) ha (by decide) rfl ?_
  refine v_setAttr (fs' := [(0, x), (1, y)]) upd_self (by simp) rfl ?_
  refine v_setAttr (fs' := [(0, x), (1, y), (2, z)]) upd_self (by simp) rfl ?_
  refine end_old rfl (fun p o e => ?_) h
  by_cases q : p = a
  · subst q; rw [upd_self] at e ⊢; exact e
  · rw [upd_ne q] at e; rw [upd_ne q, upd_ne q, upd_ne q]; exact e
theorem upd_upd {H : Heap} {a : Nat} {o o' : O} : (H.upd a o).upd a o' = H.upd a o' := by
  funext b
  by_cases q : b = a
  · simp [Heap.upd, q]
  · simp [Heap.upd, q]
theorem new_node (h0 : T 0 = some f_Node_init) {H : Heap} {x y z : V} {Q : Nat → Heap → Prop} (h : ∀ a, H a = none → Q a (H.upd a (.inst 0 [(0, x), (1, y), (2, z)]))) :
    ∀ a, H a = none → S.Φ 0 (.ref a :: [x, y, z]) (H.upd a (.inst 0 [])) fun r H => r = .none ∧ Q a H := fun a na =>
  spec_init S h0 upd_self ⟨rfl, by rw [upd_upd]; exact h a na⟩
theorem spec_lay (h4 : T 4 = some f_lay) {H : Heap} {a : Nat} {x y z x' y' z' : V} {Q : PV} (ha : H a = some (.inst 0 [(0, x'), (1, y'), (2, z')])) (h : Q .none (H.upd a (.inst 0 [(0, x), (1, y), (2, z)]))) : S.Φ 4 [.ref a, x, y, z] H Q := by
  refine S.call h4 rfl ?_
  dsimp only [f_lay]
  walk_at "z"
  refine v_setAttr (fs' := [(0, x), (1, y'), (2, z')]) ha (by simp) rfl ?_
  refine v_setAttr (fs' := [(0, x), (1, y), (2, z')]) upd_self (by simp) rfl ?_
  refine v_setAttr (fs' := [(0, x), (1, y), (2, z)]) upd_self (by simp) rfl ?_
  rw [upd_upd, upd_upd]
  exact end_ret rfl h
theorem spec_is_leaf (h2 : T 2 = some f_is_leaf) {H : Heap} {a c : Nat} {x y : V} {cs : List V} {Q : PV} (ha : H a = some (.inst 0 [(0, x), (1, y), (2, .ref c)])) (hc : H c = some (.list cs)) (h : Q (.bool (decide (cs.length = 0))) H) : S.Φ 2 [.ref a] H Q := by
  refine S.call h2 rfl ?_
  dsimp only [f_is_leaf]
  walk_at "z"
  refine v_attr ha rfl ?_
  refine v_len hc rfl ?_
  walk_at "z"
  refine end_ret rfl ?_
  have : decide ((cs.length : Int) = 0) = decide (cs.length = 0) := by
    by_cases q : cs.length = 0
    · rw [q]; rfl
    · rw [decide_eq_false q, decide_eq_false (by (first | lia | omega))]
  show Q (.bool (decide ((cs.length : Int) = 0))) H
  rw [this]; exact h
noncomputable def below (ks : List Int) (key : Int) : Nat := (ks.filter fun k => decide (k < key)).length
theorem below_at {ks : List Int} {key : Int} {n : Nat} (hn : n ≤ ks.length) (h1 : ∀ (j : Nat) k, j < n → ks[j]? = some k → k < key) (h2 : ∀ (j : Nat) k, n ≤ j → ks[j]? = some k → key ≤ k) : below ks key = n := by
  unfold below
  have e : ks = ks.take n ++ ks.drop n := (List.take_append_drop n ks).symm
  rw [e, List.filter_append, List.length_append]
  have f1 : (ks.take n).filter (fun k => decide (k < key)) = ks.take n := by
    rw [List.filter_eq_self]
    intro k hk
    obtain ⟨j, hj⟩ := List.mem_iff_getElem?.mp hk
    rw [List.getElem?_take] at hj
    split at hj
    · rename_i q; exact decide_eq_true (h1 j k q hj)
    · cases hj
  have f2 : (ks.drop n).filter (fun k => decide (k < key)) = [] := by
    rw [List.filter_eq_nil_iff]
    intro k hk
    obtain ⟨j, hj⟩ := List.mem_iff_getElem?.mp hk
    rw [List.getElem?_drop] at hj
    have := h2 (n + j) k (by (first | lia | omega)) hj
    simp; (first | lia | omega)
  rw [f1, f2, List.length_take]
  simp; (first | lia | omega)
noncomputable def slBody : List ML.S := [
    .assign 4 (.bop .fdiv (.bop .add (.var 2) (.var 3)) (.lit (.int 2))),
    .ite (.cmp .lt (.idx (.attr (.var 0) 0) (.var 4)) (.var 1)) [
      .assign 2 (.bop .add (.var 4) (.lit (.int 1)))] [
      .assign 3 (.var 4)]]
theorem f_slot_eq : f_slot = ⟨2, 5, [
  .assign 2 (.lit (.int 0)),
  .assign 3 (.prim .len [(.attr (.var 0) 0)]),
  .whl (.cmp .lt (.var 2) (.var 3)) slBody,
  .ret (some (.var 2))]⟩ := rfl
structure Slot (ks : List Int) (key : Int) (l h : Nat) : Prop where
  le : l ≤ h
  len : h ≤ ks.length
  lt : ∀ (j : Nat) k, j < l → ks[j]? = some k → k < key
  ge : ∀ (j : Nat) k, h ≤ j → ks[j]? = some k → key ≤ k
theorem slot_mid {l h : Nat} (e : l < h) : ((l : Int) + h) / 2 = (((l + h) / 2 : Nat) : Int) ∧ l ≤ (l + h) / 2 ∧ (l + h) / 2 < h := by (first | lia | omega)
theorem slot_turn {H : Heap} {a k l h : Nat} {y z : V} {ks : List Int} {key : Int} {x4 : Option V} {R : PS} (ha : H a = some (.inst 0 [(0, .ref k), (1, y), (2, z)])) (hk : H k = some (.list (ks.map V.int))) (hs : ks.Pairwise (· < ·)) (hz : ks.length ≤ 100000) (g : Slot ks key l h) (e : l < h)
    (q : ∀ l' h' x4, Slot ks key l' h' → h' - l' < h - l → R .next [some (.ref a), some (.int key), some (.int (l' : Nat)), some (.int (h' : Nat)), x4] H) : wpSs S.Φ slBody [some (.ref a), some (.int key), some (.int l), some (.int h), x4] H R := by
  obtain ⟨em, m1, m2⟩ := slot_mid e
  generalize (l + h) / 2 = mid at em m1 m2
  have hlt : mid < ks.length := Nat.lt_of_lt_of_le m2 g.len
  have hx : ks[mid]? = some (ks[mid]'hlt) := List.getElem?_eq_getElem _
  have mono : ∀ (i j : Nat) (x y : Int), i < j → ks[i]? = some x → ks[j]? = some y → x < y := fun i j x y hij hx hy => by
    obtain ⟨h1, e1⟩ := List.getElem?_eq_some_iff.mp hx
    obtain ⟨h2, e2⟩ := List.getElem?_eq_some_iff.mp hy
    have := List.pairwise_iff_getElem.mp hs i j h1 h2 hij
    rw [e1, e2] at this; exact this
  generalize ks[mid]'hlt = km at hx
  unfold slBody
  walk_at "n"
  refine v_fdivI (by decide) (by decide) ?_
  rw [em]
  walk_at "n"
  refine v_attr ha rfl (v_idxN (v := .int km) hk rfl (Nat.le_trans (Nat.le_of_lt hlt) (Nat.le_trans hz (by decide))) (by rw [List.getElem?_map, hx]; rfl) ?_)
  walk_at "m"
  refine v_if (fun e' => ?_) fun e' => ?_
  · have e' := of_decide_eq_true e'
    walk_at "n"
    refine n_nil (n_then (n_nil (q (mid + 1) h _ ⟨m2, g.len, fun j k hj hk' => ?_, g.ge⟩ (by clear mono hx hlt em; (first | lia | omega)))))
    rcases Nat.lt_or_eq_of_le (Nat.le_of_lt_succ hj) with hj | rfl
    · exact Int.lt_trans (mono j mid _ _ hj hk' hx) e'
    · rw [hx] at hk'; cases hk'; exact e'
  · have e' := of_decide_eq_false e'
    walk_at "n"
    refine n_nil (n_then (n_nil (q l mid _ ⟨m1, Nat.le_of_lt hlt, g.lt, fun j k hj hk' => ?_⟩ (by clear mono hx hlt em; (first | lia | omega)))))
    rcases Nat.lt_or_eq_of_le hj with hj | rfl
    · exact Int.le_trans (Int.not_lt.mp e') (Int.le_of_lt (mono mid j _ _ hj hx hk'))
    · rw [hx] at hk'; cases hk'; exact Int.not_lt.mp e'
theorem spec_slot (h3 : T 3 = some f_slot) {H : Heap} {a k : Nat} {y z : V} {ks : List Int} {key : Int} {Q : PV} (ha : H a = some (.inst 0 [(0, .ref k), (1, y), (2, z)])) (hk : H k = some (.list (ks.map V.int))) (hs : ks.Pairwise (· < ·)) (hz : ks.length ≤ 100000)
    (h : Q (.int (below ks key)) H) : S.Φ 3 [.ref a, .int key] H Q := by
  rw [f_slot_eq] at h3
  refine S.call h3 rfl ?_
  dsimp only
  walk_at "m"
  walk_at "n"
  walk_at "n"
  refine v_attr ha rfl (v_len hk rfl ?_)
  rw [List.length_map]
  refine n_whl ?_
  refine ⟨fun n m G => ∃ (l h' : Nat) (x4 : Option V), m = [some (.ref a), some (.int key), some (.int l), some (.int h'), x4] ∧ G = H ∧ n = h' - l ∧ Slot ks key l h', ks.length,
    ⟨0, ks.length, none, rfl, rfl, rfl, Nat.zero_le _, Nat.le_refl _, (fun j k hj => absurd hj (Nat.not_lt_zero _)), fun j k hj e => by rw [List.getElem?_eq_none hj] at e; cases e⟩, ?_⟩
  rintro n m G ⟨l, h', x4, rfl, rfl, rfl, g⟩
  rw [t_cmp]
  walk_at "m"
  refine v_if (fun e => ?_) fun e => ?_
  · have e := Int.ofNat_lt.mp (of_decide_eq_true e)
    exact slot_turn S ha hk hs hz g e fun l2 h2 x4 g' hl => turn_next ⟨_, hl, l2, h2, x4, rfl, rfl, rfl, g'⟩
  · have e := of_decide_eq_false e
    have : l = h' := Nat.le_antisymm g.le (Nat.le_of_not_lt fun q => e (Int.ofNat_lt.mpr q))
    subst this
    refine n_then ?_
    walk_at "n"
    refine end_ret rfl ?_
    rw [← below_at g.len g.lt g.ge]; exact h
end
end ML
namespace ML
inductive Tree where
  | node (a : Nat) (ks : List Int) (vs : List V) (cs : List Tree)
noncomputable def Tree.addr : Tree → Nat
  | .node a _ _ _ => a
noncomputable def Tree.keys : Tree → List Int
  | .node _ ks _ _ => ks
noncomputable def Tree.vals : Tree → List V
  | .node _ _ vs _ => vs
noncomputable def Tree.kids : Tree → List Tree
  | .node _ _ _ cs => cs
noncomputable def refsOf (cs : List Tree) : List V := cs.map fun t => V.ref t.addr
noncomputable def NodeAt (H : Heap) (a : Nat) (ks : List Int) (vs : List V) (cs : List V) : Prop :=
  ∃ k v c, H a = some (.inst 0 [(0, .ref k), (1, .ref v), (2, .ref c)]) ∧ H k = some (.list (ks.map V.int)) ∧ H v = some (.list vs) ∧ H c = some (.list cs)
mutual
noncomputable def Holds (H : Heap) : Tree → Prop
  | .node a ks vs cs => NodeAt H a ks vs (refsOf cs) ∧ HoldsL H cs
noncomputable def HoldsL (H : Heap) : List Tree → Prop
  | [] => True
  | t :: r => Holds H t ∧ HoldsL H r
end
mutual
noncomputable def Tree.addrs : Tree → List Nat
  | .node a _ _ cs => a :: addrsL cs
noncomputable def addrsL : List Tree → List Nat
  | [] => []
  | t :: r => t.addrs ++ addrsL r
end
theorem NodeAt.le {H H' : Heap} {a : Nat} {ks : List Int} {vs cs : List V} (h : NodeAt H a ks vs cs) (l : H.le H') : NodeAt H' a ks vs cs := let ⟨k, v, c, h1, h2, h3, h4⟩ := h; ⟨k, v, c, l _ _ h1, l _ _ h2, l _ _ h3, l _ _ h4⟩
theorem NodeAt.upd {H : Heap} {a b c : Nat} {ks : List Int} {vs cs : List V} {o : O} {fs : List (Nat × V)} (h : NodeAt H a ks vs cs) (hb : H b = some (.inst c fs)) (hn : b ≠ a) : NodeAt (H.upd b o) a ks vs cs := by
  obtain ⟨k, v, c', h1, h2, h3, h4⟩ := h
  have nl : ∀ {p xs}, H p = some (.list xs) → (H.upd b o) p = some (.list xs) := fun {p xs} hp => by
    rw [upd_ne (fun e => by rw [e, hb] at hp; cases hp)]; exact hp
  exact ⟨k, v, c', (upd_ne (Ne.symm hn)).trans h1, nl h2, nl h3, nl h4⟩
mutual
theorem Holds.le {H H' : Heap} (l : H.le H') : ∀ {t : Tree}, Holds H t → Holds H' t
  | .node _ _ _ _, ⟨h1, h2⟩ => ⟨h1.le l, HoldsL.le l h2⟩
theorem HoldsL.le {H H' : Heap} (l : H.le H') : ∀ {ts : List Tree}, HoldsL H ts → HoldsL H' ts
  | [], _ => trivial
  | _ :: _, ⟨h1, h2⟩ => ⟨Holds.le l h1, HoldsL.le l h2⟩
end
mutual
theorem Holds.upd {H : Heap} {b c : Nat} {o : O} {fs : List (Nat × V)} (hb : H b = some (.inst c fs)) : ∀ {t : Tree}, Holds H t → b ∉ t.addrs → Holds (H.upd b o) t
  | .node a _ _ cs, ⟨h1, h2⟩, hn => by
    simp only [Tree.addrs, List.mem_cons, not_or] at hn
    exact ⟨h1.upd hb hn.1, HoldsL.upd hb h2 hn.2⟩
theorem HoldsL.upd {H : Heap} {b c : Nat} {o : O} {fs : List (Nat × V)} (hb : H b = some (.inst c fs)) : ∀ {ts : List Tree}, HoldsL H ts → b ∉ addrsL ts → HoldsL (H.upd b o) ts
  | [], _, _ => trivial
  | t :: r, ⟨h1, h2⟩, hn => by
    simp only [addrsL, List.mem_append, not_or] at hn
    exact ⟨Holds.upd hb h1 hn.1, HoldsL.upd hb h2 hn.2⟩
end
end ML
namespace ML
theorem le_updF {H G : Heap} {a : Nat} {o : O} (l : H.le G) (h : H a = none) : H.le (G.upd a o) := fun p x hp => by
  have : p ≠ a := fun e => by rw [e, h] at hp; cases hp
  rw [upd_ne this]; exact l _ _ hp
theorem upd_same {H : Heap} {a : Nat} {o : O} (h : H a = some o) : H.upd a o = H := by
  funext b
  by_cases e : b = a
  · rw [e, upd_self, h]
  · rw [upd_ne e]
theorem set_same {α : Type} {l : List α} {j : Nat} {x : α} (h : l[j]? = some x) : l.set j x = l := by
  apply List.ext_getElem?
  intro i
  rw [List.getElem?_set]
  split
  · rename_i e; subst e
    split
    · exact h.symm
    · rename_i q; rw [List.getElem?_eq_none (by (first | lia | omega))]
  · rfl
theorem for_append {Φ : Orac} {m : Loc} {H : Heap} {i j out : Nat} {xs acc : List V} {ok : Heap → Prop} {Q : PS} (hm : m[i]? = some (some (.ref out))) (hij : j ≠ i) (hj : j < m.length) (ho : H out = some (.list acc)) (hz : acc.length + xs.length ≤ lim)
    (hok : ∀ l, ok (H.upd out l)) (k : ∀ x, Q .next (m.set j x) (H.upd out (.list (acc ++ xs)))) : forW (wpSs Φ [.append (.var i) (.var j)]) [j] ok xs m H Q := by
  refine for_inv (fun n m' H' => (∃ x, m' = m.set j x) ∧ H' = H.upd out (.list (acc ++ xs.take n))) ⟨⟨m[j], (set_same (List.getElem?_eq_getElem hj)).symm⟩, by rw [List.take_zero, List.append_nil, upd_same ho]⟩ (fun n x m' H' K hx hI hK => ?_) fun m' H' hI => ?_
  · refine absG fun Cg hCg => ?_
    obtain ⟨⟨y, rfl⟩, rfl⟩ := hI
    refine hCg ?_; clear hCg
    refine ⟨hok _, ?_⟩
    have e1 : ((m.set j y).set j (some x))[i]? = some (some (.ref out)) := by
      rw [List.set_set, List.getElem?_set_ne hij]; exact hm
    have e2 : ((m.set j y).set j (some x))[j]? = some (some x) := by
      rw [List.set_set, List.getElem?_set_self hj]
    have hn : n < xs.length := by
      by_cases q : n < xs.length
      · exact q
      · rw [List.getElem?_eq_none (by (first | lia | omega))] at hx; cases hx
    have hz' : (acc ++ xs.take n).length ≤ lim := by
      rw [List.length_append, List.length_take]; (first | lia | omega)
    show varW ((m.set j y).set j (some x))[i]? _
    rw [e1]
    refine v_isLst upd_self ?_
    show varW ((m.set j y).set j (some x))[j]? _
    rw [e2]
    refine v_append upd_self hz' ?_
    refine turn_next (Q := Q) (hK _ _ ⟨⟨some x, by rw [List.set_set]⟩, ?_⟩)
    rw [upd_upd, List.take_add_one, hx]; simp
  · refine absG fun Cg hCg => ?_
    obtain ⟨⟨y, rfl⟩, rfl⟩ := hI
    refine hCg ?_; clear hCg
    rw [List.take_length]
    exact ⟨hok _, k y⟩
mutual
noncomputable def Tree.flat : Tree → List V
  | .node _ ks vs cs => (V.int ks.length :: ks.map V.int) ++ (vs ++ (V.int cs.length :: flatL cs))
noncomputable def flatL : List Tree → List V
  | [] => []
  | t :: r => t.flat ++ flatL r
end
theorem flatL_app : ∀ a b : List Tree, flatL (a ++ b) = flatL a ++ flatL b
  | [], _ => rfl
  | t :: r, b => by
    show t.flat ++ flatL (r ++ b) = (t.flat ++ flatL r) ++ flatL b
    rw [flatL_app r b, List.append_assoc]
theorem flat_pos : ∀ t : Tree, 2 ≤ t.flat.length
  | .node _ ks vs cs => by simp [Tree.flat]; (first | lia | omega)
theorem flatL_len : ∀ l : List Tree, l.length ≤ (flatL l).length
  | [] => Nat.le_refl _
  | t :: r => by
    have := flat_pos t
    have := flatL_len r
    show r.length + 1 ≤ (t.flat ++ flatL r).length
    rw [List.length_append]; (first | lia | omega)
theorem HoldsL.app {H : Heap} : ∀ {a b : List Tree}, HoldsL H a → HoldsL H b → HoldsL H (a ++ b)
  | [], _, _, h => h
  | _ :: _, _, ⟨h1, h2⟩, h => ⟨h1, HoldsL.app h2 h⟩
section
variable {T : Nat → Option Fn} (S : Sys T)
theorem spec_flat_below (h30 : T 30 = some f_flat_below) {H : Heap} {self : V} {t : Tree} {Q : PV} (ht : Holds H t) (hz : t.flat.length ≤ 900000) (h : ∀ b, H b = none → Q (.ref b) (H.upd b (.list t.flat))) : S.Φ 30 [self, .ref t.addr] H Q := by
  have hlim : lim = 1000000 := rfl
  refine S.call h30 rfl ?_
  dsimp only [f_flat_below]
  walk_at "m"
  walk_at "n"
  refine v_alloc fun o no => ?_
  walk_at "n"
  refine v_alloc fun s ns => ?_
  walk_at "m"
  refine n_whl ?_
  obtain ⟨ns, nso⟩ := upd_none_of ns
  refine ⟨fun n m G => ∃ acc ts x4 x5 x6 x7, m = [some self, some (.ref t.addr), some (.ref o), some (.ref s), x4, x5, x6, x7] ∧ H.le G ∧ G o = some (.list acc) ∧ G s = some (.list (refsOf ts).reverse) ∧ HoldsL H ts ∧ acc ++ flatL ts = t.flat ∧ n = (flatL ts).length,
    (flatL [t]).length, ⟨[], [t], none, none, none, none, rfl, le_updF (le_updF (Heap.le_refl _) no) ns, (upd_ne nso.symm).trans upd_self, upd_self, ⟨ht, trivial⟩, by simp [flatL], rfl⟩, ?_⟩
  intro n m G hIw
  refine hideK fun Kw hKw => absG fun Cg hCg => ?_
  obtain ⟨acc, ts, x4, x5, x6, x7, rfl, le, go, gs, hts, hacc, rfl⟩ := hIw
  refine hCg ?_; clear hCg
  rw [t_cmp]
  walk_at "m"
  refine v_len gs rfl ?_
  walk_at "m"
  cases ts with
  | nil =>
    refine v_ifF (by simp [refsOf]) ?_
    refine n_then ?_
    walk_at "n"
    refine end_new rfl le go no ?_
    have : acc = t.flat := by rw [← hacc]; simp [flatL]
    rw [this]; exact h
  | cons t' rest =>
    refine absG fun Cg hCg => ?_
    obtain ⟨a, ks, vs, cs⟩ := t'
    obtain ⟨⟨⟨pk, pv, pc, ha, hk, hv, hc⟩, hcs⟩, hrest⟩ := hts
    have hl : (refsOf (Tree.node a ks vs cs :: rest)).reverse = (refsOf rest).reverse ++ [V.ref a] := by simp [refsOf, Tree.addr]
    have hll : ((refsOf rest).reverse ++ [V.ref a]).length = rest.length + 1 := by simp [refsOf]
    refine hCg ?_; clear hCg
    rw [hl] at gs ⊢
    rw [hll]
    have hlen : (flatL (Tree.node a ks vs cs :: rest)).length ≤ t.flat.length := by rw [← hacc, List.length_append]; (first | lia | omega)
    have hrl : rest.length + 1 ≤ t.flat.length := Nat.le_trans (flatL_len (Tree.node a ks vs cs :: rest)) hlen
    have hal : acc.length + (flatL (Tree.node a ks vs cs :: rest)).length = t.flat.length := by rw [← hacc, List.length_append]
    have hfl : flatL (Tree.node a ks vs cs :: rest) = (V.int ks.length :: ks.map V.int) ++ (vs ++ (V.int cs.length :: flatL cs)) ++ flatL rest := rfl
    have hfn : (flatL (Tree.node a ks vs cs :: rest)).length = ks.length + vs.length + (flatL cs).length + (flatL rest).length + 2 := by rw [hfl]; simp; (first | lia | omega)
    have hcl := flatL_len cs
    have hrl2 := flatL_len rest
    refine v_ifT (by simp) ?_
    walk_at "n"
    refine v_len gs rfl ?_
    walk_at "m"
    rw [hll]
    refine v_idx (v := .ref a) gs rfl (by (first | lia | omega)) (by (first | lia | omega)) (by
      have e : ((((rest.length + 1 : Nat) : Int) - 1)).toNat = (refsOf rest).reverse.length := by simp [refsOf]
      rw [e, List.getElem?_append_right (Nat.le_refl _)]; simp) ?_
    walk_at "n"
    refine v_len gs rfl ?_
    walk_at "m"
    rw [hll]
    refine v_del gs (by (first | lia | omega)) (by rw [hll]; (first | lia | omega)) (by rw [hll]; (first | lia | omega)) ?_
    have e : ((refsOf rest).reverse ++ [V.ref a]).eraseIdx ((((rest.length + 1 : Nat) : Int) - 1)).toNat = (refsOf rest).reverse := by
      have e : ((((rest.length + 1 : Nat) : Int) - 1)).toNat = (refsOf rest).reverse.length := by simp [refsOf]
      rw [e, List.eraseIdx_append_of_length_le (Nat.le_refl _)]; simp
    rw [e]
    generalize hG1 : G.upd s (.list (refsOf rest).reverse) = G1
    have le1 : H.le G1 := hG1 ▸ le_updF le ns
    have go1 : G1 o = some (.list acc) := by rw [← hG1, upd_ne nso.symm]; exact go
    have gs1 : G1 s = some (.list (refsOf rest).reverse) := by rw [← hG1]; exact upd_self
    clear hG1
    walk_at "n"
    refine v_isLst go1 ?_
    refine v_attr (le1 _ _ ha) rfl ?_
    refine v_len (le1 _ _ hk) rfl ?_
    refine v_append go1 (by (first | lia | omega)) ?_
    have nok : pk ≠ o := fun e => by rw [e, no] at hk; cases hk
    have nov : pv ≠ o := fun e => by rw [e, no] at hv; cases hv
    have noc : pc ≠ o := fun e => by rw [e, no] at hc; cases hc
    have nsc : pc ≠ s := fun e => by rw [e, ns] at hc; cases hc
    have noa : a ≠ o := fun e => by rw [e, no] at ha; cases ha
    have nsa : a ≠ s := fun e => by rw [e, ns] at ha; cases ha
    walk_at "n"
    refine v_attr ((upd_ne noa).trans (le1 _ _ ha)) rfl ?_
    refine v_of ((upd_ne nok).trans (le1 _ _ hk)) rfl ?_
    refine for_append rfl (by decide) (by simp) upd_self (by simp; (first | lia | omega)) (fun l => (upd_ne nok).trans ((upd_ne nok).trans (le1 _ _ hk))) fun y5 => ?_
    rw [upd_upd]
    refine n_then ?_
    walk_at "n"
    refine v_attr ((upd_ne noa).trans (le1 _ _ ha)) rfl ?_
    refine v_of ((upd_ne nov).trans (le1 _ _ hv)) rfl ?_
    refine for_append rfl (by decide) (by simp) upd_self (by simp; (first | lia | omega)) (fun l => (upd_ne nov).trans ((upd_ne nov).trans (le1 _ _ hv))) fun y6 => ?_
    rw [upd_upd]
    refine n_then ?_
    walk_at "n"
    refine v_isLst upd_self ?_
    refine v_attr ((upd_ne noa).trans (le1 _ _ ha)) rfl ?_
    refine v_len ((upd_ne noc).trans (le1 _ _ hc)) rfl ?_
    refine v_append upd_self (by simp; (first | lia | omega)) ?_
    rw [upd_upd]
    generalize hacc2 : acc ++ [V.int (List.map V.int ks).length] ++ List.map V.int ks ++ vs ++ [V.int (refsOf cs).length] = acc2
    generalize hG2 : G1.upd o (.list acc2) = G2
    have le2 : H.le G2 := hG2 ▸ le_updF le1 no
    have go2 : G2 o = some (.list acc2) := by rw [← hG2]; exact upd_self
    have gs2 : G2 s = some (.list (refsOf rest).reverse) := by rw [← hG2, upd_ne nso]; exact gs1
    clear hG2
    walk_at "n"
    refine v_attr (le2 _ _ ha) rfl ?_
    refine v_len (le2 _ _ hc) rfl ?_
    walk_at "m"
    have hrc : (refsOf cs).length = cs.length := by simp [refsOf]
    rw [hrc]
    refine v_rngD (mid_of (by (first | lia | omega)) (by (first | lia | omega))) (mid_of (by (first | lia | omega)) (by (first | lia | omega))) ?_
    refine for_inv (fun n m G => ∃ x7 y, m = [some self, some (.ref t.addr), some (.ref o), some (.ref s), some (.ref a), y5, y6, x7] ∧ G = G2.upd s (.list ((refsOf rest).reverse ++ y)) ∧ y = (refsOf cs).reverse.take n) ⟨x7, [], rfl, by rw [List.append_nil, upd_same gs2], rfl⟩ (fun n x m G3 K hx hI hK => ?_) fun m G3 hI => ?_
    · refine absG fun Cg hCg => ?_
      obtain ⟨x7, y, rfl, rfl, rfl⟩ := hI
      obtain ⟨rfl, hlt⟩ := rngDown_get hx
      refine hCg ?_; clear hCg
      refine ⟨trivial, ?_⟩
      walk_at "m"
      walk_at "n"
      refine v_isLst upd_self ?_
      refine v_attr ((upd_ne nsa).trans (le2 _ _ ha)) rfl ?_
      have hn : n < cs.length := by (first | lia | omega)
      have hget : (refsOf cs).reverse[n]? = (refsOf cs)[cs.length - 1 - n]? := by
        rw [List.getElem?_reverse (by rw [hrc]; exact hn), hrc]
      have hnn : cs.length - 1 - n < (refsOf cs).length := by rw [hrc]; (first | lia | omega)
      refine v_idx (v := (refsOf cs)[cs.length - 1 - n]) ((upd_ne nsc).trans (le2 _ _ hc)) rfl (by (first | lia | omega)) (by (first | lia | omega)) (by
        have e : ((cs.length : Int) - 1 - n).toNat = cs.length - 1 - n := by (first | lia | omega)
        rw [e]; exact List.getElem?_eq_getElem hnn) ?_
      refine v_append upd_self (by simp [refsOf]; (first | lia | omega)) ?_
      refine n_nil ?_
      refine turn_next (hK _ _ ⟨_, (refsOf cs).reverse.take (n + 1), rfl, ?_, rfl⟩)
      rw [upd_upd, List.take_add_one, hget, List.getElem?_eq_getElem hnn, List.append_assoc]; rfl
    · refine absG fun Cg hCg => ?_
      obtain ⟨x7, y, rfl, rfl, rfl⟩ := hI
      refine hCg ?_; clear hCg
      refine ⟨trivial, ?_⟩
      rw [rngDown_len]
      have e : ((cs.length : Int) - 1 - -1).toNat = cs.length := by (first | lia | omega)
      rw [e, List.take_of_length_le (by simp [refsOf])]
      refine n_then (n_nil ?_)
      refine turn_next (hKw _ _ ⟨(flatL (cs ++ rest)).length, by rw [flatL_app, List.length_append]; (first | lia | omega), acc2, cs ++ rest, _, _, _, _, rfl, le_updF le2 ns, (upd_ne nso.symm).trans go2, by rw [upd_self]; simp [refsOf], HoldsL.app hcs hrest, ?_, rfl⟩)
      rw [← hacc, ← hacc2, hfl, flatL_app]
      simp [refsOf]
end
end ML
namespace ML
noncomputable def f_law_cell : Fn := ⟨2, 2, [
  .ite (.cmp .lt (.var 1) (.prim .len [(.var 0)])) [
    .ret (some (.idx (.var 0) (.var 1)))] [],
  .ret (some (.lit (.int 0)))]⟩
noncomputable def cell (ns : List Int) (k : Int) : Int := (ns[k.toNat]?).getD 0
theorem emod_b (c n : Int) (h : 0 < n) : 0 ≤ c % n ∧ c % n < n := ⟨Int.emod_nonneg _ (by (first | lia | omega)), Int.emod_lt_of_pos _ h⟩
theorem v_allocL {o : O} {H : Heap} {Q : PV} (k : ∀ a H', H.le H' → H a = none → H' a = some o → Q (.ref a) H') : allocW o H Q := fun a na => k a _ (Heap.le_upd na) na upd_self
noncomputable def Heap.del (H : Heap) (a : Nat) : Heap := fun b => if b = a then none else H b
theorem del_self {H : Heap} {a : Nat} : H.del a a = none := by simp [Heap.del]
theorem del_ne {H : Heap} {a p : Nat} (h : p ≠ a) : H.del a p = H p := by simp [Heap.del, h]
theorem del_le {H : Heap} {a : Nat} : (H.del a).le H := fun p o h => by
  by_cases e : p = a
  · rw [e, del_self] at h; cases h
  · rw [del_ne e] at h; exact h
theorem del_upd {H : Heap} {a : Nat} {o : O} : (H.upd a o).del a = H.del a := by
  funext b
  by_cases e : b = a
  · rw [e, del_self, del_self]
  · rw [del_ne e, del_ne e, upd_ne e]
section
variable {T : Nat → Option Fn} (S : Sys T)
theorem spec_cell (hd : T 50 = some f_law_cell) {H : Heap} {a : Nat} {ns : List Int} {k : Int} {Q : PV} (ha : H a = some (.ro (ns.map V.int))) (h0 : 0 ≤ k) (hn : ns.length ≤ 63) (h : Q (.int (cell ns k)) H) : S.Φ 50 [.ref a, .int k] H Q := by
  refine S.call hd rfl ?_
  dsimp only [f_law_cell]
  walk_at "z"
  refine v_len ha rfl ?_
  walk_at "z"
  rw [List.length_map]
  refine v_if (fun e => ?_) fun e => ?_
  · have e := of_decide_eq_true e
    refine v_idx (xs := ns.map V.int) (v := .int (cell ns k)) ha rfl h0 (by unfold lim; (first | lia | omega)) ?_ ?_
    · unfold cell
      rw [List.getElem?_map, List.getElem?_eq_getElem (by (first | lia | omega))]; rfl
    · exact end_ret rfl h
  · have e := of_decide_eq_false e
    refine end_ret rfl ?_
    unfold cell at h
    rw [List.getElem?_eq_none (by (first | lia | omega))] at h
    exact h
end
end ML
namespace ML
noncomputable def Tree.lh : Tree → Nat
  | .node _ _ _ [] => 0
  | .node _ _ _ (c :: _) => c.lh + 1
theorem Holds.at {H : Heap} : ∀ {t : Tree}, Holds H t → NodeAt H t.addr t.keys t.vals (refsOf t.kids)
  | .node _ _ _ _, h => h.1
section
variable {T : Nat → Option Fn} (S : Sys T)
theorem new_canopy (h0 : T 0 = some f_Node_init) (h1 : T 1 = some f_Canopy_init) {H : Heap} {x : V} {Q : Nat → Heap → Prop}
    (h : ∀ c n H', H.le H' → H c = none → H n = none → n ≠ c → H' c = some (.inst 1 [(3, x), (4, .ref n), (5, .int 0)]) → Holds (H'.del c) (.node n [] [] []) → Q c H') :
    ∀ a, H a = none → S.Φ 1 (.ref a :: [x]) (H.upd a (.inst 1 [])) fun r H => r = .none ∧ Q a H := fun a na => by
  refine S.call h1 rfl ?_
  dsimp only [f_Canopy_init]
  walk_at "z"
  refine v_setAttr (fs' := [(3, x)]) upd_self (by simp) rfl ?_
  walk_at "z"
  rw [upd_upd]
  refine v_alloc fun k nk => ?_
  refine v_alloc fun v nv => ?_
  refine v_alloc fun c nc => ?_
  walk_at "z"
  refine new_node S h0 fun n nn => ?_
  obtain ⟨nn, e3⟩ := upd_none_of nn
  obtain ⟨nn, e2⟩ := upd_none_of nn
  obtain ⟨nn, e1⟩ := upd_none_of nn
  obtain ⟨nn, e0⟩ := upd_none_of nn
  obtain ⟨nc, d2⟩ := upd_none_of nc
  obtain ⟨nc, d1⟩ := upd_none_of nc
  obtain ⟨nc, d0⟩ := upd_none_of nc
  obtain ⟨nv, c1⟩ := upd_none_of nv
  obtain ⟨nv, c0⟩ := upd_none_of nv
  obtain ⟨nk, b0⟩ := upd_none_of nk
  walk_at "z"
  refine v_setAttr (c := 1) (fs := [(3, x)]) (fs' := [(3, x), (4, .ref n)]) ((upd_ne e0.symm).trans ((upd_ne d0.symm).trans ((upd_ne c0.symm).trans ((upd_ne b0.symm).trans upd_self)))) (by simp) rfl ?_
  walk_at "z"
  refine v_setAttr (fs' := [(3, x), (4, .ref n), (5, .int 0)]) upd_self (by simp) rfl ?_
  rw [upd_upd]
  refine ⟨_, Heap.le_refl _, rfl, h a n _ ?_ na nn e0 upd_self ?_⟩
  · exact le_updF (le_updF (le_updF (le_updF (le_updF (le_updF (Heap.le_refl _) na) nk) nv) nc) nn) na
  · rw [del_upd]
    refine ⟨⟨k, v, c, ?_, ?_, ?_, ?_⟩, trivial⟩
    · rw [del_ne e0, upd_self]
    · rw [del_ne b0, upd_ne e1.symm, upd_ne d1.symm, upd_ne c1.symm, upd_self]; rfl
    · rw [del_ne c0, upd_ne e2.symm, upd_ne d2.symm, upd_self]
    · rw [del_ne d0, upd_ne e3.symm, upd_self]; rfl
theorem spec_flat (h30 : T 30 = some f_flat_below) (h31 : T 31 = some f_flat) {H : Heap} {c : Nat} {x z : V} {t : Tree} {Q : PV} (hc : H c = some (.inst 1 [(3, x), (4, .ref t.addr), (5, z)])) (ht : Holds H t) (hz : t.flat.length ≤ 900000)
    (h : ∀ b, H b = none → Q (.ref b) (H.upd b (.list (x :: t.flat)))) : S.Φ 31 [.ref c] H Q := by
  have hlim : lim = 1000000 := rfl
  refine S.call h31 rfl ?_
  dsimp only [f_flat]
  walk_at "z"
  refine v_attr hc rfl ?_
  walk_at "z"
  refine v_alloc fun p np => ?_
  walk_at "z"
  refine v_isInst (upd_fresh np hc) ?_
  refine v_attr (upd_fresh np hc) rfl ?_
  refine spec_flat_below S h30 (ht.le (Heap.le_upd np)) hz fun q nq => ?_
  refine v_addL (upd_fresh nq upd_self) upd_self (by simp; (first | lia | omega)) fun b nb => ?_
  obtain ⟨nb', _⟩ := upd_none_of nb
  obtain ⟨nb', _⟩ := upd_none_of nb'
  exact end_new rfl (Heap.le_trans (Heap.le_trans (Heap.le_upd np) (Heap.le_upd nq)) (Heap.le_upd nb)) upd_self nb' h
end
end ML
namespace ML
noncomputable abbrev KV := Int × V
section
variable {α : Type}
noncomputable def weave : List (List α) → List α → List α
  | [], ps => ps
  | c :: cs, [] => c ++ weave cs []
  | c :: cs, p :: ps => c ++ p :: weave cs ps
noncomputable def weaveL : List (List α) → List α → List α
  | a :: A, p :: P => a ++ p :: weaveL A P
  | _, _ => []
noncomputable def weaveR (Q : List α) (B : List (List α)) : List α := match Q with
  | [] => weave B []
  | q :: Q => q :: weave B Q
theorem weave_cons {c : List α} {B : List (List α)} {Q : List α} : weave (c :: B) Q = c ++ weaveR Q B := by cases Q <;> rfl
theorem weave_split {c : List α} {B : List (List α)} {Q : List α} : ∀ {A : List (List α)} {P : List α}, A.length = P.length → weave (A ++ c :: B) (P ++ Q) = weaveL A P ++ (c ++ weaveR Q B)
  | [], [], _ => weave_cons
  | a :: A, p :: P, h => by
    show a ++ p :: weave (A ++ c :: B) (P ++ Q) = (a ++ p :: weaveL A P) ++ (c ++ weaveR Q B)
    rw [weave_split (A := A) (P := P) (by simpa using h)]
    simp
  | [], _ :: _, h => by cases h
  | _ :: _, [], h => by cases h
theorem weave_cat {X2 : List (List α)} {m : α} {P2 : List α} : ∀ {X1 : List (List α)} {P1 : List α}, X1.length = P1.length + 1 → weave (X1 ++ X2) (P1 ++ m :: P2) = weave X1 P1 ++ m :: weave X2 P2
  | [x], [], _ => by simp [weave]
  | x :: X1, p :: P1, h => by
    show x ++ p :: weave (X1 ++ X2) (P1 ++ m :: P2) = (x ++ p :: weave X1 P1) ++ m :: weave X2 P2
    rw [weave_cat (X1 := X1) (P1 := P1) (by simpa using h)]
    simp
  | [], _, h => by simp at h
  | _ :: _ :: _, [], h => by simp at h
theorem weave_len : ∀ {C : List (List α)} {P : List α}, P.length ≤ (weave C P).length
  | [], _ => Nat.le_refl _
  | _ :: _, [] => Nat.zero_le _
  | c :: C, p :: P => by
    have := weave_len (C := C) (P := P)
    show P.length + 1 ≤ (c ++ p :: weave C P).length
    simp; (first | lia | omega)
end
mutual
noncomputable def ino : Tree → List KV
  | .node _ ks vs cs => weave (inoL cs) (ks.zip vs)
noncomputable def inoL : List Tree → List (List KV)
  | [] => []
  | t :: r => ino t :: inoL r
end
theorem inoL_map : ∀ l : List Tree, inoL l = l.map ino
  | [] => rfl
  | t :: r => by show ino t :: inoL r = _; rw [inoL_map r]; rfl
noncomputable def Srt (l : List KV) : Prop := l.Pairwise fun a b => a.1 < b.1
noncomputable def putL (l : List KV) (k : Int) (v : V) : List KV := l.filter (fun p => decide (p.1 < k)) ++ (k, v) :: l.filter (fun p => decide (k < p.1))
theorem filt_all {l : List KV} {p : KV → Bool} (h : ∀ x ∈ l, p x = true) : l.filter p = l := List.filter_eq_self.mpr h
theorem filt_none {l : List KV} {p : KV → Bool} (h : ∀ x ∈ l, p x = false) : l.filter p = [] := List.filter_eq_nil_iff.mpr fun x hx => by rw [h x hx]; decide
theorem putL_mid {L M R : List KV} {k : Int} {v : V} (hL : ∀ x ∈ L, x.1 < k) (hR : ∀ x ∈ R, k < x.1) : putL (L ++ (M ++ R)) k v = L ++ (putL M k v ++ R) := by
  unfold putL
  simp only [List.filter_append]
  rw [filt_all (l := L) (p := fun p => decide (p.1 < k)) fun x hx => by simpa using hL x hx, filt_none (l := R) (p := fun p => decide (p.1 < k)) fun x hx => by have := hR x hx; simp; (first | lia | omega),
    filt_none (l := L) (p := fun p => decide (k < p.1)) fun x hx => by have := hL x hx; simp; (first | lia | omega), filt_all (l := R) (p := fun p => decide (k < p.1)) fun x hx => by simpa using hR x hx]
  simp
theorem putL_new {L R : List KV} {k : Int} {v : V} (hL : ∀ x ∈ L, x.1 < k) (hR : ∀ x ∈ R, k < x.1) : putL (L ++ R) k v = L ++ (k, v) :: R := by
  have := putL_mid (M := []) (v := v) hL hR
  simpa [putL] using this
theorem putL_old {L R : List KV} {k : Int} {v w : V} (hs : Srt (L ++ (k, w) :: R)) : putL (L ++ (k, w) :: R) k v = L ++ (k, v) :: R := by
  have h := List.pairwise_append.mp hs
  have h2 := List.pairwise_cons.mp h.2.1
  have := putL_mid (L := L) (M := [(k, w)]) (R := R) (k := k) (v := v) (fun x hx => h.2.2 x hx (k, w) (.head _)) (fun x hx => h2.1 x hx)
  simpa [putL] using this
theorem Srt.left {a b : List KV} (h : Srt (a ++ b)) : Srt a := (List.pairwise_append.mp h).1
theorem Srt.right {a b : List KV} (h : Srt (a ++ b)) : Srt b := (List.pairwise_append.mp h).2.1
theorem Srt.sub {a b : List KV} (s : List.Sublist a b) (h : Srt b) : Srt a := List.Pairwise.sublist s h
theorem putL_srt {l : List KV} {k : Int} {v : V} (h : Srt l) : Srt (putL l k v) := by
  unfold putL
  refine List.pairwise_append.mpr ⟨h.sub List.filter_sublist, List.pairwise_cons.mpr ⟨fun x hx => by simpa using (List.mem_filter.mp hx).2, h.sub List.filter_sublist⟩, fun x hx y hy => ?_⟩
  have h1 : x.1 < k := by simpa using (List.mem_filter.mp hx).2
  rcases List.mem_cons.mp hy with rfl | hy
  · exact h1
  · have h2 : k < y.1 := by simpa using (List.mem_filter.mp hy).2
    (first | lia | omega)
theorem weaveL_lt {k : Int} {R : List KV} : ∀ {A : List (List KV)} {P : List KV}, Srt (weaveL A P ++ R) → (∀ p ∈ P, p.1 < k) → ∀ x ∈ weaveL A P, x.1 < k
  | [], _, _, _, _, hx => by cases hx
  | _ :: _, [], _, _, _, hx => by cases hx
  | a :: A, p :: P, hs, hp, x, hx => by
    have e : weaveL (a :: A) (p :: P) ++ R = a ++ (p :: (weaveL A P ++ R)) := by simp [weaveL]
    rw [e] at hs
    have h := List.pairwise_append.mp hs
    have hp0 := hp p (.head _)
    rcases List.mem_append.mp (show x ∈ a ++ p :: weaveL A P from hx) with q | q
    · have := h.2.2 x q p (.head _)
      (first | lia | omega)
    · rcases List.mem_cons.mp q with rfl | q
      · exact hp0
      · exact weaveL_lt (List.pairwise_cons.mp h.2.1).2 (fun y hy => hp y (.tail _ hy)) x q
theorem weaveR_gt {k : Int} {Q : List KV} {B : List (List KV)} (hs : Srt (weaveR Q B)) (hQ : ∀ p ∈ Q, k < p.1) (hB : Q = [] → B = []) : ∀ x ∈ weaveR Q B, k < x.1 := by
  intro x hx
  cases Q with
  | nil => rw [hB rfl] at hx; cases hx
  | cons q Q =>
    have h0 := hQ q (.head _)
    rcases List.mem_cons.mp (show x ∈ q :: weave B Q from hx) with rfl | q'
    · exact h0
    · have := (List.pairwise_cons.mp hs).1 x q'
      (first | lia | omega)
noncomputable def Sh (T : Nat) : Nat → Tree → Prop
  | 0, .node _ ks vs cs => cs = [] ∧ vs.length = ks.length ∧ ks.length ≤ 2 * T - 1
  | h + 1, .node _ ks vs cs => cs.length = ks.length + 1 ∧ vs.length = ks.length ∧ ks.length ≤ 2 * T - 1 ∧ ∀ c ∈ cs, Sh T h c ∧ T - 1 ≤ c.keys.length
theorem Sh.len {T h : Nat} {t : Tree} (s : Sh T h t) : t.vals.length = t.keys.length ∧ t.keys.length ≤ 2 * T - 1 := by
  cases h <;> cases t
  · exact ⟨s.2.1, s.2.2⟩
  · exact ⟨s.2.1, s.2.2.1⟩
noncomputable def ins {α : Type} (l : List α) (i : Nat) (x : α) : List α := l.take i ++ x :: l.drop i
theorem ins_len {α : Type} {l : List α} {i : Nat} {x : α} : (ins l i x).length = l.length + 1 := by
  have := congrArg List.length (List.take_append_drop i l)
  rw [List.length_append] at this
  unfold ins
  rw [List.length_append, List.length_cons]; (first | lia | omega)
theorem zip_take {α β : Type} : ∀ (a : List α) (b : List β) (i : Nat), (a.take i).zip (b.take i) = (a.zip b).take i
  | [], _, _ => by simp
  | _ :: _, [], _ => by simp
  | x :: a, y :: b, 0 => by simp
  | x :: a, y :: b, i + 1 => by simp [zip_take a b i]
theorem zip_drop {α β : Type} : ∀ (a : List α) (b : List β) (i : Nat), (a.drop i).zip (b.drop i) = (a.zip b).drop i
  | [], _, _ => by simp
  | _ :: _, [], _ => by simp
  | x :: a, y :: b, 0 => by simp
  | x :: a, y :: b, i + 1 => by simp [zip_drop a b i]
theorem zip_ins {ks : List Int} {vs : List V} {i : Nat} {k : Int} {v : V} (h : vs.length = ks.length) : (ins ks i k).zip (ins vs i v) = ins (ks.zip vs) i (k, v) := by
  unfold ins
  have hl : (ks.take i).length = (vs.take i).length := by rw [List.length_take, List.length_take, h]
  rw [List.zip_append hl, List.zip_cons_cons, zip_take, zip_drop]
theorem zip_set {v : V} {k : Int} : ∀ {ks : List Int} {vs : List V} {i : Nat}, ks[i]? = some k → ks.zip (vs.set i v) = (ks.zip vs).set i (k, v)
  | [], _, _, h => by simp at h
  | x :: ks, [], i, _ => by simp
  | x :: ks, y :: vs, 0, h => by simp at h; simp [h]
  | x :: ks, y :: vs, i + 1, h => by
    have := zip_set (v := v) (ks := ks) (vs := vs) (i := i) (by simpa using h)
    simp [this]
theorem zip_len {ks : List Int} {vs : List V} (h : vs.length = ks.length) : (ks.zip vs).length = ks.length := by rw [List.length_zip]; (first | lia | omega)
theorem set_split {α : Type} {l : List α} {i : Nat} {x : α} (h : i < l.length) : l.set i x = l.take i ++ x :: l.drop (i + 1) := by
  rw [List.set_eq_take_append_cons_drop]; simp [h]
theorem get_split {α : Type} {l : List α} {i : Nat} {x : α} (h : l[i]? = some x) : l = l.take i ++ x :: l.drop (i + 1) := by
  have := drop_cons h
  rw [← this, List.take_append_drop]
theorem below_lt {ks : List Int} {key : Int} (hs : ks.Pairwise (· < ·)) : ∀ (j : Nat) k, j < below ks key → ks[j]? = some k → k < key := by
  intro j k hj hk
  unfold below at hj
  induction ks generalizing j with
  | nil => simp at hk
  | cons x r ih =>
    have h := List.pairwise_cons.mp hs
    rw [List.filter_cons] at hj
    split at hj
    · rename_i q
      have q : x < key := by simpa using q
      cases j with
      | zero => simp at hk; (first | lia | omega)
      | succ j => exact ih h.2 j (by simpa using hj) (by simpa using hk)
    · rename_i q
      have q : ¬ x < key := by simpa using q
      have : r.filter (fun k => decide (k < key)) = [] := List.filter_eq_nil_iff.mpr fun y hy => by have := h.1 y hy; simp; (first | lia | omega)
      rw [this] at hj; simp at hj
theorem below_ge {ks : List Int} {key : Int} (hs : ks.Pairwise (· < ·)) : ∀ (j : Nat) k, below ks key ≤ j → ks[j]? = some k → key ≤ k := by
  intro j k hj hk
  unfold below at hj
  induction ks generalizing j with
  | nil => simp at hk
  | cons x r ih =>
    have h := List.pairwise_cons.mp hs
    rw [List.filter_cons] at hj
    split at hj
    · cases j with
      | zero => simp at hj
      | succ j => exact ih h.2 j (by simpa using hj) (by simpa using hk)
    · rename_i q
      have q : ¬ x < key := by simpa using q
      cases j with
      | zero => simp at hk; (first | lia | omega)
      | succ j =>
        have : k ∈ r := List.mem_of_getElem? (by simpa using hk)
        have := h.1 k this
        (first | lia | omega)
theorem below_le {ks : List Int} {key : Int} : below ks key ≤ ks.length := List.length_filter_le _ _
theorem zip_mem_take {ks : List Int} {vs : List V} {i : Nat} {p : KV} (h : p ∈ (ks.zip vs).take i) : ∃ j, j < i ∧ ks[j]? = some p.1 := by
  obtain ⟨j, hj⟩ := List.mem_iff_getElem?.mp h
  rw [List.getElem?_take] at hj
  split at hj
  · rename_i q
    exact ⟨j, q, (List.getElem?_zip_eq_some.mp hj).1⟩
  · cases hj
theorem zip_mem_drop {ks : List Int} {vs : List V} {i : Nat} {p : KV} (h : p ∈ (ks.zip vs).drop i) : ∃ j, i ≤ j ∧ ks[j]? = some p.1 := by
  obtain ⟨j, hj⟩ := List.mem_iff_getElem?.mp h
  rw [List.getElem?_drop] at hj
  exact ⟨i + j, by (first | lia | omega), (List.getElem?_zip_eq_some.mp hj).1⟩
theorem weave_sub {α : Type} : ∀ {C : List (List α)} {P : List α}, P.Sublist (weave C P)
  | [], _ => List.Sublist.refl _
  | _ :: _, [] => List.nil_sublist _
  | c :: C, p :: P => by
    show (p :: P).Sublist (c ++ p :: weave C P)
    exact (List.Sublist.cons_cons p (weave_sub (C := C) (P := P))).trans (List.sublist_append_right c _)
theorem keys_srt {a : Nat} {ks : List Int} {vs : List V} {cs : List Tree} (h : Srt (ino (.node a ks vs cs))) (hv : vs.length = ks.length) : ks.Pairwise (· < ·) := by
  have h1 : Srt (ks.zip vs) := Srt.sub weave_sub h
  have h2 : ((ks.zip vs).map Prod.fst).Pairwise (· < ·) := List.pairwise_map.mpr h1
  rwa [List.map_fst_zip (by (first | lia | omega))] at h2
theorem inoL_split {cs : List Tree} {i : Nat} {c : Tree} (h : cs[i]? = some c) : inoL cs = inoL (cs.take i) ++ ino c :: inoL (cs.drop (i + 1)) := by
  have := get_split h
  rw [inoL_map, inoL_map, inoL_map]
  conv => lhs; rw [this]
  simp
theorem inoL_set {cs : List Tree} {i : Nat} {c c' : Tree} (h : cs[i]? = some c) : inoL (cs.set i c') = inoL (cs.take i) ++ ino c' :: inoL (cs.drop (i + 1)) := by
  have hi : i < cs.length := lt_of_get h
  rw [set_split hi, inoL_map, inoL_map, inoL_map]
  simp
noncomputable def inL (ks : List Int) (vs : List V) (cs : List Tree) (i : Nat) : List KV := weaveL (inoL (cs.take i)) ((ks.zip vs).take i)
noncomputable def inR (ks : List Int) (vs : List V) (cs : List Tree) (i : Nat) : List KV := weaveR ((ks.zip vs).drop i) (inoL (cs.drop (i + 1)))
theorem ino_at {a : Nat} {ks : List Int} {vs : List V} {cs : List Tree} {i : Nat} {c : Tree} (hv : vs.length = ks.length) (hi : i ≤ ks.length) (hc : cs[i]? = some c) : ino (.node a ks vs cs) = inL ks vs cs i ++ (ino c ++ inR ks vs cs i) := by
  have hlt : i < cs.length := lt_of_get hc
  show weave (inoL cs) (ks.zip vs) = _
  conv => lhs; rw [inoL_split hc, ← List.take_append_drop i (ks.zip vs)]
  exact weave_split (by rw [inoL_map, List.length_map, List.length_take, List.length_take, zip_len hv]; (first | lia | omega))
theorem ino_set {a : Nat} {ks : List Int} {vs : List V} {cs : List Tree} {i : Nat} {c c' : Tree} (hv : vs.length = ks.length) (hi : i ≤ ks.length) (hc : cs[i]? = some c) : ino (.node a ks vs (cs.set i c')) = inL ks vs cs i ++ (ino c' ++ inR ks vs cs i) := by
  have hlt : i < cs.length := lt_of_get hc
  show weave (inoL (cs.set i c')) (ks.zip vs) = _
  conv => lhs; rw [inoL_set hc, ← List.take_append_drop i (ks.zip vs)]
  exact weave_split (by rw [inoL_map, List.length_map, List.length_take, List.length_take, zip_len hv]; (first | lia | omega))
structure Under (ks : List Int) (i : Nat) (key : Int) : Prop where
  lt : ∀ (j : Nat) k, j < i → ks[j]? = some k → k < key
  gt : ∀ (j : Nat) k, i ≤ j → ks[j]? = some k → key < k
theorem under_sides {ks : List Int} {vs : List V} {cs : List Tree} {i : Nat} {c : Tree} {key : Int} {a : Nat} (hv : vs.length = ks.length) (hcl : cs.length = ks.length + 1) (hi : i ≤ ks.length) (hc : cs[i]? = some c) (hs : Srt (ino (.node a ks vs cs))) (u : Under ks i key) :
    (∀ x ∈ inL ks vs cs i, x.1 < key) ∧ ∀ x ∈ inR ks vs cs i, key < x.1 := by
  rw [ino_at hv hi hc] at hs
  refine ⟨weaveL_lt hs fun p hp => ?_, weaveR_gt (Srt.right (Srt.right hs)) (fun p hp => ?_) fun q => ?_⟩
  · obtain ⟨j, hj, e⟩ := zip_mem_take hp
    exact u.lt j _ hj e
  · obtain ⟨j, hj, e⟩ := zip_mem_drop hp
    exact u.gt j _ hj e
  · have : ((ks.zip vs).drop i).length = 0 := by rw [q]; rfl
    rw [List.length_drop, zip_len hv] at this
    rw [List.drop_of_length_le (by (first | lia | omega))]; rfl
theorem put_child {ks : List Int} {vs : List V} {cs : List Tree} {i : Nat} {c c' : Tree} {key : Int} {v : V} {a : Nat} (hv : vs.length = ks.length) (hcl : cs.length = ks.length + 1) (hi : i ≤ ks.length) (hc : cs[i]? = some c) (hs : Srt (ino (.node a ks vs cs))) (u : Under ks i key)
    (h : ino c' = putL (ino c) key v) : ino (.node a ks vs (cs.set i c')) = putL (ino (.node a ks vs cs)) key v := by
  obtain ⟨h1, h2⟩ := under_sides hv hcl hi hc hs u
  rw [ino_set hv hi hc, ino_at hv hi hc, putL_mid h1 h2, h]
theorem put_found {ks : List Int} {vs : List V} {cs : List Tree} {i : Nat} {key : Int} {v : V} {a : Nat} (hv : vs.length = ks.length) (hcl : cs = [] ∨ cs.length = ks.length + 1) (hk : ks[i]? = some key) (hs : Srt (ino (.node a ks vs cs))) :
    ino (.node a ks (vs.set i v) cs) = putL (ino (.node a ks vs cs)) key v := by
  have hi : i < ks.length := lt_of_get hk
  have hiv : i < (ks.zip vs).length := by rw [zip_len hv]; exact hi
  have e1 : ks.zip (vs.set i v) = (ks.zip vs).take i ++ (key, v) :: (ks.zip vs).drop (i + 1) := by rw [zip_set hk, set_split hiv]
  have e2 : ks.zip vs = (ks.zip vs).take i ++ (key, vs[i]'(by (first | lia | omega))) :: (ks.zip vs).drop (i + 1) := get_split (by
    rw [List.getElem?_zip_eq_some]
    exact ⟨hk, List.getElem?_eq_getElem _⟩)
  have key' : ∃ X Y, ∀ w : V, weave (inoL cs) ((ks.zip vs).take i ++ (key, w) :: (ks.zip vs).drop (i + 1)) = X ++ (key, w) :: Y := by
    rcases hcl with rfl | hcl
    · exact ⟨_, _, fun w => rfl⟩
    · have hc : cs[i]? = some (cs[i]'(by (first | lia | omega))) := List.getElem?_eq_getElem _
      refine ⟨weaveL (inoL (cs.take i)) ((ks.zip vs).take i) ++ ino (cs[i]'(by (first | lia | omega))), weave (inoL (cs.drop (i + 1))) ((ks.zip vs).drop (i + 1)), fun w => ?_⟩
      rw [inoL_split hc, weave_split (by rw [inoL_map, List.length_map, List.length_take, List.length_take, zip_len hv]; (first | lia | omega))]
      simp [weaveR]
  obtain ⟨X, Y, hXY⟩ := key'
  show weave (inoL cs) (ks.zip (vs.set i v)) = putL (weave (inoL cs) (ks.zip vs)) key v
  have hs' : Srt (weave (inoL cs) (ks.zip vs)) := hs
  rw [e2, hXY] at hs'
  rw [e1, hXY]
  conv => rhs; rw [e2, hXY]
  exact (putL_old hs').symm
theorem put_leaf {ks : List Int} {vs : List V} {i : Nat} {key : Int} {v : V} {a : Nat} (hv : vs.length = ks.length) (u : Under ks i key) : ino (.node a (ins ks i key) (ins vs i v) []) = putL (ino (.node a ks vs [])) key v := by
  show weave [] ((ins ks i key).zip (ins vs i v)) = putL (weave [] (ks.zip vs)) key v
  rw [zip_ins hv]
  show ins (ks.zip vs) i (key, v) = putL (ks.zip vs) key v
  unfold ins
  conv => rhs; rw [← List.take_append_drop i (ks.zip vs)]
  refine (putL_new (fun p hp => ?_) fun p hp => ?_).symm
  · obtain ⟨j, hj, e⟩ := zip_mem_take hp
    exact u.lt j _ hj e
  · obtain ⟨j, hj, e⟩ := zip_mem_drop hp
    exact u.gt j _ hj e
noncomputable def lefty (T b : Nat) (kb : List Int) (vb : List V) (cb : List Tree) : Tree := .node b (kb.take (T - 1)) (vb.take (T - 1)) (cb.take T)
noncomputable def righty (T r : Nat) (kb : List Int) (vb : List V) (cb : List Tree) : Tree := .node r (kb.drop T) (vb.drop T) (cb.drop T)
theorem split_child_ino {T b r : Nat} {kb : List Int} {vb : List V} {cb : List Tree} {mk : Int} {mv : V} (hT : 1 ≤ T) (hv : vb.length = kb.length) (hcl : cb = [] ∨ cb.length = kb.length + 1) (hk : kb[T - 1]? = some mk) (hw : vb[T - 1]? = some mv) :
    ino (.node b kb vb cb) = ino (lefty T b kb vb cb) ++ (mk, mv) :: ino (righty T r kb vb cb) := by
  have e : kb.zip vb = (kb.zip vb).take (T - 1) ++ (mk, mv) :: (kb.zip vb).drop (T - 1 + 1) := get_split (by rw [List.getElem?_zip_eq_some]; exact ⟨hk, hw⟩)
  have eT : T - 1 + 1 = T := by (first | lia | omega)
  rw [eT] at e
  have hlt : T - 1 < kb.length := lt_of_get hk
  show weave (inoL cb) (kb.zip vb) = weave (inoL (cb.take T)) ((kb.take (T - 1)).zip (vb.take (T - 1))) ++ (mk, mv) :: weave (inoL (cb.drop T)) ((kb.drop T).zip (vb.drop T))
  rw [zip_take, zip_drop]
  conv => lhs; rw [e]
  rcases hcl with rfl | hcl
  · simp [inoL, weave]
  · have : inoL cb = inoL (cb.take T) ++ inoL (cb.drop T) := by rw [inoL_map, inoL_map, inoL_map, ← List.map_append, List.take_append_drop]
    rw [this]
    exact weave_cat (by rw [inoL_map, List.length_map, List.length_take, List.length_take, zip_len hv]; (first | lia | omega))
noncomputable def splitT (T a i r : Nat) (ks : List Int) (vs : List V) (cs : List Tree) (b : Nat) (kb : List Int) (vb : List V) (cb : List Tree) (mk : Int) (mv : V) : Tree :=
  .node a (ins ks i mk) (ins vs i mv) (cs.take i ++ lefty T b kb vb cb :: righty T r kb vb cb :: cs.drop (i + 1))
theorem split_ino {T a i r b : Nat} {ks kb : List Int} {vs vb : List V} {cs cb : List Tree} {mk : Int} {mv : V} (hT : 1 ≤ T) (hv : vs.length = ks.length) (hi : i ≤ ks.length) (hc : cs[i]? = some (.node b kb vb cb)) (hvb : vb.length = kb.length) (hcb : cb = [] ∨ cb.length = kb.length + 1) (hk : kb[T - 1]? = some mk) (hw : vb[T - 1]? = some mv) :
    ino (splitT T a i r ks vs cs b kb vb cb mk mv) = ino (.node a ks vs cs) := by
  have hlt : i < cs.length := lt_of_get hc
  rw [ino_at hv hi hc, split_child_ino (r := r) hT hvb hcb hk hw]
  show weave (inoL (cs.take i ++ lefty T b kb vb cb :: righty T r kb vb cb :: cs.drop (i + 1))) ((ins ks i mk).zip (ins vs i mv)) = _
  rw [zip_ins hv]
  have : inoL (cs.take i ++ lefty T b kb vb cb :: righty T r kb vb cb :: cs.drop (i + 1)) = inoL (cs.take i) ++ ino (lefty T b kb vb cb) :: (ino (righty T r kb vb cb) :: inoL (cs.drop (i + 1))) := by simp [inoL_map]
  rw [this]
  unfold ins
  rw [weave_split (by rw [inoL_map, List.length_map, List.length_take, List.length_take, zip_len hv]; (first | lia | omega))]
  show _ ++ (_ ++ (mk, mv) :: weave (_ :: _) _) = _
  rw [weave_cons]
  simp [inL, inR]
theorem take_le {α : Type} {l : List α} {i n : Nat} (h : l.length ≤ n) : (l.take i).length ≤ n := Nat.le_trans (List.length_take_le' _ _) h
theorem drop_le {α : Type} {l : List α} {i n : Nat} (h : l.length ≤ n) : (l.drop i).length ≤ n := by rw [List.length_drop]; exact Nat.le_trans (Nat.sub_le _ _) h
theorem split_sh {T h a i r b : Nat} {ks kb : List Int} {vs vb : List V} {cs cb : List Tree} {mk : Int} {mv : V} (hT : 2 ≤ T) (s : Sh T (h + 1) (.node a ks vs cs)) (hf : ks.length < 2 * T - 1) (hc : cs[i]? = some (.node b kb vb cb)) (hfull : kb.length = 2 * T - 1) :
    Sh T (h + 1) (splitT T a i r ks vs cs b kb vb cb mk mv) ∧ Sh T h (lefty T b kb vb cb) ∧ Sh T h (righty T r kb vb cb) := by
  obtain ⟨s1, s2, s3, s4⟩ := s
  obtain ⟨sb, _⟩ := s4 _ (List.mem_of_getElem? hc)
  have hlt : i < cs.length := lt_of_get hc
  have k1 : (kb.take (T - 1)).length = T - 1 := List.length_take_of_le (by clear hlt; (first | lia | omega))
  have k2 : (kb.drop T).length = T - 1 := by rw [List.length_drop]; clear hlt; (first | lia | omega)
  have hb : kb.length ≤ 2 * T - 1 := Nat.le_of_eq hfull
  have hl : Sh T h (lefty T b kb vb cb) := by
    cases h with
    | zero =>
      obtain ⟨b1, b2, b3⟩ := sb
      subst b1
      exact ⟨List.take_nil, by rw [List.length_take, List.length_take, b2], take_le hb⟩
    | succ h =>
      obtain ⟨b1, b2, b3, b4⟩ := sb
      refine ⟨?_, by rw [List.length_take, List.length_take, b2], take_le hb, fun c hc => b4 c (List.mem_of_mem_take hc)⟩
      rw [k1, List.length_take_of_le (by rw [b1, hfull]; clear hlt k1 k2 b1 b2 b3 hb s1 s2 s3 hf hfull; (first | lia | omega))]
      clear hlt k1 k2 b1 b2 b3 hb s1 s2 s3 hf hfull; (first | lia | omega)
  have hr : Sh T h (righty T r kb vb cb) := by
    cases h with
    | zero =>
      obtain ⟨b1, b2, b3⟩ := sb
      subst b1
      exact ⟨List.drop_nil, by rw [List.length_drop, List.length_drop, b2], drop_le hb⟩
    | succ h =>
      obtain ⟨b1, b2, b3, b4⟩ := sb
      refine ⟨?_, by rw [List.length_drop, List.length_drop, b2], drop_le hb, fun c hc => b4 c (List.mem_of_mem_drop hc)⟩
      rw [k2, List.length_drop, b1, hfull]
      clear hlt k1 k2 b1 b2 b3 hb s1 s2 s3 hf hfull; (first | lia | omega)
  have k3 : T - 1 ≤ T - 1 := Nat.le_refl _
  refine ⟨⟨?_, by rw [ins_len, ins_len, s2], by rw [ins_len]; exact hf, fun c hc => ?_⟩, hl, hr⟩
  · rw [List.length_append, List.length_cons, List.length_cons, List.length_take_of_le (Nat.le_of_lt hlt), List.length_drop, ins_len, s1]
    clear k1 k2 hb hfull hf s2 s3 k3; (first | lia | omega)
  rcases List.mem_append.mp hc with q | q
  · exact s4 c (List.mem_of_mem_take q)
  · rcases List.mem_cons.mp q with rfl | q
    · exact ⟨hl, by show T - 1 ≤ (kb.take (T - 1)).length; rw [k1]; exact k3⟩
    · rcases List.mem_cons.mp q with rfl | q
      · exact ⟨hr, by show T - 1 ≤ (kb.drop T).length; rw [k2]; exact k3⟩
      · exact s4 c (List.mem_of_mem_drop q)
end ML
namespace ML
theorem addrsL_app : ∀ a b : List Tree, addrsL (a ++ b) = addrsL a ++ addrsL b
  | [], _ => rfl
  | t :: r, b => by show t.addrs ++ addrsL (r ++ b) = _; rw [addrsL_app r b]; simp [addrsL]
theorem HoldsL.iff {H : Heap} : ∀ {ts : List Tree}, HoldsL H ts ↔ ∀ t ∈ ts, Holds H t
  | [] => ⟨fun _ _ h => (nomatch h), fun _ => trivial⟩
  | t :: r => by
    constructor
    · intro h y hy
      cases hy with
      | head => exact h.1
      | tail _ m => exact HoldsL.iff.mp h.2 y m
    · intro h
      exact ⟨h t (.head _), HoldsL.iff.mpr fun y hy => h y (.tail _ hy)⟩
mutual
theorem addrs_inst {H : Heap} : ∀ {t : Tree}, Holds H t → ∀ b ∈ t.addrs, ∃ fs, H b = some (.inst 0 fs)
  | .node a ks vs cs, ⟨⟨k, v, c, h1, _⟩, h2⟩, b, hb => by
    rcases List.mem_cons.mp (show b ∈ a :: addrsL cs from hb) with rfl | hb
    · exact ⟨_, h1⟩
    · exact addrsL_inst h2 b hb
theorem addrsL_inst {H : Heap} : ∀ {ts : List Tree}, HoldsL H ts → ∀ b ∈ addrsL ts, ∃ fs, H b = some (.inst 0 fs)
  | t :: r, ⟨h1, h2⟩, b, hb => by
    rcases List.mem_append.mp (show b ∈ t.addrs ++ addrsL r from hb) with hb | hb
    · exact addrs_inst h1 b hb
    · exact addrsL_inst h2 b hb
end
noncomputable def Frame (A : List Nat) (G G' : Heap) : Prop := ∀ b o, G b = some o → b ∉ A → G' b = some o
noncomputable def Insts (A : List Nat) (G : Heap) : Prop := ∀ b ∈ A, ∃ c fs, G b = some (.inst c fs)
theorem NodeAt.frame {A : List Nat} {G G' : Heap} {a : Nat} {ks : List Int} {vs cs : List V} (h : NodeAt G a ks vs cs) (f : Frame A G G') (i : Insts A G) (n : a ∉ A) : NodeAt G' a ks vs cs := by
  obtain ⟨k, v, c, h1, h2, h3, h4⟩ := h
  have nl : ∀ {p xs}, G p = some (.list xs) → G' p = some (.list xs) := fun {p xs} hp => f _ _ hp fun q => by
    obtain ⟨_, _, e⟩ := i p q
    rw [hp] at e; cases e
  exact ⟨k, v, c, f _ _ h1 n, nl h2, nl h3, nl h4⟩
mutual
theorem Holds.frame {A : List Nat} {G G' : Heap} (f : Frame A G G') (i : Insts A G) : ∀ {t : Tree}, Holds G t → (∀ b ∈ t.addrs, b ∉ A) → Holds G' t
  | .node a _ _ cs, ⟨h1, h2⟩, n => ⟨h1.frame f i (n a (.head _)), HoldsL.frame f i h2 fun b hb => n b (.tail _ hb)⟩
theorem HoldsL.frame {A : List Nat} {G G' : Heap} (f : Frame A G G') (i : Insts A G) : ∀ {ts : List Tree}, HoldsL G ts → (∀ b ∈ addrsL ts, b ∉ A) → HoldsL G' ts
  | [], _, _ => trivial
  | _ :: _, ⟨h1, h2⟩, n => ⟨Holds.frame f i h1 fun b hb => n b (List.mem_append.mpr (.inl hb)), HoldsL.frame f i h2 fun b hb => n b (List.mem_append.mpr (.inr hb))⟩
end
structure Upd (G G' : Heap) (t t' : Tree) : Prop where
  addr : t'.addr = t.addr
  holds : Holds G' t'
  nodup : t'.addrs.Nodup
  new : ∀ b ∈ t'.addrs, b ∈ t.addrs ∨ G b = none
  frame : Frame t.addrs G G'
theorem Upd.refl {G : Heap} {t : Tree} (h : Holds G t) (n : t.addrs.Nodup) : Upd G G t t := ⟨rfl, h, n, fun _ hb => .inl hb, fun _ _ e _ => e⟩
theorem Upd.trans {G G1 G2 : Heap} {t t1 t2 : Tree} (x : Upd G G1 t t1) (y : Upd G1 G2 t1 t2) : Upd G G2 t t2 := by
  refine ⟨y.addr.trans x.addr, y.holds, y.nodup, fun b hb => ?_, fun b o e hb => y.frame b o (x.frame b o e hb) fun q => ?_⟩
  · rcases y.new b hb with q | q
    · exact x.new b q
    · by_cases hm : b ∈ t.addrs
      · exact .inl hm
      · cases e : G b with
        | none => exact .inr rfl
        | some o => rw [x.frame b o e hm] at q; cases q
  · rcases x.new b q with q | q
    · exact hb q
    · rw [e] at q; cases q
theorem addrs_node {a : Nat} {ks : List Int} {vs : List V} {cs : List Tree} : (Tree.node a ks vs cs).addrs = a :: addrsL cs := rfl
theorem addrs_pos {t : Tree} : t.addr ∈ t.addrs := by cases t; exact .head _
theorem refsOf_app {a b : List Tree} : refsOf (a ++ b) = refsOf a ++ refsOf b := by simp [refsOf]
theorem Upd.child {G G' : Heap} {a : Nat} {ks : List Int} {vs : List V} {L R : List Tree} {c c' : Tree} (h : Holds G (.node a ks vs (L ++ c :: R))) (n : (Tree.node a ks vs (L ++ c :: R)).addrs.Nodup) (u : Upd G G' c c') :
    Upd G G' (.node a ks vs (L ++ c :: R)) (.node a ks vs (L ++ c' :: R)) := by
  obtain ⟨h1, h2⟩ := h
  have e : ∀ x : Tree, addrsL (L ++ x :: R) = addrsL L ++ (x.addrs ++ addrsL R) := fun x => by rw [addrsL_app]; rfl
  rw [addrs_node, e] at n
  obtain ⟨n1, n2⟩ := List.nodup_cons.mp n
  obtain ⟨nL, nR, nX⟩ := List.nodup_append.mp n2
  obtain ⟨nC, nR, nY⟩ := List.nodup_append.mp nR
  have hL : HoldsL G L := HoldsL.iff.mpr fun t ht => HoldsL.iff.mp h2 t (List.mem_append.mpr (.inl ht))
  have hR : HoldsL G R := HoldsL.iff.mpr fun t ht => HoldsL.iff.mp h2 t (List.mem_append.mpr (.inr (.tail _ ht)))
  have hC : Holds G c := HoldsL.iff.mp h2 c (List.mem_append.mpr (.inr (.head _)))
  have iA : Insts c.addrs G := fun b hb => let ⟨fs, e⟩ := addrs_inst hC b hb; ⟨_, fs, e⟩
  have dis : ∀ b ∈ c'.addrs, ∀ {p : Prop}, (b ∈ c.addrs → p) → (G b = none → p) → p := fun b hb p f g => (u.new b hb).elim f g
  have no : ∀ {b : Nat} {ts : List Tree}, HoldsL G ts → b ∈ addrsL ts → G b ≠ none := fun hts hb q => by
    obtain ⟨fs, e⟩ := addrsL_inst hts _ hb
    rw [q] at e; cases e
  refine ⟨rfl, ⟨?_, ?_⟩, ?_, ?_, ?_⟩
  · have er : refsOf (L ++ c' :: R) = refsOf (L ++ c :: R) := by simp [refsOf, u.addr]
    rw [er]
    exact h1.frame u.frame iA fun q => n1 (List.mem_append.mpr (.inr (List.mem_append.mpr (.inl q))))
  · refine HoldsL.iff.mpr fun t ht => ?_
    rcases List.mem_append.mp ht with q | q
    · exact HoldsL.iff.mp (HoldsL.frame u.frame iA hL fun b hb q => nX b hb b (List.mem_append.mpr (.inl q)) rfl) t q
    · rcases List.mem_cons.mp q with rfl | q
      · exact u.holds
      · exact HoldsL.iff.mp (HoldsL.frame u.frame iA hR fun b hb q => nY b q b hb rfl) t q
  · rw [addrs_node, e]
    refine List.nodup_cons.mpr ⟨fun q => ?_, List.nodup_append.mpr ⟨nL, List.nodup_append.mpr ⟨u.nodup, nR, fun x hx y hy q => ?_⟩, fun x hx y hy q => ?_⟩⟩
    · rcases List.mem_append.mp q with q | q
      · exact n1 (List.mem_append.mpr (.inl q))
      · rcases List.mem_append.mp q with q | q
        · refine dis a q (fun q => n1 (List.mem_append.mpr (.inr (List.mem_append.mpr (.inl q))))) fun q => ?_
          obtain ⟨_, _, _, e, _⟩ := h1
          rw [q] at e; cases e
        · exact n1 (List.mem_append.mpr (.inr (List.mem_append.mpr (.inr q))))
    · subst q
      exact dis x hx (fun q => nY x q x hy rfl) fun q => no hR hy q
    · subst q
      rcases List.mem_append.mp hy with q | q
      · exact dis x q (fun q => nX x hx x (List.mem_append.mpr (.inl q)) rfl) fun q => no hL hx q
      · exact nX x hx x (List.mem_append.mpr (.inr q)) rfl
  · intro b hb
    rw [addrs_node, e] at hb ⊢
    rcases List.mem_cons.mp hb with rfl | hb
    · exact .inl (.head _)
    · rcases List.mem_append.mp hb with q | q
      · exact .inl (.tail _ (List.mem_append.mpr (.inl q)))
      · rcases List.mem_append.mp q with q | q
        · rcases u.new b q with q | q
          · exact .inl (.tail _ (List.mem_append.mpr (.inr (List.mem_append.mpr (.inl q)))))
          · exact .inr q
        · exact .inl (.tail _ (List.mem_append.mpr (.inr (List.mem_append.mpr (.inr q)))))
  · intro b o eb hb
    refine u.frame b o eb fun q => hb ?_
    rw [addrs_node, e]
    exact .tail _ (List.mem_append.mpr (.inr (List.mem_append.mpr (.inl q))))
theorem upd_lay {G G1 : Heap} {a k v c : Nat} {ks ks' : List Int} {vs vs' : List V} {cs : List Tree} (h : Holds G (.node a ks vs cs)) (n : (Tree.node a ks vs cs).addrs.Nodup) (l : G.le G1) (hk : G1 k = some (.list (ks'.map V.int))) (hv : G1 v = some (.list vs')) (hc : G1 c = some (.list (refsOf cs))) :
    Upd G (G1.upd a (.inst 0 [(0, .ref k), (1, .ref v), (2, .ref c)])) (.node a ks vs cs) (.node a ks' vs' cs) := by
  obtain ⟨⟨k0, v0, c0, h1, h2, h3, h4⟩, h5⟩ := h
  have ha := l _ _ h1
  have nl : ∀ {p xs}, G1 p = some (.list xs) → (G1.upd a (.inst 0 [(0, .ref k), (1, .ref v), (2, .ref c)])) p = some (.list xs) := fun {p xs} hp => by
    rw [upd_ne (fun e => by rw [e, ha] at hp; cases hp)]; exact hp
  have n1 := (List.nodup_cons.mp n).1
  refine ⟨rfl, ⟨⟨k, v, c, upd_self, nl hk, nl hv, nl hc⟩, HoldsL.upd ha (h5.le l) n1⟩, n, fun b hb => .inl hb, fun b o e hb => ?_⟩
  rw [upd_ne (fun q : b = a => hb (by rw [q]; exact .head _))]
  exact l _ _ e
theorem split_upd {T i a b r : Nat} {G G' : Heap} {ks kb : List Int} {vs vb : List V} {L R cb : List Tree} {mk : Int} {mv : V} (h : Holds G (.node a ks vs (L ++ .node b kb vb cb :: R))) (n : (Tree.node a ks vs (L ++ .node b kb vb cb :: R)).addrs.Nodup) (hL : L.length = i)
    (nr : G r = none) (f : Frame [a, b] G G') (fa : NodeAt G' a (ins ks i mk) (ins vs i mv) (refsOf (L ++ lefty T b kb vb cb :: righty T r kb vb cb :: R))) (fb : NodeAt G' b (kb.take (T - 1)) (vb.take (T - 1)) (refsOf (cb.take T))) (fr : NodeAt G' r (kb.drop T) (vb.drop T) (refsOf (cb.drop T))) :
    Upd G G' (.node a ks vs (L ++ .node b kb vb cb :: R)) (splitT T a i r ks vs (L ++ .node b kb vb cb :: R) b kb vb cb mk mv) := by
  obtain ⟨⟨k0, v0, c0, ha, _⟩, h2⟩ := h
  have e : ∀ X : List Tree, addrsL (L ++ X) = addrsL L ++ addrsL X := fun X => addrsL_app _ _
  have hLs : HoldsL G L := HoldsL.iff.mpr fun t ht => HoldsL.iff.mp h2 t (List.mem_append.mpr (.inl ht))
  have hRs : HoldsL G R := HoldsL.iff.mpr fun t ht => HoldsL.iff.mp h2 t (List.mem_append.mpr (.inr (.tail _ ht)))
  obtain ⟨⟨k1, v1, c1, hb, _⟩, hcb⟩ : Holds G (.node b kb vb cb) := HoldsL.iff.mp h2 _ (List.mem_append.mpr (.inr (.head _)))
  have hcbe : addrsL cb = addrsL (cb.take T) ++ addrsL (cb.drop T) := by rw [← addrsL_app, List.take_append_drop]
  rw [addrs_node, e] at n
  have e1 : addrsL (Tree.node b kb vb cb :: R) = b :: (addrsL cb ++ addrsL R) := rfl
  rw [e1] at n
  obtain ⟨na, n2⟩ := List.nodup_cons.mp n
  obtain ⟨nL, n3, nX⟩ := List.nodup_append.mp n2
  obtain ⟨nb, n4⟩ := List.nodup_cons.mp n3
  obtain ⟨nc, nR, nY⟩ := List.nodup_append.mp n4
  simp only [List.mem_append, List.mem_cons, not_or] at na nb
  obtain ⟨naL, nab, nac, naR⟩ := na
  have iA : Insts [a, b] G := fun x hx => by
    rcases List.mem_cons.mp hx with rfl | hx
    · exact ⟨_, _, ha⟩
    · rw [List.mem_singleton.mp hx]; exact ⟨_, _, hb⟩
  have nin : ∀ {x : Nat}, x ≠ a → x ≠ b → x ∉ [a, b] := fun h1 h2 q => by simp at q; (first | lia | omega)
  have gL : HoldsL G' L := HoldsL.frame f iA hLs fun x hx => nin (fun q => naL (q ▸ hx)) (fun q => nX x hx b (.head _) q)
  have gR : HoldsL G' R := HoldsL.frame f iA hRs fun x hx => nin (fun q => naR (q ▸ hx)) (fun q => nb.2 (q ▸ hx))
  have gC : HoldsL G' cb := HoldsL.frame f iA hcb fun x hx => nin (fun q => nac (q ▸ hx)) (fun q => nb.1 (q ▸ hx))
  have gC1 : HoldsL G' (cb.take T) := HoldsL.iff.mpr fun t ht => HoldsL.iff.mp gC t (List.mem_of_mem_take ht)
  have gC2 : HoldsL G' (cb.drop T) := HoldsL.iff.mpr fun t ht => HoldsL.iff.mp gC t (List.mem_of_mem_drop ht)
  have eL : (L ++ Tree.node b kb vb cb :: R).take i = L := by rw [← hL]; simp
  have eR : (L ++ Tree.node b kb vb cb :: R).drop (i + 1) = R := by rw [← hL]; simp
  unfold splitT
  rw [eL, eR]
  have e2 : addrsL (lefty T b kb vb cb :: righty T r kb vb cb :: R) = b :: (addrsL (cb.take T) ++ r :: (addrsL (cb.drop T) ++ addrsL R)) := by
    show (b :: addrsL (cb.take T)) ++ ((r :: addrsL (cb.drop T)) ++ addrsL R) = _
    simp
  have old : ∀ {x : Nat} {ts : List Tree}, HoldsL G ts → x ∈ addrsL ts → x ≠ r := fun hts hx q => by
    obtain ⟨fs, ex⟩ := addrsL_inst hts _ hx
    rw [q, nr] at ex; cases ex
  have rb : r ≠ b := fun q => by rw [← q, nr] at hb; cases hb
  have ra : r ≠ a := fun q => by rw [← q, nr] at ha; cases ha
  have perm : List.Perm (b :: (addrsL (cb.take T) ++ r :: (addrsL (cb.drop T) ++ addrsL R))) (r :: b :: (addrsL cb ++ addrsL R)) := by
    rw [hcbe]
    refine List.Perm.trans (List.Perm.cons b List.perm_middle) ?_
    rw [List.append_assoc]
    exact List.Perm.swap r b _
  refine ⟨rfl, ⟨fa, ?_⟩, ?_, ?_, ?_⟩
  · refine HoldsL.iff.mpr fun t ht => ?_
    rcases List.mem_append.mp ht with q | q
    · exact HoldsL.iff.mp gL t q
    · rcases List.mem_cons.mp q with rfl | q
      · exact ⟨fb, gC1⟩
      · rcases List.mem_cons.mp q with rfl | q
        · exact ⟨fr, gC2⟩
        · exact HoldsL.iff.mp gR t q
  · rw [addrs_node, e, e2]
    have p2 : List.Perm (a :: (addrsL L ++ (b :: (addrsL (cb.take T) ++ r :: (addrsL (cb.drop T) ++ addrsL R))))) (r :: a :: (addrsL L ++ (b :: (addrsL cb ++ addrsL R)))) := by
      refine List.Perm.trans (List.Perm.cons a (List.Perm.append_left _ perm)) ?_
      refine List.Perm.trans (List.Perm.cons a List.perm_middle) ?_
      exact List.Perm.swap r a _
    refine p2.nodup_iff.mpr (List.nodup_cons.mpr ⟨fun q => ?_, n⟩)
    rcases List.mem_cons.mp q with q | q
    · exact ra q
    · rcases List.mem_append.mp q with q | q
      · exact old hLs q rfl
      · rcases List.mem_cons.mp q with q | q
        · exact rb q
        · rcases List.mem_append.mp q with q | q
          · exact old hcb q rfl
          · exact old hRs q rfl
  · intro x hx
    rw [addrs_node, e, e2] at hx
    rw [addrs_node, e, e1]
    rcases List.mem_cons.mp hx with rfl | hx
    · exact .inl (.head _)
    · rcases List.mem_append.mp hx with q | q
      · exact .inl (.tail _ (List.mem_append.mpr (.inl q)))
      · rcases List.mem_cons.mp (perm.mem_iff.mp q) with rfl | q
        · exact .inr nr
        · exact .inl (.tail _ (List.mem_append.mpr (.inr q)))
  · intro x o ex hx
    rw [addrs_node, e, e1] at hx
    refine f x o ex (nin (fun q => hx (q ▸ .head _)) fun q => hx (.tail _ (List.mem_append.mpr (.inr ?_))))
    rw [q]; exact .head _
end ML
namespace ML
theorem cut_to {α : Type} {xs : List α} {h : Int} : cut xs none (some h) = xs.take h.toNat := rfl
theorem cut_from {α : Type} {xs : List α} {l : Int} : cut xs (some l) none = xs.drop l.toNat := rfl
theorem cut_all {α : Type} {xs : List α} : cut xs none none = xs := rfl
theorem add1_ok {xs : List V} {l : Int} {x : V} (h : xs.length ≤ 100001) : (cut xs none (some l)).length + [x].length ≤ lim := by
  rw [cut_to]
  have := List.length_take_le' l.toNat xs
  show _ ≤ 1000000
  simp only [List.length_cons, List.length_nil]; (first | lia | omega)
theorem add2_ok {xs : List V} {l l' : Int} {x : V} (h : xs.length ≤ 100001) : (cut xs none (some l) ++ [x]).length + (cut xs (some l') none).length ≤ lim := by
  rw [cut_to, cut_from, List.length_append, List.length_drop]
  have := List.length_take_le' l.toNat xs
  show _ ≤ 1000000
  simp only [List.length_cons, List.length_nil]; (first | lia | omega)
theorem lim1 {n : Nat} (h : n ≤ 100001) : n ≤ lim := Nat.le_trans h (by decide)
theorem le1 {n : Nat} (h : n ≤ 100000) : n ≤ 100001 := Nat.le_succ_of_le h
section
variable {T : Nat → Option Fn} (S : Sys T)
theorem spec_split (h0 : T 0 = some f_Node_init) (h4 : T 4 = some f_lay) (h10 : T 10 = some f_split_child) {G : Heap} {cn a b i D : Nat} {y z : V} {ks kb : List Int} {vs vb : List V} {cs cb : List Tree} {Q : PV} (hc : G cn = some (.inst 1 [(3, .int D), (4, y), (5, z)]))
    (h : Holds G (.node a ks vs cs)) (n : (Tree.node a ks vs cs).addrs.Nodup) (ci : cs[i]? = some (.node b kb vb cb)) (hD : 1 ≤ D) (hi : i ≤ ks.length) (hv : vs.length = ks.length) (hvb : vb.length = kb.length) (hkb : D ≤ kb.length) (z1 : ks.length ≤ 100000) (z2 : cs.length ≤ 100001) (z3 : kb.length ≤ 100000) (z4 : cb.length ≤ 100001)
    (k : ∀ r G' mk mv, kb[D - 1]? = some mk → vb[D - 1]? = some mv → Upd G G' (.node a ks vs cs) (splitT D a i r ks vs cs b kb vb cb mk mv) → Q .none G') : S.Φ 10 [.ref cn, .ref a, .int i] G Q := by
  have hlim : lim = 1000000 := rfl
  have hmk : kb[D - 1]? = some (kb[D - 1]'(by (first | lia | omega))) := List.getElem?_eq_getElem _
  have hmv : vb[D - 1]? = some (vb[D - 1]'(by (first | lia | omega))) := List.getElem?_eq_getElem _
  generalize kb[D - 1]'(by (first | lia | omega)) = mk at hmk
  generalize vb[D - 1]'(by (first | lia | omega)) = mv at hmv
  have hci := get_split ci
  have hLi : (cs.take i).length = i := by
    rw [List.length_take]
    have : i < cs.length := by
      by_cases q : i < cs.length
      · exact q
      · rw [List.getElem?_eq_none (by (first | lia | omega))] at ci; cases ci
    (first | lia | omega)
  have hu := fun {r G'} => split_upd (T := D) (i := i) (a := a) (b := b) (r := r) (G := G) (G' := G') (ks := ks) (kb := kb) (vs := vs) (vb := vb) (L := cs.take i) (R := cs.drop (i + 1)) (cb := cb) (mk := mk) (mv := mv) (hci ▸ h) (hci ▸ n) hLi
  rw [← hci] at hu
  refine absG fun Cg hCg => ?_
  obtain ⟨⟨pk, pv, pc, ha, hk, hvv, hcs⟩, hch⟩ := h
  refine hCg ?_; clear hCg
  obtain ⟨⟨qk, qv, qc, hb, hbk, hbv, hbc⟩, hcb⟩ : Holds G (.node b kb vb cb) := HoldsL.iff.mp hch _ (List.mem_of_getElem? ci)
  have nab : a ≠ b := fun q => by
    have := (List.nodup_cons.mp n).1
    refine this ?_
    rw [hci, addrsL_app]
    exact List.mem_append.mpr (.inr (q ▸ .head _))
  have rl : ∀ l : List Tree, (refsOf l).length = l.length := fun l => by simp [refsOf]
  have Zkb : (kb.map V.int).length ≤ 100001 := by rw [List.length_map]; exact le1 z3
  have Zvb : vb.length ≤ 100001 := hvb ▸ le1 z3
  have Zcb : (refsOf cb).length ≤ 100001 := by rw [rl]; exact z4
  have Zks : (ks.map V.int).length ≤ 100001 := by rw [List.length_map]; exact le1 z1
  have Zvs : vs.length ≤ 100001 := hv ▸ le1 z1
  have Zcs : (refsOf cs).length ≤ 100001 := by rw [rl]; exact z2
  refine S.call h10 rfl ?_
  dsimp only [f_split_child]
  walk_at "m"
  walk_at "n"
  refine v_attr hc rfl ?_
  walk_at "n"
  refine v_attr ha rfl ?_
  refine v_idxN (v := .ref b) hcs rfl (Nat.le_trans hi (Nat.le_trans z1 (by decide))) (by
    unfold refsOf; rw [List.getElem?_map, ci]; rfl) ?_
  walk_at "n"
  refine v_attr hb rfl ?_
  refine v_sliceL hbk rfl rfl rfl (Int.natCast_nonneg _) trivial (lim1 Zkb) fun x1 X1 l1 n1 g1 => ?_
  refine v_attr (l1 _ _ hb) rfl ?_
  refine v_sliceL (l1 _ _ hbv) rfl rfl rfl (Int.natCast_nonneg _) trivial (lim1 Zvb) fun x2 X2 l2 n2 g2 => ?_
  have L2 := Heap.le_trans l1 l2
  refine v_attr (L2 _ _ hb) rfl ?_
  refine v_sliceL (L2 _ _ hbc) rfl rfl rfl (Int.natCast_nonneg _) trivial (lim1 Zcb) fun x3 X3 l3 n3 g3 => ?_
  have L3 := Heap.le_trans L2 l3
  walk_at "m"
  refine new_node S h0 fun r nr => ?_
  walk_at "m"
  have L4 : G.le (X3.upd r (.inst 0 [(0, .ref x1), (1, .ref x2), (2, .ref x3)])) := Heap.le_trans L3 (Heap.le_upd nr)
  have fr : NodeAt (X3.upd r (.inst 0 [(0, .ref x1), (1, .ref x2), (2, .ref x3)])) r (kb.drop D) (vb.drop D) (refsOf (cb.drop D)) := by
    refine ⟨x1, x2, x3, upd_self, ?_, ?_, ?_⟩
    · rw [upd_fresh nr (l3 _ _ (l2 _ _ g1)), cut_from, Int.toNat_natCast, List.map_drop]
    · rw [upd_fresh nr (l3 _ _ g2), cut_from, Int.toNat_natCast]
    · rw [upd_fresh nr g3, cut_from, Int.toNat_natCast]; unfold refsOf; rw [List.map_drop]
  generalize X3.upd r (.inst 0 [(0, .ref x1), (1, .ref x2), (2, .ref x3)]) = X4 at L4 fr ⊢
  have gr : G r = none := fresh_le L3 nr
  clear g1 g2 g3 n1 n2 n3 l1 l2 l3 L2 L3 nr
  have eD : (((D : Nat) : Int) - 1).toNat = D - 1 := by clear Zkb Zvb Zcb Zks Zvs Zcs z1 z2 z3 z4 hi hkb hvb hv hLi; (first | lia | omega)
  have D0 : (0 : Int) ≤ (D : Int) - 1 := by clear Zkb Zvb Zcb Zks Zvs Zcs z1 z2 z3 z4 hi hkb hvb hv hLi eD; (first | lia | omega)
  have DL : (D : Int) - 1 < lim := by rw [hlim]; clear Zkb Zvb Zcb Zks Zvs Zcs z1 z2 z4 hi hvb hv hLi eD; (first | lia | omega)
  walk_at "n"
  refine v_attr (L4 _ _ hb) rfl ?_
  refine v_idx (v := .int mk) (L4 _ _ hbk) rfl D0 DL (by rw [eD, List.getElem?_map, hmk]; rfl) ?_
  walk_at "n"
  refine v_attr (L4 _ _ hb) rfl ?_
  refine v_idx (v := mv) (L4 _ _ hbv) rfl D0 DL (by rw [eD, hmv]) ?_
  walk_at "n"
  refine v_isInst (L4 _ _ hb) ?_
  refine v_attr (L4 _ _ hb) rfl ?_
  refine v_sliceL (L4 _ _ hbk) rfl rfl rfl trivial D0 (lim1 Zkb) fun x5 X5 l5 n5 g5 => ?_
  have L5 := Heap.le_trans L4 l5
  refine v_attr (L5 _ _ hb) rfl ?_
  refine v_sliceL (L5 _ _ hbv) rfl rfl rfl trivial D0 (lim1 Zvb) fun x6 X6 l6 n6 g6 => ?_
  have L6 := Heap.le_trans L5 l6
  refine v_attr (L6 _ _ hb) rfl ?_
  refine v_sliceL (L6 _ _ hbc) rfl rfl rfl trivial (Int.natCast_nonneg _) (lim1 Zcb) fun x7 X7 l7 n7 g7 => ?_
  have L7 := Heap.le_trans L6 l7
  walk_at "m"
  refine spec_lay S h4 (L7 _ _ hb) ?_
  walk_at "m"
  have bl : ∀ {p xs}, X7 p = some (.list xs) → (X7.upd b (.inst 0 [(0, .ref x5), (1, .ref x6), (2, .ref x7)])) p = some (.list xs) := fun {p xs} hp => by
    rw [upd_ne (fun e => by rw [e, L7 _ _ hb] at hp; cases hp)]; exact hp
  have fb : NodeAt (X7.upd b (.inst 0 [(0, .ref x5), (1, .ref x6), (2, .ref x7)])) b (kb.take (D - 1)) (vb.take (D - 1)) (refsOf (cb.take D)) := by
    refine ⟨x5, x6, x7, upd_self, ?_, ?_, ?_⟩
    · rw [bl (l7 _ _ (l6 _ _ g5)), cut_to, eD, List.map_take]
    · rw [bl (l7 _ _ g6), cut_to, eD]
    · rw [bl g7, cut_to, Int.toNat_natCast]; unfold refsOf; rw [List.map_take]
  have rb : r ≠ b := fun q => by rw [← q, gr] at hb; cases hb
  have fr : NodeAt (X7.upd b (.inst 0 [(0, .ref x5), (1, .ref x6), (2, .ref x7)])) r (kb.drop D) (vb.drop D) (refsOf (cb.drop D)) := (fr.le (Heap.le_trans l5 (Heap.le_trans l6 l7))).upd (L7 _ _ hb) rb.symm
  have F8 : Frame [b] G (X7.upd b (.inst 0 [(0, .ref x5), (1, .ref x6), (2, .ref x7)])) := fun p o e hp => by
    rw [upd_ne (fun q => hp (by rw [q]; exact .head _))]; exact L7 _ _ e
  have ha8 := F8 _ _ ha (by simpa using nab)
  have hk8 := bl (L7 _ _ hk)
  have hv8 := bl (L7 _ _ hvv)
  have hc8 := bl (L7 _ _ hcs)
  generalize X7.upd b (.inst 0 [(0, .ref x5), (1, .ref x6), (2, .ref x7)]) = X8 at fb fr F8 ha8 hk8 hv8 hc8 ⊢
  clear bl g5 g6 g7 n5 n6 n7 l5 l6 l7 L4 L5 L6 L7
  have I0 : (0 : Int) ≤ (i : Int) + 1 := Int.natCast_nonneg (i + 1)
  walk_at "n"
  refine v_isInst ha8 ?_
  refine v_attr ha8 rfl ?_
  refine v_sliceL hk8 rfl rfl rfl trivial (Int.natCast_nonneg _) (lim1 Zks) fun y1 Y1 m1 _ e1 => ?_
  refine v_allocL fun y2 Y2 m2 _ e2 => ?_
  refine v_addLL (m2 _ _ e1) e2 (add1_ok Zks) fun y3 Y3 m3 _ e3 => ?_
  have M3 := Heap.le_trans m1 (Heap.le_trans m2 m3)
  refine v_attr (M3 _ _ ha8) rfl ?_
  refine v_sliceL (M3 _ _ hk8) rfl rfl rfl (Int.natCast_nonneg _) trivial (lim1 Zks) fun y4 Y4 m4 _ e4 => ?_
  refine v_addLL (m4 _ _ e3) e4 (add2_ok Zks) fun y5 Y5 m5 _ e5 => ?_
  have M5 := Heap.le_trans M3 (Heap.le_trans m4 m5)
  have e5 : Y5 y5 = some (.list ((ins ks i mk).map V.int)) := by
    rw [e5, cut_to, cut_from, Int.toNat_natCast]; unfold ins; simp [List.map_take, List.map_drop]
  clear e1 e2 e3 e4 m1 m2 m3 m4 m5 M3
  refine v_attr (M5 _ _ ha8) rfl ?_
  refine v_sliceL (M5 _ _ hv8) rfl rfl rfl trivial (Int.natCast_nonneg _) (lim1 Zvs) fun y6 Y6 m6 _ e6 => ?_
  refine v_allocL fun y7 Y7 m7 _ e7 => ?_
  refine v_addLL (m7 _ _ e6) e7 (add1_ok Zvs) fun y8 Y8 m8 _ e8 => ?_
  have M8 := Heap.le_trans m6 (Heap.le_trans m7 m8)
  have N8 := Heap.le_trans M5 M8
  refine v_attr (N8 _ _ ha8) rfl ?_
  refine v_sliceL (N8 _ _ hv8) rfl rfl rfl (Int.natCast_nonneg _) trivial (lim1 Zvs) fun y9 Y9 m9 _ e9 => ?_
  refine v_addLL (m9 _ _ e8) e9 (add2_ok Zvs) fun y10 Y10 m10 _ e10 => ?_
  have M10 := Heap.le_trans M8 (Heap.le_trans m9 m10)
  have e10 : Y10 y10 = some (.list (ins vs i mv)) := by
    rw [e10, cut_to, cut_from, Int.toNat_natCast]; unfold ins; simp
  have e5 := M10 _ _ e5
  have N10 := Heap.le_trans M5 M10
  clear e6 e7 e8 e9 m6 m7 m8 m9 m10 M8 N8 M5 M10
  refine v_attr (N10 _ _ ha8) rfl ?_
  refine v_sliceL (N10 _ _ hc8) rfl rfl rfl trivial I0 (lim1 Zcs) fun y11 Y11 m11 _ e11 => ?_
  refine v_allocL fun y12 Y12 m12 _ e12 => ?_
  refine v_addLL (m12 _ _ e11) e12 (add1_ok Zcs) fun y13 Y13 m13 _ e13 => ?_
  have M13 := Heap.le_trans m11 (Heap.le_trans m12 m13)
  have N13 := Heap.le_trans N10 M13
  refine v_attr (N13 _ _ ha8) rfl ?_
  refine v_sliceL (N13 _ _ hc8) rfl rfl rfl I0 trivial (lim1 Zcs) fun y14 Y14 m14 _ e14 => ?_
  refine v_addLL (m14 _ _ e13) e14 (add2_ok Zcs) fun y15 Y15 m15 _ e15 => ?_
  have M15 := Heap.le_trans M13 (Heap.le_trans m14 m15)
  have N15 := Heap.le_trans N10 M15
  have ei : ((i : Int) + 1).toNat = i + 1 := rfl
  have e15 : Y15 y15 = some (.list (refsOf (cs.take i ++ lefty D b kb vb cb :: righty D r kb vb cb :: cs.drop (i + 1)))) := by
    rw [e15, cut_to, cut_from, ei]
    have : (refsOf cs).take (i + 1) = refsOf (cs.take i) ++ [V.ref b] := by
      unfold refsOf
      rw [List.take_add_one, List.getElem?_map, ci, List.map_take]; rfl
    rw [this]
    unfold refsOf lefty righty
    simp [Tree.addr]
  have e10 := M15 _ _ e10
  have e5 := M15 _ _ e5
  walk_at "m"
  refine spec_lay S h4 (N15 _ _ ha8) ?_
  walk_at "m"
  refine n_nil ?_
  have al : ∀ {p xs}, Y15 p = some (.list xs) → (Y15.upd a (.inst 0 [(0, .ref y5), (1, .ref y10), (2, .ref y15)])) p = some (.list xs) := fun {p xs} hp => by
    rw [upd_ne (fun e => by rw [e, N15 _ _ ha8] at hp; cases hp)]; exact hp
  have ra : r ≠ a := fun q => by rw [← q, gr] at ha; cases ha
  refine end_ret rfl (k r _ mk mv hmk hmv (hu gr (fun p o e hp => ?_) ⟨y5, y10, y15, upd_self, al e5, al e10, al e15⟩ ((fb.le N15).upd (N15 _ _ ha8) nab) ((fr.le N15).upd (N15 _ _ ha8) ra.symm)))
  simp only [List.mem_cons, List.not_mem_nil, or_false, not_or] at hp
  rw [upd_ne hp.1]
  exact N15 _ _ (F8 _ _ e (by simpa using hp.2))
end
end ML
namespace ML
theorem ins_get {α : Type} {l : List α} {i j : Nat} {x : α} (hi : i ≤ l.length) : (ins l i x)[j]? = if j < i then l[j]? else if j = i then some x else l[j - 1]? := by
  have hl : (l.take i).length = i := by rw [List.length_take]; (first | lia | omega)
  unfold ins
  by_cases h1 : j < i
  · rw [if_pos h1, List.getElem?_append_left (by (first | lia | omega)), List.getElem?_take, if_pos h1]
  · rw [if_neg h1, List.getElem?_append_right (by (first | lia | omega)), hl]
    by_cases h2 : j = i
    · rw [if_pos h2, h2, Nat.sub_self]; rfl
    · rw [if_neg h2]
      obtain ⟨d, hd⟩ : ∃ d, j - i = d + 1 := ⟨j - i - 1, by (first | lia | omega)⟩
      rw [hd, List.getElem?_cons_succ, List.getElem?_drop]
      congr 1; (first | lia | omega)
theorem under_ins {ks : List Int} {i : Nat} {mk key : Int} (hi : i ≤ ks.length) (u : Under ks i key) : (mk < key → Under (ins ks i mk) (i + 1) key) ∧ (key < mk → Under (ins ks i mk) i key) := by
  refine ⟨fun h => ⟨fun j k hj e => ?_, fun j k hj e => ?_⟩, fun h => ⟨fun j k hj e => ?_, fun j k hj e => ?_⟩⟩ <;> rw [ins_get hi] at e
  · split at e
    · rename_i q; exact u.lt j k q e
    · split at e
      · cases e; exact h
      · (first | lia | omega)
  · rw [if_neg (by (first | lia | omega)), if_neg (by (first | lia | omega))] at e
    exact u.gt _ k (by (first | lia | omega)) e
  · rw [if_pos hj] at e
    exact u.lt j k hj e
  · rw [if_neg (by (first | lia | omega))] at e
    split at e
    · cases e; exact h
    · exact u.gt _ k (by (first | lia | omega)) e
theorem under_of {ks : List Int} {key : Int} (hs : ks.Pairwise (· < ·)) (h : ks[below ks key]? ≠ some key) : Under ks (below ks key) key := by
  refine ⟨fun j k hj e => below_lt hs j k hj e, fun j k hj e => ?_⟩
  have h1 := below_ge hs j k hj e
  by_cases q : k = key
  · exfalso
    subst q
    by_cases q : j = below ks k
    · rw [q] at e; exact h e
    · obtain ⟨hj1, e1⟩ := List.getElem?_eq_some_iff.mp e
      have hb : ks[below ks k]? = some (ks[below ks k]'(by (first | lia | omega))) := List.getElem?_eq_getElem _
      have := below_ge hs _ _ (Nat.le_refl _) hb
      have := List.pairwise_iff_getElem.mp hs (below ks k) j (by (first | lia | omega)) hj1 (by (first | lia | omega))
      (first | lia | omega)
  · (first | lia | omega)
theorem mem_set {α : Type} {l : List α} {i : Nat} {x y : α} (h : y ∈ l.set i x) : y = x ∨ y ∈ l := (List.mem_or_eq_of_mem_set h).symm
theorem descend {D h a i : Nat} {G G' : Heap} {ks : List Int} {vs : List V} {cs : List Tree} {c c' : Tree} {key : Int} {v : V} (hh : Holds G (.node a ks vs cs)) (n : (Tree.node a ks vs cs).addrs.Nodup) (s : Sh D (h + 1) (.node a ks vs cs)) (srt : Srt (ino (.node a ks vs cs))) (hc : cs[i]? = some c) (hi : i ≤ ks.length) (u : Under ks i key)
    (x : Upd G G' c c') (s' : Sh D h c') (hk : D - 1 ≤ c'.keys.length) (e : ino c' = putL (ino c) key v) :
    Upd G G' (.node a ks vs cs) (.node a ks vs (cs.set i c')) ∧ Sh D (h + 1) (.node a ks vs (cs.set i c')) ∧ ino (.node a ks vs (cs.set i c')) = putL (ino (.node a ks vs cs)) key v ∧ (ino (.node a ks vs (cs.set i c'))).length + (ino c).length = (ino (.node a ks vs cs)).length + (ino c').length := by
  obtain ⟨s1, s2, s3, s4⟩ := s
  have hlt : i < cs.length := by
    by_cases q : i < cs.length
    · exact q
    · rw [List.getElem?_eq_none (by (first | lia | omega))] at hc; cases hc
  have hcs := get_split hc
  refine ⟨?_, ⟨by rw [List.length_set]; exact s1, s2, s3, fun d hd => ?_⟩, put_child s2 s1 hi hc srt u e, ?_⟩
  · have := Upd.child (L := cs.take i) (R := cs.drop (i + 1)) (hcs ▸ hh) (hcs ▸ n) x
    rw [← hcs, ← set_split hlt] at this
    exact this
  · rcases mem_set hd with rfl | q
    · exact ⟨s', hk⟩
    · exact s4 d q
  · rw [ino_set s2 hi hc, ino_at s2 hi hc]
    simp only [List.length_append]; (first | lia | omega)
theorem child_of {D h a i : Nat} {G : Heap} {ks : List Int} {vs : List V} {cs : List Tree} {c : Tree} (hh : Holds G (.node a ks vs cs)) (n : (Tree.node a ks vs cs).addrs.Nodup) (s : Sh D (h + 1) (.node a ks vs cs)) (srt : Srt (ino (.node a ks vs cs))) (hc : cs[i]? = some c) (hi : i ≤ ks.length) :
    Holds G c ∧ c.addrs.Nodup ∧ Srt (ino c) ∧ (ino c).length ≤ (ino (.node a ks vs cs)).length ∧ (∀ b ∈ c.addrs, b ∈ (Tree.node a ks vs cs).addrs) ∧ Sh D h c ∧ D - 1 ≤ c.keys.length := by
  obtain ⟨s1, s2, s3, s4⟩ := s
  have hm := List.mem_of_getElem? hc
  have hcs := get_split hc
  have ea : addrsL cs = addrsL (cs.take i) ++ (c.addrs ++ addrsL (cs.drop (i + 1))) := by
    conv => lhs; rw [hcs]
    rw [addrsL_app]; rfl
  refine ⟨HoldsL.iff.mp hh.2 c hm, ?_, ?_, ?_, fun b hb => ?_, s4 c hm⟩
  · have := (List.nodup_cons.mp n).2
    rw [ea] at this
    exact (List.nodup_append.mp (List.nodup_append.mp this).2.1).1
  · rw [ino_at s2 hi hc] at srt
    exact srt.right.left
  · rw [ino_at s2 hi hc]; simp only [List.length_append]; (first | lia | omega)
  · rw [addrs_node, ea]
    exact .tail _ (List.mem_append.mpr (.inr (List.mem_append.mpr (.inl hb))))
theorem keys_le {t : Tree} (h : t.vals.length = t.keys.length) : t.keys.length ≤ (ino t).length := by
  cases t with
  | node a ks vs cs =>
    have h : vs.length = ks.length := h
    have := weave_len (C := inoL cs) (P := ks.zip vs)
    rw [zip_len h] at this
    exact this
section
variable {T : Nat → Option Fn} (S : Sys T)
theorem spec_row_with (h5 : T 5 = some f_row_with) {H : Heap} {p i : Nat} {xs : List V} {x : V} {Q : PV} (hp : H p = some (.list xs)) (hi : i < xs.length) (hz : xs.length ≤ 100000) (k : ∀ b, H b = none → Q (.ref b) (H.upd b (.list (xs.set i x)))) : S.Φ 5 [.ref p, .int i, x] H Q := by
  have hlim : lim = 1000000 := rfl
  refine S.call h5 rfl ?_
  dsimp only [f_row_with]
  walk_at "m"
  walk_at "n"
  refine v_sliceL hp rfl rfl rfl trivial (Int.natCast_nonneg _) (lim1 (le1 hz)) fun y1 Y1 m1 n1 e1 => ?_
  refine v_allocL fun y2 Y2 m2 _ e2 => ?_
  refine v_addLL (m2 _ _ e1) e2 (add1_ok (le1 hz)) fun y3 Y3 m3 _ e3 => ?_
  have M3 := Heap.le_trans m1 (Heap.le_trans m2 m3)
  refine v_sliceL (M3 _ _ hp) rfl rfl rfl (Int.natCast_nonneg (i + 1)) trivial (lim1 (le1 hz)) fun y4 Y4 m4 _ e4 => ?_
  refine v_addLL (m4 _ _ e3) e4 (add2_ok (le1 hz)) fun y5 Y5 m5 n5 e5 => ?_
  have M4 := Heap.le_trans M3 m4
  have ei : ((i : Int) + 1).toNat = i + 1 := rfl
  have e5 : Y5 y5 = some (.list (xs.set i x)) := by
    rw [e5, cut_to, cut_from, ei, Int.toNat_natCast, set_split hi]; simp
  exact end_new rfl (Heap.le_trans M4 m5) e5 (fresh_le M4 n5) k
theorem weaveLenEq (C : List (List KV)) : ∀ (P P' : List KV), P.length = P'.length → (weave C P).length = (weave C P').length := by
  induction C with
  | nil => intro P P' h; exact h
  | cons c C ih =>
    intro P P' h
    cases P with
    | nil => cases P' with
      | nil => rfl
      | cons _ _ => cases h
    | cons p P => cases P' with
      | nil => cases h
      | cons p' P' => simp only [weave, List.length_append, List.length_cons]; rw [ih P P' (Nat.succ.inj h)]
theorem found_facts {D h a i : Nat} {ks : List Int} {vs : List V} {cs : List Tree} {key : Int} (v : V) (s : Sh D h (.node a ks vs cs)) (srt : Srt (ino (.node a ks vs cs))) (hk : ks[i]? = some key) :
    Sh D h (.node a ks (vs.set i v) cs) ∧ ino (.node a ks (vs.set i v) cs) = putL (ino (.node a ks vs cs)) key v ∧ (ino (.node a ks (vs.set i v) cs)).length = (ino (.node a ks vs cs)).length := by
  obtain ⟨sv, _⟩ := s.len
  have sv : vs.length = ks.length := sv
  have hcl : cs = [] ∨ cs.length = ks.length + 1 := by
    cases h with
    | zero => exact .inl s.1
    | succ h => exact .inr s.1
  refine ⟨?_, put_found (v := v) sv hcl hk srt, weaveLenEq _ _ _ (by simp)⟩
  cases h with
  | zero => exact ⟨s.1, by rw [List.length_set]; exact s.2.1, s.2.2⟩
  | succ h => exact ⟨s.1, by rw [List.length_set]; exact s.2.1, s.2.2⟩
noncomputable def Clo (Q : PV) (tv : V) (D : Nat) (cn : Nat) (ra : V) (size : Int) (key : Int) (v : V) (G : Heap) (t : Tree) (h : Nat) : Prop :=
  ∀ t' G', Upd G G' t t' → Sh D h t' → t.keys.length ≤ t'.keys.length → ino t' = putL (ino t) key v →
    ((ino t').length = (ino t).length → Q .none G') ∧ ((ino t').length = (ino t).length + 1 → Q .none (G'.upd cn (.inst 1 [(3, tv), (4, ra), (5, .int (size + 1))])))
theorem Clo.child {Q : PV} {tv : V} {D cn h a i : Nat} {ra v : V} {size key : Int} {G : Heap} {ks : List Int} {vs : List V} {cs : List Tree} {c : Tree} (hh : Holds G (.node a ks vs cs)) (n : (Tree.node a ks vs cs).addrs.Nodup) (s : Sh D (h + 1) (.node a ks vs cs)) (srt : Srt (ino (.node a ks vs cs))) (hc : cs[i]? = some c) (hi : i ≤ ks.length) (u : Under ks i key)
    (k : Clo Q tv D cn ra size key v G (.node a ks vs cs) (h + 1)) : Clo Q tv D cn ra size key v G c h := by
  intro c' G' x s' hk e
  obtain ⟨_, _, _, _, _, _, hm⟩ := child_of hh n s srt hc hi
  obtain ⟨d1, d2, d3, d4⟩ := descend hh n s srt hc hi u x s' (Nat.le_trans hm hk) e
  obtain ⟨k1, k2⟩ := k _ _ d1 d2 (Nat.le_refl _) d3
  exact ⟨fun q => k1 (by (first | lia | omega)), fun q => k2 (by (first | lia | omega))⟩
theorem Clo.trans {Q : PV} {tv : V} {D cn h : Nat} {ra v : V} {size key : Int} {G G1 : Heap} {t t1 : Tree} (x : Upd G G1 t t1) (e : ino t1 = ino t) (hl : t.keys.length ≤ t1.keys.length) (k : Clo Q tv D cn ra size key v G t h) : Clo Q tv D cn ra size key v G1 t1 h := by
  intro t' G' y s' hk e'
  have := k t' G' (x.trans y) s' (Nat.le_trans hl hk) (by rw [e', e])
  rw [e]; exact this
theorem frame_of {G G' : Heap} {t t' : Tree} {cn : Nat} {o : O} (x : Upd G G' t t') (h : G cn = some o) (hn : cn ∉ t.addrs) : G' cn = some o ∧ cn ∉ t'.addrs :=
  ⟨x.frame _ _ h hn, fun q => by rcases x.new _ q with q | q; exact hn q; rw [h] at q; cases q⟩
end
end ML
namespace ML
noncomputable def putNew : List S := [
  .expr (.meth 4 (.var 5) [(.bop .add (.bop .add (.slice (.attr (.var 5) 0) none (some (.var 6))) (.list [(.var 1)])) (.slice (.attr (.var 5) 0) (some (.var 6)) none)), (.bop .add (.bop .add (.slice (.attr (.var 5) 1) none (some (.var 6))) (.list [(.var 2)])) (.slice (.attr (.var 5) 1) (some (.var 6)) none)), (.list [])]),
  .setAttr (.var 0) 5 (.bop .add (.attr (.var 0) 5) (.lit (.int 1))),
  .ret (some (.lit .none))]
noncomputable def putLeaf : List S :=
  .assign 6 (.meth 3 (.var 5) [(.var 1)]) ::
  .ite (.and (.cmp .lt (.var 6) (.prim .len [(.attr (.var 5) 0)])) (.cmp .eq (.idx (.attr (.var 5) 0) (.var 6)) (.var 1))) [
    .expr (.meth 4 (.var 5) [(.slice (.attr (.var 5) 0) none none), (.call 5 [(.attr (.var 5) 1), (.var 6), (.var 2)]), (.list [])]),
    .ret (some (.lit .none))] [] :: putNew
noncomputable def putLay : List S := [
  .expr (.meth 4 (.var 5) [(.slice (.attr (.var 5) 0) none none), (.call 5 [(.attr (.var 5) 1), (.var 6), (.var 2)]), (.slice (.attr (.var 5) 2) none none)]),
  .ret (some (.lit .none))]
noncomputable def putDown : List S := [.assign 5 (.idx (.attr (.var 5) 2) (.var 6))]
noncomputable def putSplit : List S := [
  .expr (.meth 10 (.var 0) [(.var 5), (.var 6)]),
  .ite (.cmp .eq (.idx (.attr (.var 5) 0) (.var 6)) (.var 1)) putLay [],
  .ite (.cmp .lt (.idx (.attr (.var 5) 0) (.var 6)) (.var 1)) [
    .assign 6 (.bop .add (.var 6) (.lit (.int 1)))] []]
noncomputable def putLoop2 : List S :=
  .ite (.cmp .eq (.prim .len [(.attr (.idx (.attr (.var 5) 2) (.var 6)) 0)]) (.var 3)) putSplit [] :: putDown
noncomputable def putLoop : List S :=
  .assign 6 (.meth 3 (.var 5) [(.var 1)]) ::
  .ite (.and (.cmp .lt (.var 6) (.prim .len [(.attr (.var 5) 0)])) (.cmp .eq (.idx (.attr (.var 5) 0) (.var 6)) (.var 1))) putLay [] :: putLoop2
noncomputable def putGo : List S := .assign 5 (.attr (.var 0) 4) :: .whl (.not (.meth 2 (.var 5) [])) putLoop :: putLeaf
theorem f_put_eq : f_put = ⟨3, 7, .assign 3 (.bop .sub (.bop .mul (.lit (.int 2)) (.attr (.var 0) 3)) (.lit (.int 1))) ::
  .ite (.cmp .eq (.prim .len [(.attr (.attr (.var 0) 4) 0)]) (.var 3)) [
    .assign 4 (.attr (.var 0) 4),
    .setAttr (.var 0) 4 (.new 0 [(.list []), (.list []), (.list [(.var 4)])]),
    .expr (.meth 10 (.var 0) [(.attr (.var 0) 4), (.lit (.int 0))])] [] :: putGo⟩ := rfl
section
variable {T : Nat → Option Fn} (S : Sys T)
noncomputable abbrev fin (Q : PV) : PS := fun fl _ H' => ∃ H'' : Heap, H''.le H' ∧ Q fl.val H''
theorem put_new_ok (h4 : T 4 = some f_lay) {tv : V} {D a cn i : Nat} {G : Heap} {ks : List Int} {vs : List V} {size key : Int} {v ra : V} {x3 x4 : Option V} {Q : PV} (hc : G cn = some (.inst 1 [(3, tv), (4, ra), (5, .int size)])) (cna : cn ≠ a)
    (hh : Holds G (.node a ks vs [])) (s : Sh D 0 (.node a ks vs [])) (hf : ks.length < 2 * D - 1) (z : ks.length ≤ 50000) (hi : i ≤ ks.length) (u : Under ks i key) (k : Clo Q tv D cn ra size key v G (.node a ks vs []) 0) :
    wpSs S.Φ putNew [some (.ref cn), some (.int key), some v, x3, x4, some (.ref a), some (.int i)] G (fin Q) := by
  have hlim : lim = 1000000 := rfl
  have hn : (Tree.node a ks vs []).addrs.Nodup := by simp [Tree.addrs, addrsL]
  have hh0 := hh
  refine absG fun Cg hCg => ?_
  obtain ⟨⟨pk, pv, pc, ha, hk, hv, _⟩, _⟩ := hh
  obtain ⟨_, sv, _⟩ := s
  have Zks : (ks.map V.int).length ≤ 100001 := by rw [List.length_map]; exact Nat.le_trans z (by decide)
  have Zvs : vs.length ≤ 100001 := sv ▸ Nat.le_trans z (by decide)
  refine hCg ?_; clear hCg
  unfold putNew
  walk_at "n"
  refine v_isInst ha ?_
  refine v_attr ha rfl ?_
  refine v_sliceL hk rfl rfl rfl trivial (Int.natCast_nonneg _) (lim1 Zks) fun y1 Y1 m1 _ e1 => ?_
  refine v_allocL fun y2 Y2 m2 _ e2 => ?_
  refine v_addLL (m2 _ _ e1) e2 (add1_ok Zks) fun y3 Y3 m3 _ e3 => ?_
  have M3 := Heap.le_trans m1 (Heap.le_trans m2 m3)
  refine v_attr (M3 _ _ ha) rfl ?_
  refine v_sliceL (M3 _ _ hk) rfl rfl rfl (Int.natCast_nonneg _) trivial (lim1 Zks) fun y4 Y4 m4 _ e4 => ?_
  refine v_addLL (m4 _ _ e3) e4 (add2_ok Zks) fun y5 Y5 m5 _ e5 => ?_
  have M5 := Heap.le_trans M3 (Heap.le_trans m4 m5)
  have e5 : Y5 y5 = some (.list ((ins ks i key).map V.int)) := by
    rw [e5, cut_to, cut_from, Int.toNat_natCast]; unfold ins; simp [List.map_take, List.map_drop]
  clear e1 e2 e3 e4 m1 m2 m3 m4 m5 M3
  refine v_attr (M5 _ _ ha) rfl ?_
  refine v_sliceL (M5 _ _ hv) rfl rfl rfl trivial (Int.natCast_nonneg _) (lim1 Zvs) fun y6 Y6 m6 _ e6 => ?_
  refine v_allocL fun y7 Y7 m7 _ e7 => ?_
  refine v_addLL (m7 _ _ e6) e7 (add1_ok Zvs) fun y8 Y8 m8 _ e8 => ?_
  have M8 := Heap.le_trans m6 (Heap.le_trans m7 m8)
  have N8 := Heap.le_trans M5 M8
  refine v_attr (N8 _ _ ha) rfl ?_
  refine v_sliceL (N8 _ _ hv) rfl rfl rfl (Int.natCast_nonneg _) trivial (lim1 Zvs) fun y9 Y9 m9 _ e9 => ?_
  refine v_addLL (m9 _ _ e8) e9 (add2_ok Zvs) fun y10 Y10 m10 _ e10 => ?_
  have M10 := Heap.le_trans M8 (Heap.le_trans m9 m10)
  have e10 : Y10 y10 = some (.list (ins vs i v)) := by
    rw [e10, cut_to, cut_from, Int.toNat_natCast]; unfold ins; simp
  have e5 := M10 _ _ e5
  have N10 := Heap.le_trans M5 M10
  clear e6 e7 e8 e9 m6 m7 m8 m9 m10 M8 N8 M5 M10
  refine v_allocL fun y11 Y11 m11 _ e11 => ?_
  have N11 := Heap.le_trans N10 m11
  walk_at "m"
  refine spec_lay S h4 (N11 _ _ ha) ?_
  walk_at "m"
  have x := upd_lay hh0 hn N11 (ks' := ins ks i key) (vs' := ins vs i v) (m11 _ _ e5) (m11 _ _ e10) e11
  obtain ⟨hc', _⟩ := frame_of x hc (by simp [Tree.addrs, addrsL]; exact cna)
  generalize Y11.upd a (.inst 0 [(0, .ref y5), (1, .ref y10), (2, .ref y11)]) = X at x hc' ⊢
  have e := put_leaf (a := a) (v := v) sv u
  obtain ⟨_, k2⟩ := k _ _ x ⟨rfl, by rw [ins_len, ins_len, sv], by rw [ins_len]; (first | lia | omega)⟩ (by show ks.length ≤ (ins ks i key).length; rw [ins_len]; exact Nat.le_succ _) e
  walk_at "n"
  refine v_attr hc' rfl ?_
  walk_at "m"
  refine v_setAttr (fs' := [(3, tv), (4, ra), (5, .int (size + 1))]) hc' (by simp) rfl ?_
  walk_at "n"
  refine end_ret rfl (k2 ?_)
  show (weave [] ((ins ks i key).zip (ins vs i v))).length = (weave [] (ks.zip vs)).length + 1
  show ((ins ks i key).zip (ins vs i v)).length = (ks.zip vs).length + 1
  rw [zip_ins sv, ins_len]
theorem place_test {Φ : Orac} {m : Loc} {G : Heap} {a pk i : Nat} {ks : List Int} {key : Int} {fs : List (Nat × V)} {K : Bool → Heap → Prop} (m5 : m[5]? = some (some (.ref a))) (m6 : m[6]? = some (some (.int i))) (m1 : m[1]? = some (some (.int key))) (ha : G a = some (.inst 0 ((0, .ref pk) :: fs))) (hk : G pk = some (.list (ks.map V.int))) (z : ks.length ≤ 100000)
    (h1 : ks[i]? = some key → K true G) (h2 : ks[i]? ≠ some key → K false G) :
    wpT Φ (.and (.cmp .lt (.var 6) (.prim .len [(.attr (.var 5) 0)])) (.cmp .eq (.idx (.attr (.var 5) 0) (.var 6)) (.var 1))) m G K := by
  have hlim : lim = 1000000 := rfl
  rw [t_and, t_cmp, w_var, m6]
  show wpE Φ (.prim .len [(.attr (.var 5) 0)]) m G _
  rw [w_prim, w_econs, w_attr, w_var, m5]
  refine v_attr ha rfl ?_
  walk_at "m"
  refine v_len hk rfl ?_
  walk_at "m"
  by_cases q : i < ks.length
  · refine v_ifT (by simp; (first | lia | omega)) ?_
    rw [m5]
    refine v_attr ha rfl ?_
    rw [m6]
    refine v_idx (v := .int (ks[i]'q)) hk rfl (by (first | lia | omega)) (by (first | lia | omega)) (by rw [Int.toNat_natCast, List.getElem?_map, List.getElem?_eq_getElem q]; rfl) ?_
    rw [m1]
    walk_at "m"
    by_cases q' : ks[i]'q = key
    · rw [q', decide_eq_true rfl]
      exact h1 (by rw [List.getElem?_eq_getElem q, q'])
    · rw [decide_eq_false q']
      exact h2 (by rw [List.getElem?_eq_getElem q]; intro e; exact q' (Option.some.inj e))
  · refine v_ifF (by simp; (first | lia | omega)) ?_
    exact h2 (by rw [List.getElem?_eq_none (by (first | lia | omega))]; intro e; cases e)
end
end ML
namespace ML
theorem full_eq {n D : Nat} (h : n = 2 * D - 1) (hD : 2 ≤ D) : decide ((n : Int) = 2 * (D : Int) - 1) = true := by simp; (first | lia | omega)
theorem full_ne {n D : Nat} (h : ¬ n = 2 * D - 1) (hD : 2 ≤ D) : decide ((n : Int) = 2 * (D : Int) - 1) = false := by simp; (first | lia | omega)
theorem full_lt {n D : Nat} (h : ¬ n = 2 * D - 1) (h2 : n ≤ 2 * D - 1) : n < 2 * D - 1 := Nat.lt_of_le_of_ne h2 h
theorem full_ge {n D : Nat} (h : n = 2 * D - 1) (hD : 2 ≤ D) : D ≤ n := by (first | lia | omega)
theorem half1 {D : Nat} {l : List Int} (hD : 2 ≤ D) : (l.take (D - 1)).length < 2 * D - 1 := Nat.lt_of_le_of_lt (List.length_take_le _ _) (by (first | lia | omega))
theorem half2 {D n : Nat} (h : n = 2 * D - 1) (hD : 2 ≤ D) : n - D < 2 * D - 1 := by (first | lia | omega)
section
variable {T : Nat → Option Fn} (S : Sys T)
theorem put_lay_ok (h4 : T 4 = some f_lay) (h5 : T 5 = some f_row_with) {tv : V} {D h a i : Nat} {G : Heap} {ks : List Int} {vs : List V} {cs : List Tree} {key : Int} {v x0 : V} {x3 x4 : Option V} {Q : PV} {K : Loc → Heap → Prop} (hh : Holds G (.node a ks vs cs)) (n : (Tree.node a ks vs cs).addrs.Nodup) (s : Sh D h (.node a ks vs cs)) (srt : Srt (ino (.node a ks vs cs))) (hk : ks[i]? = some key) (z : ks.length ≤ 50000) (z2 : cs.length ≤ 50001)
    {cn : Nat} {ra : V} {size : Int} (k : Clo Q tv D cn ra size key v G (.node a ks vs cs) h) {R : PS} (hR : ∀ m H, fin Q (.ret .none) m H → R (.ret .none) m H) :
    wpSs S.Φ putLay [some x0, some (.int key), some v, x3, x4, some (.ref a), some (.int i)] G (thenW K R) := by
  have hlim : lim = 1000000 := rfl
  have hh0 := hh
  refine absG fun Cg hCg => ?_
  obtain ⟨⟨pk, pv, pc, ha, hpk, hpv, hpc⟩, _⟩ := hh
  have sv : vs.length = ks.length := s.len.1
  refine hCg ?_; clear hCg
  have hi : i < ks.length := by
    by_cases q : i < ks.length
    · exact q
    · rw [List.getElem?_eq_none (by (first | lia | omega))] at hk; cases hk
  refine absG fun Cg hCg => ?_
  obtain ⟨f1, f2, f3⟩ := found_facts v s srt hk
  refine hCg ?_; clear hCg
  unfold putLay
  walk_at "n"
  refine v_isInst ha ?_
  refine v_attr ha rfl ?_
  refine v_sliceL hpk rfl rfl rfl trivial trivial (by simp; (first | lia | omega)) fun y1 Y1 m1 _ e1 => ?_
  rw [cut_all] at e1
  walk_at "m"
  refine v_attr (m1 _ _ ha) rfl ?_
  refine spec_row_with S h5 (m1 _ _ hpv) (by (first | lia | omega)) (by (first | lia | omega)) fun y2 n2 => ?_
  have M2 : G.le (Y1.upd y2 (.list (vs.set i v))) := Heap.le_trans m1 (Heap.le_upd n2)
  refine v_attr (M2 _ _ ha) rfl ?_
  refine v_sliceL (M2 _ _ hpc) rfl rfl rfl trivial trivial (by simp [refsOf]; (first | lia | omega)) fun y3 Y3 m3 _ e3 => ?_
  rw [cut_all] at e3
  have M3 := Heap.le_trans M2 m3
  walk_at "m"
  refine spec_lay S h4 (M3 _ _ ha) ?_
  walk_at "m"
  have x := upd_lay hh0 n M3 (ks' := ks) (vs' := vs.set i v) (m3 _ _ (upd_fresh n2 e1)) (m3 _ _ upd_self) e3
  walk_at "n"
  refine n_thenR (hR _ _ ?_)
  exact end_ret rfl ((k _ _ x f1 (Nat.le_refl _) f2).1 f3)
theorem put_leaf_ok (h3 : T 3 = some f_slot) (h4 : T 4 = some f_lay) (h5 : T 5 = some f_row_with) {tv : V} {D a cn : Nat} {G : Heap} {ks : List Int} {vs : List V} {size key : Int} {v ra : V} {x3 x4 x6 : Option V} {Q : PV} (hc : G cn = some (.inst 1 [(3, tv), (4, ra), (5, .int size)])) (cna : cn ≠ a)
    (hh : Holds G (.node a ks vs [])) (s : Sh D 0 (.node a ks vs [])) (srt : Srt (ino (.node a ks vs []))) (hf : ks.length < 2 * D - 1) (z : ks.length ≤ 50000) (k : Clo Q tv D cn ra size key v G (.node a ks vs []) 0) :
    wpSs S.Φ putLeaf [some (.ref cn), some (.int key), some v, x3, x4, some (.ref a), x6] G (fin Q) := by
  have hlim : lim = 1000000 := rfl
  have hn : (Tree.node a ks vs []).addrs.Nodup := by simp [Tree.addrs, addrsL]
  have hh0 := hh
  refine absG fun Cg hCg => ?_
  obtain ⟨⟨pk, pv, pc, ha, hpk, hpv, hpc⟩, _⟩ := hh
  have sv : vs.length = ks.length := s.len.1
  have hks := keys_srt srt sv
  refine hCg ?_; clear hCg
  unfold putLeaf
  walk_at "n"
  refine v_isInst ha ?_
  refine spec_slot S h3 ha hpk hks (by (first | lia | omega)) ?_
  refine n_ite ?_
  refine place_test rfl rfl rfl ha hpk (by (first | lia | omega)) (fun q => ?_) fun q => ?_
  · refine v_ifT rfl ?_
    refine absG fun Cg hCg => ?_
    obtain ⟨f1, f2, f3⟩ := found_facts v s srt q
    refine hCg ?_; clear hCg
    have hi : below ks key < ks.length := by
      by_cases q' : below ks key < ks.length
      · exact q'
      · rw [List.getElem?_eq_none (by (first | lia | omega))] at q; cases q
    walk_at "n"
    refine v_isInst ha ?_
    refine v_attr ha rfl ?_
    refine v_sliceL hpk rfl rfl rfl trivial trivial (by simp; (first | lia | omega)) fun y1 Y1 m1 _ e1 => ?_
    rw [cut_all] at e1
    walk_at "m"
    refine v_attr (m1 _ _ ha) rfl ?_
    refine spec_row_with S h5 (m1 _ _ hpv) (by (first | lia | omega)) (by (first | lia | omega)) fun y2 n2 => ?_
    have M2 : G.le (Y1.upd y2 (.list (vs.set (below ks key) v))) := Heap.le_trans m1 (Heap.le_upd n2)
    refine v_allocL fun y3 Y3 m3 _ e3 => ?_
    have M3 := Heap.le_trans M2 m3
    walk_at "m"
    refine spec_lay S h4 (M3 _ _ ha) ?_
    walk_at "m"
    have x := upd_lay hh0 hn M3 (ks' := ks) (vs' := vs.set (below ks key) v) (m3 _ _ (upd_fresh n2 e1)) (m3 _ _ upd_self) e3
    walk_at "n"
    refine n_thenR ?_
    exact end_ret rfl ((k _ _ x f1 (Nat.le_refl _) f2).1 f3)
  · refine v_ifF rfl ?_
    refine n_nil (n_then ?_)
    exact put_new_ok S h4 hc cna hh0 s hf z below_le (under_of hks q) k
theorem put_turn (h0 : T 0 = some f_Node_init) (h3 : T 3 = some f_slot) (h4 : T 4 = some f_lay) (h5 : T 5 = some f_row_with) (h10 : T 10 = some f_split_child) {D h a cn : Nat} {G : Heap} {ks : List Int} {vs : List V} {cs : List Tree} {size key : Int} {v ra : V} {x4 x6 : Option V} {Q : PV} {K : Loc → Heap → Prop} {R : PS} (hD : 2 ≤ D)
    (hc : G cn = some (.inst 1 [(3, .int D), (4, ra), (5, .int size)])) (cna : cn ∉ (Tree.node a ks vs cs).addrs) (hh : Holds G (.node a ks vs cs)) (n : (Tree.node a ks vs cs).addrs.Nodup) (s : Sh D (h + 1) (.node a ks vs cs)) (srt : Srt (ino (.node a ks vs cs))) (hf : ks.length < 2 * D - 1) (z : (ino (.node a ks vs cs)).length ≤ 50000)
    (k : Clo Q (.int D) D cn ra size key v G (.node a ks vs cs) (h + 1)) (hR : ∀ m H, fin Q (.ret .none) m H → R (.ret .none) m H)
    (go : ∀ (c : Tree) G1 x6, Holds G1 c → c.addrs.Nodup → Sh D h c → Srt (ino c) → c.keys.length < 2 * D - 1 → (ino c).length ≤ 50000 → G1 cn = some (.inst 1 [(3, .int D), (4, ra), (5, .int size)]) → cn ∉ c.addrs → Clo Q (.int D) D cn ra size key v G1 c h →
      K [some (.ref cn), some (.int key), some v, some (.int (2 * D - 1)), x4, some (.ref c.addr), x6] G1) :
    wpSs S.Φ putLoop [some (.ref cn), some (.int key), some v, some (.int (2 * D - 1)), x4, some (.ref a), x6] G (turnW K R) := by
  have hlim : lim = 1000000 := rfl
  have hh0 := hh
  refine absG fun Cg hCg => ?_
  obtain ⟨⟨pk, pv, pc, ha, hpk, hpv, hpc⟩, hcs⟩ := hh
  have s0 := s
  obtain ⟨s1, s2, s3, s4⟩ := s
  have hks := keys_srt srt s2
  have zk : ks.length ≤ 50000 := Nat.le_trans (keys_le (t := .node a ks vs cs) s2) z
  have hRe : ∀ m H, fin Q (.ret .none) m H → turnW K R (.ret .none) m H := fun m H q => turn_ret (hR m H q)
  refine hCg ?_; clear hCg
  have down : ∀ (j : Nat) (ks1 : List Int) (vs1 : List V) (cs1 : List Tree) (c : Tree) (G1 : Heap), Holds G1 (.node a ks1 vs1 cs1) → (Tree.node a ks1 vs1 cs1).addrs.Nodup → Sh D (h + 1) (.node a ks1 vs1 cs1) → Srt (ino (.node a ks1 vs1 cs1)) → (ino (.node a ks1 vs1 cs1)).length ≤ 50000 → G1 cn = some (.inst 1 [(3, .int D), (4, ra), (5, .int size)]) → cn ∉ (Tree.node a ks1 vs1 cs1).addrs →
      cs1[j]? = some c → j ≤ ks1.length → Under ks1 j key → c.keys.length < 2 * D - 1 → Clo Q (.int D) D cn ra size key v G1 (.node a ks1 vs1 cs1) (h + 1) →
      wpSs S.Φ putDown [some (.ref cn), some (.int key), some v, some (.int (2 * D - 1)), x4, some (.ref a), some (.int j)] G1 (turnW K R) := by
    intro j ks1 vs1 cs1 c G1 g1 g2 g3 g4 g5 g6 g7 g8 g9 g10 g11 g12
    refine absG fun Cg hCg => ?_
    obtain ⟨c1, c2, c3, c4, c5, c6, _⟩ := child_of g1 g2 g3 g4 g8 g9
    have hj : j ≤ 50000 := Nat.le_trans g9 (Nat.le_trans (keys_le (t := .node a ks1 vs1 cs1) g3.2.1) g5)
    obtain ⟨⟨qk, qv, qc, qa, _, _, qcs⟩, _⟩ := g1
    refine hCg ?_; clear hCg
    unfold putDown
    walk_at "n"
    refine v_attr qa rfl ?_
    refine v_idxN (v := .ref c.addr) qcs rfl (Nat.le_trans hj (by decide)) (by unfold refsOf; rw [List.getElem?_map, g8]; rfl) ?_
    walk_at "m"
    refine n_nil ?_
    exact turn_next (go c G1 _ c1 c2 c6 c3 g11 (Nat.le_trans c4 g5) g6 (fun q => g7 (c5 _ q)) (Clo.child ⟨⟨qk, qv, qc, qa, ‹_›, ‹_›, qcs⟩, ‹_›⟩ g2 g3 g4 g8 g9 g10 g12))
  unfold putLoop
  walk_at "n"
  refine v_isInst ha ?_
  refine spec_slot S h3 ha hpk hks (by (first | lia | omega)) ?_
  refine n_ite ?_
  refine place_test rfl rfl rfl ha hpk (by (first | lia | omega)) (fun q => ?_) fun q => ?_
  · refine v_ifT rfl ?_
    exact put_lay_ok S h4 h5 hh0 n s0 srt q zk (by (first | lia | omega)) k (R := turnW K R) hRe
  · refine v_ifF rfl ?_
    refine n_nil (n_then ?_)
    have u := under_of hks q
    have hi : below ks key ≤ ks.length := below_le
    generalize below ks key = i at u hi q ⊢
    have hilt : i < cs.length := by (first | lia | omega)
    have hci : cs[i]? = some (cs[i]'hilt) := List.getElem?_eq_getElem _
    generalize cs[i]'hilt = c at hci
    obtain ⟨sc, scm⟩ := s4 c (List.mem_of_getElem? hci)
    refine absG fun Cg hCg => ?_
    obtain ⟨b, kb, vb, cb⟩ := c
    refine hCg ?_; clear hCg
    obtain ⟨⟨qk, qv, qc, hb, hbk, hbv, hbc⟩, hcb⟩ : Holds G (.node b kb vb cb) := HoldsL.iff.mp hcs _ (List.mem_of_getElem? hci)
    obtain ⟨svb, skb⟩ := sc.len
    have svb : vb.length = kb.length := svb
    have skb : kb.length ≤ 2 * D - 1 := skb
    unfold putLoop2
    walk_at "n"
    refine v_attr ha rfl ?_
    refine v_idxN (v := .ref b) hpc rfl (Nat.le_trans hi (Nat.le_trans zk (by decide))) (by unfold refsOf; rw [List.getElem?_map, hci]; rfl) ?_
    refine v_attr hb rfl ?_
    refine v_len hbk rfl ?_
    walk_at "m"
    rw [List.length_map]
    by_cases hfull : kb.length = 2 * D - 1
    · refine v_ifT (full_eq hfull hD) ?_
      unfold putSplit
      walk_at "n"
      refine v_isInst hc ?_
      have zb : kb.length ≤ 50000 := by
        have h1 := keys_le (t := .node b kb vb cb) svb
        have h2 := (child_of hh0 n s0 srt hci hi).2.2.2.1
        exact Nat.le_trans h1 (Nat.le_trans h2 z)
      have zcb : cb = [] ∨ cb.length = kb.length + 1 := by
        cases h with
        | zero => exact .inl sc.1
        | succ h => exact .inr sc.1
      have zcb' : cb.length ≤ 100001 := by rcases zcb with rfl | q; exact Nat.zero_le _; (first | lia | omega)
      refine spec_split S h0 h4 h10 hc hh0 n hci (Nat.le_of_succ_le hD) hi s2 svb (full_ge hfull hD) (Nat.le_trans zk (by decide)) (s1 ▸ Nat.succ_le_succ (Nat.le_trans zk (by decide))) (Nat.le_trans zb (by decide)) zcb' fun r G1 mk mv hmk hmv x => ?_
      walk_at "m"
      refine absG fun Cg hCg => ?_
      obtain ⟨sh1, shl, shr⟩ := split_sh (r := r) (mk := mk) (mv := mv) hD s0 hf hci hfull
      have e1 := split_ino (a := a) (r := r) (Nat.le_of_succ_le hD) s2 hi hci svb zcb hmk hmv
      have x0 := x
      have srt1 := srt
      refine hCg ?_; clear hCg
      rw [← e1] at srt1
      obtain ⟨hc1, cna1⟩ := frame_of x hc cna
      have k1 := Clo.trans x e1 (by show ks.length ≤ (ins ks i mk).length; rw [ins_len]; exact Nat.le_succ _) k
      have z1 : (ino (splitT D a i r ks vs cs b kb vb cb mk mv)).length ≤ 50000 := by rw [e1]; exact z
      have hl := x.holds
      have nn := x.nodup
      unfold splitT at hl nn sh1 srt1 cna1 k1 z1
      obtain ⟨u1, u2⟩ := under_ins (mk := mk) hi u
      have hil : (cs.take i).length = i := List.length_take_of_le (Nat.le_of_lt hilt)
      have c1 : (cs.take i ++ lefty D b kb vb cb :: righty D r kb vb cb :: cs.drop (i + 1))[i]? = some (lefty D b kb vb cb) := by
        rw [List.getElem?_append_right (Nat.le_of_eq hil), hil, Nat.sub_self]; rfl
      have c2 : (cs.take i ++ lefty D b kb vb cb :: righty D r kb vb cb :: cs.drop (i + 1))[i + 1]? = some (righty D r kb vb cb) := by
        rw [List.getElem?_append_right (show (cs.take i).length ≤ i + 1 from Nat.le_succ_of_le (Nat.le_of_eq hil)), hil, Nat.add_sub_cancel_left]; rfl
      have l1 : (lefty D b kb vb cb).keys.length < 2 * D - 1 := half1 hD
      have l2 : (righty D r kb vb cb).keys.length < 2 * D - 1 := by show (kb.drop D).length < _; rw [List.length_drop]; exact half2 hfull hD
      have hi1 : (ins ks i mk)[i]? = some mk := by rw [ins_get hi, if_neg (Nat.lt_irrefl _), if_pos rfl]
      have il : (ins ks i mk).length = ks.length + 1 := ins_len
      refine absG fun Cg hCg => ?_
      obtain ⟨⟨rk, rv, rc, ra1, rk1, rv1, rc1⟩, _⟩ := hl
      have hl := x0.holds
      refine hCg ?_; clear hCg
      unfold splitT at hl
      have zi : ks.length + 1 ≤ 50000 := by
        have := keys_le (t := .node a (ins ks i mk) (ins vs i mv) (cs.take i ++ lefty D b kb vb cb :: righty D r kb vb cb :: cs.drop (i + 1))) (by show (ins vs i mv).length = (ins ks i mk).length; rw [ins_len, ins_len, s2])
        have e : (Tree.node a (ins ks i mk) (ins vs i mv) (cs.take i ++ lefty D b kb vb cb :: righty D r kb vb cb :: cs.drop (i + 1))).keys.length = ks.length + 1 := il
        (first | lia | omega)
      walk_at "n"
      refine v_attr ra1 rfl ?_
      refine v_idxN (v := .int mk) rk1 rfl (Nat.le_trans hi (Nat.le_trans zk (by decide))) (by rw [List.getElem?_map, hi1]; rfl) ?_
      walk_at "m"
      by_cases q1 : mk = key
      · refine v_ifT (decide_eq_true q1) ?_
        exact put_lay_ok S h4 h5 hl nn sh1 srt1 (q1 ▸ hi1) (by (first | lia | omega)) (by have := sh1.1; (first | lia | omega)) k1 (R := thenW _ (turnW K R)) fun m H q => n_thenR (hRe m H q)
      · refine v_ifF (decide_eq_false q1) ?_
        refine n_nil (n_then ?_)
        walk_at "n"
        refine v_attr ra1 rfl ?_
        refine v_idxN (v := .int mk) rk1 rfl (Nat.le_trans hi (Nat.le_trans zk (by decide))) (by rw [List.getElem?_map, hi1]; rfl) ?_
        walk_at "m"
        by_cases q2 : mk < key
        · refine v_ifT (decide_eq_true q2) ?_
          walk_at "n"
          refine n_nil (n_then (n_nil (n_then ?_)))
          exact down (i + 1) _ _ _ _ G1 hl nn sh1 srt1 z1 hc1 cna1 c2 (by (first | lia | omega)) (u1 q2) l2 k1
        · refine v_ifF (decide_eq_false q2) ?_
          refine n_nil (n_then (n_nil (n_then ?_)))
          exact down i _ _ _ _ G1 hl nn sh1 srt1 z1 hc1 cna1 c1 (by (first | lia | omega)) (u2 (by (first | lia | omega))) l1 k1
    · refine v_ifF (full_ne hfull hD) ?_
      refine n_nil (n_then ?_)
      exact down i ks vs cs _ G hh0 n s0 srt z hc cna hci hi u (full_lt hfull skb) k
end
end ML
namespace ML
noncomputable def OddT (tv : V) : Prop := ∃ full : V, (∀ (H : Heap) (Q : PV), Q full H → bopW .mul (.int 2) tv H fun v H => bopW .sub v (.int 1) H Q) ∧ ∀ (n : Nat), n ≤ 50000 → ∀ (H : Heap) (Q : Bool → Prop), Q false → cmpW .eq (.int n) full H Q
structure IsMapT (tv : V) (G : Heap) (cn D h : Nat) (root : Tree) (size : Int) : Prop where
  obj : G cn = some (.inst 1 [(3, tv), (4, .ref root.addr), (5, .int size)])
  holds : Holds G root
  nodup : root.addrs.Nodup
  sh : Sh D h root
  srt : Srt (ino root)
  deg : tv = .int D ∨ (h = 0 ∧ OddT tv ∧ 50000 ≤ D)
noncomputable abbrev IsMap (G : Heap) (cn D h : Nat) (root : Tree) (size : Int) : Prop := IsMapT (.int D) G cn D h root size
theorem IsMapT.apart {tv : V} {G : Heap} {cn D h : Nat} {root : Tree} {size : Int} (m : IsMapT tv G cn D h root size) : cn ∉ root.addrs := fun q => by
  obtain ⟨fs, e⟩ := addrs_inst m.holds _ q
  rw [m.obj] at e; cases e
section
variable {T : Nat → Option Fn} (S : Sys T)
theorem put_go (h0 : T 0 = some f_Node_init) (h2 : T 2 = some f_is_leaf) (h3 : T 3 = some f_slot) (h4 : T 4 = some f_lay) (h5 : T 5 = some f_row_with) (h10 : T 10 = some f_split_child) {tv full : V} {D h cn : Nat} {G : Heap} {root : Tree} {size key : Int} {v : V} {x4 : Option V} {Q : PV} (hD : 2 ≤ D) (m : IsMapT tv G cn D h root size) (hfull : (tv = .int D ∧ full = .int (2 * D - 1)) ∨ h = 0) (hf : root.keys.length < 2 * D - 1) (z : (ino root).length ≤ 50000)
    (k : Clo Q tv D cn (.ref root.addr) size key v G root h) :
    wpSs S.Φ putGo [some (.ref cn), some (.int key), some v, some full, x4, none, none] G (fin Q) := by
  have hlim : lim = 1000000 := rfl
  unfold putGo
  walk_at "n"
  refine v_attr m.obj rfl ?_
  walk_at "m"
  refine n_whl ?_
  refine ⟨fun n m' Gx => ∃ (t : Tree) (x6 : Option V), ((tv = .int D ∧ full = .int (2 * D - 1)) ∨ n = 0) ∧ m' = [some (.ref cn), some (.int key), some v, some full, x4, some (.ref t.addr), x6] ∧ Holds Gx t ∧ t.addrs.Nodup ∧ Sh D n t ∧ Srt (ino t) ∧ t.keys.length < 2 * D - 1 ∧ (ino t).length ≤ 50000 ∧ Gx cn = some (.inst 1 [(3, tv), (4, .ref root.addr), (5, .int size)]) ∧ cn ∉ t.addrs ∧ Clo Q tv D cn (.ref root.addr) size key v Gx t n,
    h, ⟨root, none, hfull, rfl, m.holds, m.nodup, m.sh, m.srt, hf, z, m.obj, m.apart, k⟩, ?_⟩
  intro n m' Gx hIw
  refine hideK fun Kw hKw => absG fun Cg hCg => ?_
  obtain ⟨t, x6, g0, rfl, g1, g2, g3, g4, g5, g6, g7, g8, g9⟩ := hIw
  obtain ⟨a, ks, vs, cs⟩ := t
  have g1' := g1
  obtain ⟨⟨pk, pv, pc, ha, hpk, hpv, hpc⟩, _⟩ := g1'
  refine hCg ?_; clear hCg
  rw [t_not, t_meth, w_meth]
  walk_at "m"
  refine v_isInst ha ?_
  refine spec_is_leaf S h2 ha hpc ?_
  walk_at "m"
  cases n with
  | zero =>
    refine absG fun Cg hCg => ?_
    obtain ⟨rfl, s2, s3⟩ := g3
    refine hCg ?_; clear hCg
    refine v_ifF rfl ?_
    refine n_then ?_
    have zk : ks.length ≤ 50000 := Nat.le_trans (keys_le (t := .node a ks vs []) s2) g6
    exact put_leaf_ok S h3 h4 h5 g7 (fun q => g8 (q ▸ .head _)) g1 ⟨rfl, s2, s3⟩ g4 g5 zk g9
  | succ n =>
    have s1 := g3.1
    obtain ⟨rfl, rfl⟩ := g0.resolve_right (Nat.succ_ne_zero n)
    refine v_ifT (by simp [refsOf]; intro q; rw [q] at s1; simp at s1) ?_
    refine put_turn S h0 h3 h4 h5 h10 hD g7 g8 g1 g2 g3 g4 g5 g6 g9 (fun m H q => n_thenR q) fun c G1 x6 c1 c2 c3 c4 c5 c6 c7 c8 c9 => ?_
    exact hKw _ _ ⟨n, Nat.lt_succ_self n, c, x6, .inl ⟨rfl, rfl⟩, rfl, c1, c2, c3, c4, c5, c6, c7, c8, c9⟩
theorem spec_put (h0 : T 0 = some f_Node_init) (h2 : T 2 = some f_is_leaf) (h3 : T 3 = some f_slot) (h4 : T 4 = some f_lay) (h5 : T 5 = some f_row_with) (h10 : T 10 = some f_split_child) (h11 : T 11 = some f_put) {tv : V} {D h cn : Nat} {G : Heap} {root : Tree} {size key : Int} {v : V} {Q : PV} (hD : 2 ≤ D) (m : IsMapT tv G cn D h root size) (hr : h = 0 ∨ 1 ≤ root.keys.length) (z : (ino root).length ≤ 50000)
    (k : ∀ root' h' size' G', IsMapT tv G' cn D h' root' size' → ino root' = putL (ino root) key v → size' + (ino root).length = size + (ino root').length → (∀ b o, G b = some o → b ≠ cn → b ∉ root.addrs → G' b = some o) → (∀ b ∈ root'.addrs, b ∈ root.addrs ∨ G b = none) → (h' = 0 ∨ 1 ≤ root'.keys.length) → Q .none G') : S.Φ 11 [.ref cn, .int key, v] G Q := by
  have hlim : lim = 1000000 := rfl
  rw [f_put_eq] at h11
  refine S.call h11 rfl ?_
  dsimp only
  walk_at "m"
  have clo : ∀ (h' : Nat) (G1 : Heap) (r1 : Tree), IsMapT tv G1 cn D h' r1 size → ino r1 = ino root → (h' = 0 ∨ 1 ≤ r1.keys.length) → (∀ b o, G b = some o → b ≠ cn → b ∉ root.addrs → G1 b = some o ∧ b ∉ r1.addrs) → (∀ b, b ∈ r1.addrs → b ∈ root.addrs ∨ G b = none) → (∀ b, G1 b = none → G b = none ∨ b ∈ root.addrs) → Clo Q tv D cn (.ref r1.addr) size key v G1 r1 h' := by
    intro h' G1 r1 m1 e1 hh f1 f2 f3 t' G' x s' hl e'
    have hh : h' = 0 ∨ 1 ≤ t'.keys.length := hh.imp id fun q => Nat.le_trans q hl
    obtain ⟨hc', cn'⟩ := frame_of x m1.obj m1.apart
    have new' : ∀ b ∈ t'.addrs, b ∈ root.addrs ∨ G b = none := fun b hb => by
      rcases x.new b hb with q | q
      · exact f2 b q
      · rcases f3 b q with q | q
        · exact .inr q
        · exact .inl q
    have st : Srt (ino t') := by rw [e']; exact putL_srt m1.srt
    refine ⟨fun q => ?_, fun q => ?_⟩
    · refine k t' h' size G' ⟨by rw [x.addr]; exact hc', x.holds, x.nodup, s', st, m1.deg⟩ (by rw [e', e1]) (by rw [q, e1]) (fun b o e nb nr => ?_) new' hh
      obtain ⟨g1, g2⟩ := f1 b o e nb nr
      exact x.frame b o g1 g2
    · refine k t' h' (size + 1) _ ⟨by rw [upd_self, x.addr], Holds.upd hc' x.holds cn', x.nodup, s', st, m1.deg⟩ (by rw [e', e1]) (by rw [q, e1]; (first | lia | omega)) (fun b o e nb nr => ?_) new' hh
      rw [upd_ne nb]
      obtain ⟨g1, g2⟩ := f1 b o e nb nr
      exact x.frame b o g1 g2
  have hr0 := m.holds.at
  have sl := m.sh.len
  refine absG fun Cg hCg => ?_
  obtain ⟨pk, pv, pc, ha, hpk, hpv, hpc⟩ := hr0
  have zk : root.keys.length ≤ 50000 := Nat.le_trans (keys_le sl.1) z
  refine hCg ?_; clear hCg
  rcases m.deg with rfl | ⟨rfl, ⟨full, of, oe⟩, d5⟩
  rotate_left
  · walk_at "n"
    refine v_attr m.obj rfl (of _ _ ?_)
    walk_at "n"
    refine v_attr m.obj rfl (v_attr ha rfl (v_len hpk rfl ?_))
    rw [List.length_map]
    refine oe _ zk _ _ (v_ifF rfl (n_nil (n_then ?_)))
    exact put_go S h0 h2 h3 h4 h5 h10 hD m (.inr rfl) (by (first | lia | omega)) z (clo 0 G root m rfl hr (fun b o e nb nb' => ⟨e, nb'⟩) (fun b hb => .inl hb) (fun b hb => .inl hb))
  walk_at "n"
  refine v_attr m.obj rfl ?_
  refine v_mulI (.inl (mid_of (by (first | lia | omega)) (by (first | lia | omega)))) ?_
  walk_at "m"
  have e2 : (2 : Int) * D - 1 = ((2 * D - 1 : Nat) : Int) := by (first | lia | omega)
  walk_at "n"
  refine v_attr m.obj rfl ?_
  refine v_attr ha rfl ?_
  refine v_len hpk rfl ?_
  walk_at "m"
  rw [List.length_map]
  by_cases hfull : root.keys.length = 2 * D - 1
  · refine v_ifT (by simp; (first | lia | omega)) ?_
    walk_at "n"
    refine v_attr m.obj rfl ?_
    walk_at "m"
    walk_at "n"
    refine v_allocL fun y1 Y1 m1 n1 e1 => ?_
    refine v_allocL fun y2 Y2 m2 n2 e2' => ?_
    refine v_allocL fun y3 Y3 m3 n3 e3 => ?_
    walk_at "m"
    refine new_node S h0 fun nr nnr => ?_
    walk_at "m"
    have M3 : G.le Y3 := Heap.le_trans m1 (Heap.le_trans m2 m3)
    have Gnr : G nr = none := fresh_le M3 nnr
    have ncn : nr ≠ cn := fun q => by rw [q, m.obj] at Gnr; cases Gnr
    have ocn : (Y3.upd nr (.inst 0 [(0, .ref y1), (1, .ref y2), (2, .ref y3)])) cn = some (.inst 1 [(3, .int D), (4, .ref root.addr), (5, .int size)]) := upd_fresh nnr (M3 _ _ m.obj)
    refine v_setAttr (fs' := [(3, .int D), (4, .ref nr), (5, .int size)]) ocn (by simp) rfl ?_
    have L4 : G.le (Y3.upd nr (.inst 0 [(0, .ref y1), (1, .ref y2), (2, .ref y3)])) := Heap.le_trans M3 (Heap.le_upd nnr)
    have nd0 : NodeAt (Y3.upd nr (.inst 0 [(0, .ref y1), (1, .ref y2), (2, .ref y3)])) nr [] [] (refsOf [root]) := ⟨y1, y2, y3, upd_self, upd_fresh nnr (m3 _ _ (m2 _ _ e1)), upd_fresh nnr (m3 _ _ e2'), upd_fresh nnr e3⟩
    have hroot : Holds (Y3.upd nr (.inst 0 [(0, .ref y1), (1, .ref y2), (2, .ref y3)])) root := m.holds.le L4
    generalize Y3.upd nr (.inst 0 [(0, .ref y1), (1, .ref y2), (2, .ref y3)]) = Y4 at ocn L4 nd0 hroot ⊢
    have hcn : (Y4.upd cn (.inst 1 [(3, .int D), (4, .ref nr), (5, .int size)])) cn = some (.inst 1 [(3, .int D), (4, .ref nr), (5, .int size)]) := upd_self
    have hr1 : Holds (Y4.upd cn (.inst 1 [(3, .int D), (4, .ref nr), (5, .int size)])) (.node nr [] [] [root]) := ⟨nd0.upd ocn ncn.symm, Holds.upd ocn hroot m.apart, trivial⟩
    have fr5 : ∀ b o, G b = some o → b ≠ cn → (Y4.upd cn (.inst 1 [(3, .int D), (4, .ref nr), (5, .int size)])) b = some o := fun b o e nb => by rw [upd_ne nb]; exact L4 _ _ e
    generalize Y4.upd cn (.inst 1 [(3, .int D), (4, .ref nr), (5, .int size)]) = Y5 at hcn hr1 fr5 ⊢
    have nrr : nr ∉ root.addrs := fun q => by
      obtain ⟨fs, e⟩ := addrs_inst m.holds _ q
      rw [Gnr] at e; cases e
    have hn1 : (Tree.node nr [] [] [root]).addrs.Nodup := by
      rw [addrs_node]
      have : addrsL [root] = root.addrs := by simp [addrsL]
      rw [this]
      exact List.nodup_cons.mpr ⟨nrr, m.nodup⟩
    have hs1 : Sh D (h + 1) (.node nr [] [] [root]) := ⟨rfl, rfl, Nat.zero_le _, fun c hc => by rw [List.mem_singleton.mp hc]; exact ⟨m.sh, by (first | lia | omega)⟩⟩
    have hi1 : ino (.node nr [] [] [root]) = ino root := by simp [ino, inoL, weave]
    have ed : ∃ b kb vb cb, root = .node b kb vb cb := by cases root with | node b kb vb cb => exact ⟨b, kb, vb, cb, rfl⟩
    refine absG fun Cg hCg => ?_
    obtain ⟨b, kb, vb, cb, hroot'⟩ := ed
    have svb : vb.length = kb.length := by have := sl.1; rw [hroot'] at this; exact this
    have skb : kb.length = 2 * D - 1 := by have := hfull; rw [hroot'] at this; exact this
    refine hCg ?_; clear hCg
    have zcb : cb = [] ∨ cb.length = kb.length + 1 := by
      have := m.sh
      rw [hroot'] at this
      cases h with
      | zero => exact .inl this.1
      | succ h => exact .inr this.1
    have zcb' : cb.length ≤ 100001 := by rcases zcb with rfl | q; exact Nat.zero_le _; (first | lia | omega)
    walk_at "m"
    walk_at "n"
    refine v_isInst hcn ?_
    refine v_attr hcn rfl ?_
    walk_at "m"
    refine spec_split S h0 h4 h10 (i := 0) (a := nr) (ks := []) (vs := []) (cs := [root]) (b := b) (kb := kb) (vb := vb) (cb := cb) hcn hr1 hn1 (by rw [hroot']; rfl) (by (first | lia | omega)) (Nat.le_refl _) rfl svb (by (first | lia | omega)) (by simp) (by simp) (by (first | lia | omega)) zcb' fun r G1 mk mv hmk hmv x => ?_
    walk_at "m"
    refine n_nil (n_then ?_)
    refine absG fun Cg hCg => ?_
    obtain ⟨sh1, _, _⟩ := split_sh (a := nr) (i := 0) (ks := []) (vs := []) (cs := [root]) (r := r) (mk := mk) (mv := mv) hD hs1 (by simp; (first | lia | omega)) (by rw [hroot']; rfl) skb
    have ei := split_ino (a := nr) (i := 0) (r := r) (ks := []) (vs := []) (cs := [root]) (by (first | lia | omega)) rfl (Nat.le_refl _) (by rw [hroot']; rfl) svb zcb hmk hmv
    refine hCg ?_; clear hCg
    rw [hi1] at ei
    have nrcn : cn ∉ (Tree.node nr [] [] [root]).addrs := fun q => by
      rcases List.mem_cons.mp q with q | q
      · exact ncn q.symm
      · have : addrsL [root] = root.addrs := by simp [addrsL]
        rw [this] at q
        exact m.apart q
    obtain ⟨hc1, _⟩ := frame_of x hcn nrcn
    rw [e2]
    have adr : ∀ b, b ∈ (Tree.node nr [] [] [root]).addrs → b = nr ∨ b ∈ root.addrs := fun b hb => by
      rcases List.mem_cons.mp hb with q | q
      · exact .inl q
      · have : addrsL [root] = root.addrs := by simp [addrsL]
        rw [this] at q
        exact .inr q
    have im : IsMap G1 cn D (h + 1) (splitT D nr 0 r [] [] [root] b kb vb cb mk mv) size := ⟨by rw [hc1]; rfl, x.holds, x.nodup, sh1, by rw [ei]; exact m.srt, .inl rfl⟩
    have := put_go S h0 h2 h3 h4 h5 h10 (v := v) (key := key) (x4 := some (.ref root.addr)) (Q := Q) hD im (.inl ⟨rfl, rfl⟩) (by show (ins ([] : List Int) 0 mk).length < _; rw [ins_len]; simp; (first | lia | omega)) (by rw [ei]; exact z) (clo (h + 1) G1 _ im ei (.inr (by show 1 ≤ (ins ([] : List Int) 0 mk).length; rw [ins_len]; exact Nat.le_add_left _ _)) (fun b o e nb nb' => ?_) (fun b hb => ?_) (fun b hb => ?_))
    · have e2' : (2 : Int) * D - 1 = ((2 * D - 1 : Nat) : Int) := by (first | lia | omega)
      rw [← e2]; exact this
    · have nb1 : b ∉ (Tree.node nr [] [] [root]).addrs := fun q => by
        rcases adr b q with q | q
        · rw [q, Gnr] at e; cases e
        · exact nb' q
      refine ⟨x.frame b o (fr5 b o e nb) nb1, fun q => ?_⟩
      rcases x.new b q with q | q
      · exact nb1 q
      · rw [fr5 b o e nb] at q; cases q
    · rcases x.new b hb with q | q
      · rcases adr b q with q | q
        · exact .inr (q ▸ Gnr)
        · exact .inl q
      · right
        cases e : G b with
        | none => rfl
        | some o =>
          by_cases nb : b = cn
          · rw [nb, hcn] at q; cases q
          · rw [fr5 b o e nb] at q; cases q
    · by_cases q : b ∈ root.addrs
      · exact .inr q
      · left
        cases e : G b with
        | none => rfl
        | some o =>
          exfalso
          by_cases nb : b = cn
          · rw [nb, hc1] at hb; cases hb
          · have nb1 : b ∉ (Tree.node nr [] [] [root]).addrs := fun q' => by
              rcases adr b q' with q' | q'
              · rw [q', Gnr] at e; cases e
              · exact q q'
            rw [x.frame b o (fr5 b o e nb) nb1] at hb; cases hb
  · refine v_ifF (by simp; (first | lia | omega)) ?_
    refine n_nil (n_then ?_)
    exact put_go S h0 h2 h3 h4 h5 h10 hD m (.inl ⟨rfl, rfl⟩) (by (first | lia | omega)) z (clo h G root m rfl hr (fun b o e nb nb' => ⟨e, nb'⟩) (fun b hb => .inl hb) (fun b hb => .inl hb))
end
end ML
namespace ML
mutual
noncomputable def Wf : Tree → Prop
  | .node _ ks vs cs => vs.length = ks.length ∧ (cs = [] ∨ cs.length = ks.length + 1) ∧ WfL cs
noncomputable def WfL : List Tree → Prop
  | [] => True
  | t :: r => Wf t ∧ WfL r
end
theorem WfL.iff : ∀ {ts : List Tree}, WfL ts ↔ ∀ t ∈ ts, Wf t
  | [] => ⟨fun _ _ h => (nomatch h), fun _ => trivial⟩
  | t :: r => by
    constructor
    · intro h y hy
      cases hy with
      | head => exact h.1
      | tail _ m => exact WfL.iff.mp h.2 y m
    · intro h
      exact ⟨h t (.head _), WfL.iff.mpr fun y hy => h y (.tail _ hy)⟩
theorem Sh.wf {D : Nat} : ∀ {h : Nat} {t : Tree}, Sh D h t → Wf t
  | 0, .node _ _ _ _, ⟨s1, s2, _⟩ => ⟨s2, .inl s1, by rw [s1]; trivial⟩
  | h + 1, .node _ _ _ _, ⟨s1, s2, _, s4⟩ => ⟨s2, .inr s1, WfL.iff.mpr fun t ht => Sh.wf (s4 t ht).1⟩
mutual
noncomputable def wt : Tree → Nat
  | .node _ ks _ cs => 2 + ks.length + wtL cs
noncomputable def wtL : List Tree → Nat
  | [] => 0
  | t :: r => wt t + wtL r
end
noncomputable def PairV (H : Heap) (x : V) (kv : KV) : Prop := ∃ r, x = .ref r ∧ H r = some (.tup [.int kv.1, kv.2])
theorem PairV.le {H H' : Heap} {x : V} {kv : KV} (l : H.le H') (h : PairV H x kv) : PairV H' x kv := let ⟨r, e, h⟩ := h; ⟨r, e, l _ _ h⟩
theorem PairV.lst {H : Heap} {x : V} {kv : KV} {p : Nat} {xs : List V} {o : O} (hp : H p = some (.list xs)) (h : PairV H x kv) : PairV (H.upd p o) x kv := by
  obtain ⟨r, e, h⟩ := h
  refine ⟨r, e, ?_⟩
  rw [upd_ne (fun q => by rw [q, hp] at h; cases h)]; exact h
noncomputable abbrev Item := Tree × Int
noncomputable def IsItem (G : Heap) (x : V) (it : Item) : Prop := ∃ p, x = .ref p ∧ G p = some (.tup [.ref it.1.addr, .int it.2])
theorem IsItem.le {H H' : Heap} {x : V} {it : Item} (l : H.le H') (h : IsItem H x it) : IsItem H' x it := let ⟨r, e, h⟩ := h; ⟨r, e, l _ _ h⟩
theorem IsItem.lst {H : Heap} {x : V} {it : Item} {p : Nat} {xs : List V} {o : O} (hp : H p = some (.list xs)) (h : IsItem H x it) : IsItem (H.upd p o) x it := by
  obtain ⟨r, e, h⟩ := h
  refine ⟨r, e, ?_⟩
  rw [upd_ne (fun q => by rw [q, hp] at h; cases h)]; exact h
noncomputable def OkI (H : Heap) (it : Item) : Prop := Holds H it.1 ∧ Wf it.1 ∧ (it.2 = -1 ∨ ∃ j : Nat, it.2 = j ∧ j < it.1.keys.length ∧ j ≤ 200000)
noncomputable def valI (it : Item) : List KV := if it.2 < 0 then ino it.1 else ((it.1.keys.zip it.1.vals)[it.2.toNat]?).toList
noncomputable def wtI (it : Item) : Nat := if it.2 < 0 then wt it.1 else 1
noncomputable def valL (its : List Item) : List KV := (its.map valI).flatten
noncomputable def wtIL (its : List Item) : Nat := (its.map wtI).sum
noncomputable def laid (t : Tree) (n : Nat) : Nat → List Item
  | 0 => []
  | k + 1 => (if 0 < n - k then [(t, ((n - k - 1 : Nat) : Int))] else []) ++ ((t.kids[n - k]?).map fun c => (c, (-1 : Int))).toList ++ laid t n k
theorem laid_val {a : Nat} {ks : List Int} {vs : List V} {cs : List Tree} (hv : vs.length = ks.length) (hc : cs.length = ks.length + 1) : ∀ k, k ≤ ks.length → valL (laid (.node a ks vs cs) ks.length (k + 1)) =
    (if 0 < ks.length - k then ((ks.zip vs)[ks.length - k - 1]?).toList else []) ++ weave (inoL (cs.drop (ks.length - k))) ((ks.zip vs).drop (ks.length - k)) := by
  intro k
  have hzl : (ks.zip vs).length = ks.length := zip_len hv
  have pre : ∀ j : Nat, valL (if 0 < j then [((Tree.node a ks vs cs, ((j - 1 : Nat) : Int)) : Item)] else []) = if 0 < j then ((ks.zip vs)[j - 1]?).toList else [] := fun j => by
    by_cases q : 0 < j
    · rw [if_pos q, if_pos q]
      simp only [valL, List.map_cons, List.map_nil, List.flatten_cons, List.flatten_nil, List.append_nil, valI]
      rw [if_neg (by simp)]
      simp [Tree.keys, Tree.vals]
    · rw [if_neg q, if_neg q]; rfl
  have app : ∀ x y : List Item, valL (x ++ y) = valL x ++ valL y := fun x y => by simp [valL]
  induction k with
  | zero =>
    intro _
    have e : cs[ks.length - 0]? = some (cs[ks.length - 0]'(by (first | lia | omega))) := List.getElem?_eq_getElem _
    have e2 : (Tree.node a ks vs cs).kids[ks.length - 0]? = some (cs[ks.length - 0]'(by (first | lia | omega))) := e
    unfold laid
    rw [app, app, pre, e2]
    have d1 : cs.drop (ks.length - 0) = [cs[ks.length - 0]'(by (first | lia | omega))] := by rw [drop_cons e, List.drop_of_length_le (by (first | lia | omega))]
    have d2 : (ks.zip vs).drop (ks.length - 0) = [] := List.drop_of_length_le (by (first | lia | omega))
    rw [d1, d2]
    simp [valL, laid, valI, inoL, weave]
  | succ k ih =>
    intro hk
    have ih := ih (by (first | lia | omega))
    have hlt : ks.length - (k + 1) < cs.length := by (first | lia | omega)
    have e : cs[ks.length - (k + 1)]? = some (cs[ks.length - (k + 1)]'hlt) := List.getElem?_eq_getElem _
    have e2 : (Tree.node a ks vs cs).kids[ks.length - (k + 1)]? = some (cs[ks.length - (k + 1)]'hlt) := e
    rw [laid, app, app, pre, ih, e2]
    have j1 : ks.length - k = ks.length - (k + 1) + 1 := by (first | lia | omega)
    rw [if_pos (show 0 < ks.length - k by (first | lia | omega))]
    have j2 : ks.length - k - 1 = ks.length - (k + 1) := by (first | lia | omega)
    rw [j2, drop_cons e, j1]
    have hz : (ks.zip vs)[ks.length - (k + 1)]? = some ((ks.zip vs)[ks.length - (k + 1)]'(by (first | lia | omega))) := List.getElem?_eq_getElem _
    rw [drop_cons hz, hz]
    simp [valL, valI, inoL, weave]
theorem laid_all {a : Nat} {ks : List Int} {vs : List V} {cs : List Tree} (hv : vs.length = ks.length) (hc : cs.length = ks.length + 1) : valL (laid (.node a ks vs cs) ks.length (ks.length + 1)) = ino (.node a ks vs cs) := by
  rw [laid_val hv hc _ (Nat.le_refl _)]
  simp [ino]
theorem wtL_drop {cs : List Tree} {j : Nat} {c : Tree} (h : cs[j]? = some c) : wtL (cs.drop j) = wt c + wtL (cs.drop (j + 1)) := by rw [drop_cons h]; rfl
theorem laid_wt {a : Nat} {ks : List Int} {vs : List V} {cs : List Tree} (hc : cs.length = ks.length + 1) : ∀ k, k ≤ ks.length → wtIL (laid (.node a ks vs cs) ks.length (k + 1)) ≤ k + 1 + wtL (cs.drop (ks.length - k)) := by
  intro k
  have app : ∀ x y : List Item, wtIL (x ++ y) = wtIL x + wtIL y := fun x y => by simp [wtIL]
  have pre : ∀ j : Nat, wtIL (if 0 < j then [((Tree.node a ks vs cs, ((j - 1 : Nat) : Int)) : Item)] else []) ≤ 1 := fun j => by
    by_cases q : 0 < j
    · rw [if_pos q]
      simp only [wtIL, List.map_cons, List.map_nil, List.sum_cons, List.sum_nil, wtI]
      rw [if_neg (by simp)]
      simp
    · rw [if_neg q]; simp [wtIL]
  have one : ∀ c : Tree, wtIL [((c, -1) : Item)] = wt c := fun c => by simp [wtIL, wtI]
  induction k with
  | zero =>
    intro _
    have e : cs[ks.length - 0]? = some (cs[ks.length - 0]'(by (first | lia | omega))) := List.getElem?_eq_getElem _
    have e2 : (Tree.node a ks vs cs).kids[ks.length - 0]? = some (cs[ks.length - 0]'(by (first | lia | omega))) := e
    unfold laid
    rw [app, app, e2, wtL_drop e]
    have := pre (ks.length - 0)
    simp only [Option.map_some, Option.toList_some, one]
    simp only [laid, wtIL, List.map_nil, List.sum_nil] at this ⊢
    (first | lia | omega)
  | succ k ih =>
    intro hk
    have ih := ih (by (first | lia | omega))
    have hlt : ks.length - (k + 1) < cs.length := by (first | lia | omega)
    have e : cs[ks.length - (k + 1)]? = some (cs[ks.length - (k + 1)]'hlt) := List.getElem?_eq_getElem _
    have e2 : (Tree.node a ks vs cs).kids[ks.length - (k + 1)]? = some (cs[ks.length - (k + 1)]'hlt) := e
    rw [laid, app, app, e2, wtL_drop e]
    have := pre (ks.length - (k + 1))
    have j1 : ks.length - k = ks.length - (k + 1) + 1 := by (first | lia | omega)
    rw [j1] at ih
    simp only [Option.map_some, Option.toList_some, one]
    (first | lia | omega)
theorem laid_lt {a : Nat} {ks : List Int} {vs : List V} {cs : List Tree} (hc : cs.length = ks.length + 1) : wtIL (laid (.node a ks vs cs) ks.length (ks.length + 1)) < wt (.node a ks vs cs) := by
  have := laid_wt (a := a) (vs := vs) hc _ (Nat.le_refl _)
  simp only [Nat.sub_self, List.drop_zero] at this
  show _ < 2 + ks.length + wtL cs
  (first | lia | omega)
theorem laid_len {t : Tree} {n : Nat} : ∀ k, (laid t n k).length ≤ 2 * k
  | 0 => Nat.le_refl _
  | k + 1 => by
    have := laid_len (t := t) (n := n) k
    unfold laid
    rw [List.length_append, List.length_append]
    have h1 : (if 0 < n - k then [(t, ((n - k - 1 : Nat) : Int))] else []).length ≤ 1 := by split <;> simp
    have h2 : (((t.kids[n - k]?).map fun c => (c, (-1 : Int))).toList).length ≤ 1 := by cases t.kids[n - k]? <;> simp
    (first | lia | omega)
end ML
namespace ML
noncomputable def pbLeafB : List S := [
          .append (.var 2) (.tup [(.idx (.attr (.var 5) 0) (.var 6)), (.idx (.attr (.var 5) 1) (.var 6))])]
noncomputable def pbLeaf : List S := [.for1 [6] (.rng1 (.prim .len [(.attr (.var 5) 0)])) pbLeafB]
noncomputable def pbInC : List S := [
          .ite (.cmp .gt (.var 7) (.lit (.int 0))) [
            .append (.var 3) (.tup [(.var 5), (.bop .sub (.var 7) (.lit (.int 1)))])] []]
noncomputable def pbInB : List S :=
          .ite (.cmp .lt (.var 7) (.prim .len [(.attr (.var 5) 2)])) [
            .append (.var 3) (.tup [(.idx (.attr (.var 5) 2) (.var 7)), (.neg (.lit (.int 1)))])] [] :: pbInC
noncomputable def pbIn : List S := [
        .for1 [7] (.rng3 (.bop .sub (.prim .max [(.prim .len [(.attr (.var 5) 2)]), (.bop .add (.prim .len [(.attr (.var 5) 0)]) (.lit (.int 1)))]) (.lit (.int 1))) (.neg (.lit (.int 1))) true) pbInB]
noncomputable def pbOne : List S := [
      .append (.var 2) (.tup [(.idx (.attr (.var 5) 0) (.idx (.var 4) (.lit (.int 1)))), (.idx (.attr (.var 5) 1) (.idx (.var 4) (.lit (.int 1))))])]
noncomputable def pbTail : List S := [
    .ite (.cmp .ge (.idx (.var 4) (.lit (.int 1))) (.lit (.int 0))) pbOne [
      .ite (.meth 2 (.var 5) []) pbLeaf pbIn]]
noncomputable def pbBody : List S :=
    .assign 4 (.idx (.var 3) (.bop .sub (.prim .len [(.var 3)]) (.lit (.int 1)))) ::
    .delIdx (.var 3) (.bop .sub (.prim .len [(.var 3)]) (.lit (.int 1))) ::
    .assign 5 (.idx (.var 4) (.lit (.int 0))) :: pbTail
theorem f_pairs_below_eq : f_pairs_below = ⟨2, 8, [
  .assign 2 (.list []),
  .assign 3 (.list [(.tup [(.var 1), (.neg (.lit (.int 1)))])]),
  .whl (.cmp .gt (.prim .len [(.var 3)]) (.lit (.int 0))) pbBody,
  .ret (some (.var 2))]⟩ := rfl
theorem wtI_pos {it : Item} : 1 ≤ wtI it := by
  unfold wtI
  split
  · cases it.1 with | node a ks vs cs => simp [wt]; (first | lia | omega)
  · exact Nat.le_refl _
theorem wtIL_len : ∀ {its : List Item}, its.length ≤ wtIL its
  | [] => Nat.le_refl _
  | it :: r => by
    have := wtIL_len (its := r)
    have := wtI_pos (it := it)
    show r.length + 1 ≤ wtI it + wtIL r
    (first | lia | omega)
section
variable {T : Nat → Option Fn} (S : Sys T)
structure PbSt (H G : Heap) (o s : Nat) (its : List Item) (done : List KV) (xs os : List V) : Prop where
  le : H.le G
  out : G o = some (.list os)
  outs : All2 (PairV G) os done
  stk : G s = some (.list xs.reverse)
  stks : All2 (IsItem G) xs its
  ok : ∀ it ∈ its, OkI H it
theorem PbSt.push {H G : Heap} {o s p : Nat} {its : List Item} {done : List KV} {xs os : List V} {it : Item} (b : PbSt H G o s its done xs os) (np : G p = none) (hos : o ≠ s) (ns : H s = none) (hi : OkI H it) :
    PbSt H ((G.upd p (.tup [.ref it.1.addr, .int it.2])).upd s (.list (xs.reverse ++ [.ref p]))) o s (it :: its) done (.ref p :: xs) os := by
  have l1 : G.le (G.upd p (.tup [.ref it.1.addr, .int it.2])) := Heap.le_upd np
  have hs := upd_fresh (o := .tup [.ref it.1.addr, .int it.2]) np b.stk
  refine ⟨le_updF (Heap.le_trans b.le l1) ns, (upd_ne hos).trans (l1 _ _ b.out), All2.mono (fun _ _ h => (h.le l1).lst hs) b.outs, by rw [upd_self, List.reverse_cons], .cons ⟨p, rfl, ?_⟩ (All2.mono (fun _ _ h => (h.le l1).lst hs) b.stks), fun x hx => ?_⟩
  · rw [upd_ne (fun q => by rw [q, b.stk] at np; cases np)]; exact upd_self
  · rcases List.mem_cons.mp hx with rfl | hx
    · exact hi
    · exact b.ok x hx
theorem PbSt.emit {H G : Heap} {o s p : Nat} {its : List Item} {done : List KV} {xs os : List V} {kv : KV} (b : PbSt H G o s its done xs os) (np : G p = none) (hos : o ≠ s) (no : H o = none) :
    PbSt H ((G.upd p (.tup [.int kv.1, kv.2])).upd o (.list (os ++ [.ref p]))) o s its (done ++ [kv]) xs (os ++ [.ref p]) := by
  have l1 : G.le (G.upd p (.tup [.int kv.1, kv.2])) := Heap.le_upd np
  have ho := upd_fresh (o := .tup [.int kv.1, kv.2]) np b.out
  refine ⟨le_updF (Heap.le_trans b.le l1) no, upd_self, All2.app (All2.mono (fun _ _ h => (h.le l1).lst ho) b.outs) (.cons ⟨p, rfl, ?_⟩ .nil), (upd_ne hos.symm).trans (l1 _ _ b.stk), All2.mono (fun _ _ h => (h.le l1).lst ho) b.stks, b.ok⟩
  rw [upd_ne (fun q => by rw [q, b.out] at np; cases np)]; exact upd_self
theorem at_k' {H : Heap} {a : Nat} {ks : List Int} {vs cs : List V} {Q : V → Prop} (n : NodeAt H a ks vs cs) (k : ∀ p, H p = some (.list (ks.map V.int)) → Q (.ref p)) : attrW (.ref a) 0 H Q := by
  refine absG fun Cg hCg => ?_
  obtain ⟨p, _, _, h1, h2, _, _⟩ := n
  refine hCg ?_; clear hCg
  exact v_attr h1 rfl (k p h2)
theorem at_v' {H : Heap} {a : Nat} {ks : List Int} {vs cs : List V} {Q : V → Prop} (n : NodeAt H a ks vs cs) (k : ∀ p, H p = some (.list vs) → Q (.ref p)) : attrW (.ref a) 1 H Q := by
  refine absG fun Cg hCg => ?_
  obtain ⟨_, p, _, h1, _, h2, _⟩ := n
  refine hCg ?_; clear hCg
  exact v_attr h1 rfl (k p h2)
theorem at_c' {H : Heap} {a : Nat} {ks : List Int} {vs cs : List V} {Q : V → Prop} (n : NodeAt H a ks vs cs) (k : ∀ p, H p = some (.list cs) → Q (.ref p)) : attrW (.ref a) 2 H Q := by
  refine absG fun Cg hCg => ?_
  obtain ⟨_, _, p, h1, _, _, h2⟩ := n
  refine hCg ?_; clear hCg
  exact v_attr h1 rfl (k p h2)
theorem zip_at {ks : List Int} {vs : List V} {k : Nat} (sv : vs.length = ks.length) (h : k < ks.length) : ∃ kk vv, ks[k]? = some kk ∧ vs[k]? = some vv ∧ (ks.zip vs)[k]? = some (kk, vv) :=
  ⟨ks[k]'h, vs[k]'(sv ▸ h), List.getElem?_eq_getElem _, List.getElem?_eq_getElem _, by rw [List.getElem?_zip_eq_some]; exact ⟨List.getElem?_eq_getElem _, List.getElem?_eq_getElem _⟩⟩
section
variable {H G : Heap} {o s a q : Nat} {x0 x1 x4 x6 x7 : Option V} {ks : List Int} {vs : List V} {cs : List Tree} {rest : List Item} {done : List KV} {xs os : List V} {R : PS}
theorem PbSt.out1 (b : PbSt H G o s rest done xs os) (hos : o ≠ s) (no : H o = none) {kk : Int} {vv : V} {K : Heap → Prop} (hz : done.length ≤ 400000) (k : ∀ G2 os2, PbSt H G2 o s rest (done ++ [(kk, vv)]) xs os2 → K G2) : allocW (.tup [.int kk, vv]) G fun v H => appendW (.ref o) v H K := by
  refine v_alloc fun p np => ?_
  have hl := b.outs.len
  exact v_append (upd_fresh np b.out) (by rw [hl]; exact Nat.le_trans hz (by decide)) (k _ _ (b.emit (kv := (kk, vv)) np hos no))
theorem PbSt.stk1 (b : PbSt H G o s rest done xs os) (hos : o ≠ s) (ns : H s = none) {it : Item} {K : Heap → Prop} (hi : OkI H it) (hz : rest.length ≤ 800000) (k : ∀ G2 xs2, PbSt H G2 o s (it :: rest) done xs2 os → K G2) : allocW (.tup [.ref it.1.addr, .int it.2]) G fun v H => appendW (.ref s) v H K := by
  refine v_alloc fun p np => ?_
  have hl := b.stks.len
  exact v_append (upd_fresh np b.stk) (by rw [List.length_reverse, hl]; exact Nat.le_trans hz (by decide)) (k _ _ (b.push np hos ns hi))
theorem pbOne_ok {j : Nat} (b : PbSt H G o s rest done xs os) (hos : o ≠ s) (no : H o = none) (hh : NodeAt H a ks vs (refsOf cs)) (sv : vs.length = ks.length) (hq : G q = some (.tup [.ref a, .int j])) (hj : j < ks.length) (hjz : j ≤ 200000) (hd : done.length ≤ 200000)
    (k : ∀ G2 os2, PbSt H G2 o s rest (done ++ ((ks.zip vs)[j]?).toList) xs os2 → R .next [x0, x1, some (.ref o), some (.ref s), some (.ref q), some (.ref a), x6, x7] G2) :
    wpSs S.Φ pbOne [x0, x1, some (.ref o), some (.ref s), some (.ref q), some (.ref a), x6, x7] G R := by
  refine absG fun Cg hCg => ?_
  obtain ⟨kk, vv, e1, e2, e3⟩ := zip_at sv hj
  refine hCg ?_; clear hCg
  rw [e3] at k
  have na := hh.le b.le
  unfold pbOne
  walk_at "n"
  refine v_isLst b.out (at_k' na fun p1 g1 => ?_)
  refine v_idx hq rfl (by decide) (by decide) rfl (v_idxN g1 rfl (Nat.le_trans hjz (by decide)) (by rw [List.getElem?_map, e1]; rfl) (at_v' na fun p2 g2 => ?_))
  refine v_idx hq rfl (by decide) (by decide) rfl (v_idxN g2 rfl (Nat.le_trans hjz (by decide)) e2 ?_)
  exact b.out1 hos no (Nat.le_trans hd (by decide)) fun G2 os2 b2 => n_nil (k G2 os2 b2)
theorem pbLeaf_ok (b : PbSt H G o s rest done xs os) (hos : o ≠ s) (no : H o = none) (hh : NodeAt H a ks vs (refsOf cs)) (sv : vs.length = ks.length) (hd : done.length + ks.length ≤ 400000)
    (k : ∀ G2 os2 y6, PbSt H G2 o s rest (done ++ ks.zip vs) xs os2 → R .next [x0, x1, some (.ref o), some (.ref s), some (.ref q), some (.ref a), y6, x7] G2) :
    wpSs S.Φ pbLeaf [x0, x1, some (.ref o), some (.ref s), some (.ref q), some (.ref a), x6, x7] G R := by
  unfold pbLeaf
  have na := hh.le b.le
  have hkl : ks.length ≤ 400000 := Nat.le_trans (Nat.le_add_left _ _) hd
  walk_at "n"
  refine at_k' na fun p1 g1 => v_len g1 rfl ?_
  rw [List.length_map]
  refine v_rng1 (mid_nat (Nat.le_trans hkl (by decide))) ?_
  refine for_inv (fun k m G2 => ∃ x6 os2, m = [x0, x1, some (.ref o), some (.ref s), some (.ref q), some (.ref a), x6, x7] ∧ PbSt H G2 o s rest (done ++ (ks.zip vs).take k) xs os2) ⟨x6, os, rfl, by simpa using b⟩ (fun k x m G2 K hx hI hK => ⟨trivial, ?_⟩) fun m G2 hI => ⟨trivial, ?_⟩
  · refine absG fun Cg hCg => ?_
    obtain ⟨x6, os2, rfl, b2⟩ := hI
    have hkk : k < ks.length := by have := lt_of_get hx; rwa [rngList_len, Int.sub_zero, Int.toNat_natCast] at this
    obtain ⟨rfl, _⟩ := rngList_get hx
    have hkz : k ≤ 900000 := Nat.le_trans (Nat.le_of_lt hkk) (Nat.le_trans hkl (by decide))
    obtain ⟨kk, vv, e1, e2, e3⟩ := zip_at sv hkk
    have na := hh.le b2.le
    refine hCg ?_; clear hCg
    rw [Int.zero_add]
    unfold pbLeafB
    walk_at "m"
    walk_at "n"
    refine v_isLst b2.out (at_k' na fun p1 g1 => v_idxN g1 rfl hkz (by rw [List.getElem?_map, e1]; rfl) (at_v' na fun p2 g2 => v_idxN g2 rfl hkz e2 ?_))
    refine b2.out1 hos no ?_ fun G3 os3 b3 => n_nil (turn_next (hK _ _ ⟨_, os3, rfl, ?_⟩))
    · rw [List.length_append]
      refine Nat.le_trans (Nat.add_le_add_left (Nat.le_trans (List.length_take_le' _ _) ?_) _) hd
      rw [zip_len sv]; exact Nat.le_refl _
    · rw [List.append_assoc] at b3
      rw [List.take_add_one, e3]
      exact b3
  · refine absG fun Cg hCg => ?_
    obtain ⟨x6, os2, rfl, b2⟩ := hI
    refine hCg ?_; clear hCg
    rw [rngList_len, Int.sub_zero, Int.toNat_natCast, List.take_of_length_le (by rw [zip_len sv]; exact Nat.le_refl _)] at b2
    exact n_then (n_nil (k G2 os2 x6 b2))
theorem pbInC_ok {j : Nat} (b : PbSt H G o s rest done xs os) (hos : o ≠ s) (ns : H s = none) (hh : Holds H (.node a ks vs cs)) (wf : Wf (.node a ks vs cs)) (hj : j ≤ ks.length) (hkl : ks.length ≤ 200000) (hz : rest.length ≤ 800000)
    (k : ∀ G2 xs2, PbSt H G2 o s (if 0 < j then ((Tree.node a ks vs cs, ((j - 1 : Nat) : Int)) : Item) :: rest else rest) done xs2 os → R .next [x0, x1, some (.ref o), some (.ref s), some (.ref q), some (.ref a), x6, some (.int j)] G2) :
    wpSs S.Φ pbInC [x0, x1, some (.ref o), some (.ref s), some (.ref q), some (.ref a), x6, some (.int j)] G R := by
  unfold pbInC
  walk_at "n"
  cases j with
  | zero =>
    refine v_ifF (decide_eq_false (Int.lt_irrefl 0)) (n_nil (n_then (n_nil (k G xs ?_))))
    rw [if_neg (Nat.lt_irrefl _)]; exact b
  | succ j =>
    refine v_ifT (decide_eq_true (Int.natCast_pos.mpr (Nat.succ_pos j))) ?_
    walk_at "n"
    have ej : ((j + 1 : Nat) : Int) - 1 = (j : Int) := by rw [Int.natCast_add]; exact Int.add_sub_cancel _ _
    rw [ej]
    refine v_isLst b.stk ?_
    refine b.stk1 (it := (.node a ks vs cs, (j : Int))) hos ns ⟨hh, wf, .inr ⟨j, rfl, hj, Nat.le_trans (Nat.le_of_succ_le hj) hkl⟩⟩ hz fun G2 xs2 b2 => n_nil (n_then (n_nil (k G2 xs2 ?_)))
    rw [if_pos (Nat.succ_pos j), Nat.succ_sub_one]; exact b2
theorem pbIn_ok (b : PbSt H G o s rest done xs os) (hos : o ≠ s) (ns : H s = none) (hh : Holds H (.node a ks vs cs)) (wf : Wf (.node a ks vs cs)) (scs : cs.length = ks.length + 1) (hkl : ks.length ≤ 200000) (hz : rest.length ≤ 200000)
    (k : ∀ G2 xs2 y7, PbSt H G2 o s (laid (.node a ks vs cs) ks.length (ks.length + 1) ++ rest) done xs2 os → R .next [x0, x1, some (.ref o), some (.ref s), some (.ref q), some (.ref a), x6, y7] G2) :
    wpSs S.Φ pbIn [x0, x1, some (.ref o), some (.ref s), some (.ref q), some (.ref a), x6, x7] G R := by
  have na := hh.1.le b.le
  have hrl : (refsOf cs).length = ks.length + 1 := by rw [refsOf, List.length_map, scs]
  unfold pbIn
  walk_at "n"
  refine at_c' na fun p1 g1 => v_len g1 rfl (at_k' na fun p2 g2 => v_len g2 rfl ?_)
  walk_at "m"
  rw [List.length_map, hrl]
  have emx : (if ((ks.length + 1 : Nat) : Int) < (ks.length : Int) + 1 then ((ks.length : Int) + 1) else ((ks.length + 1 : Nat) : Int)) - 1 = (ks.length : Int) := by
    rw [Int.natCast_add, show ((1 : Nat) : Int) = 1 from rfl, if_neg (Int.lt_irrefl _)]; exact Int.add_sub_cancel _ _
  rw [emx]
  refine v_rngD (mid_nat (Nat.le_trans hkl (by decide))) mid_m1 ?_
  refine for_inv (fun k m G2 => ∃ x7 xs2, m = [x0, x1, some (.ref o), some (.ref s), some (.ref q), some (.ref a), x6, x7] ∧ PbSt H G2 o s (laid (.node a ks vs cs) ks.length k ++ rest) done xs2 os) ⟨x7, xs, rfl, b⟩ (fun k x m G2 K hx hI hK => ⟨trivial, ?_⟩) fun m G2 hI => ⟨trivial, ?_⟩
  · refine absG fun Cg hCg => ?_
    obtain ⟨x7, xs2, rfl, b2⟩ := hI
    refine hCg ?_; clear hCg
    have hkk : k ≤ ks.length := by
      have := lt_of_get hx
      rw [rngDown_len, show (ks.length : Int) - -1 = ((ks.length + 1 : Nat) : Int) from rfl, Int.toNat_natCast] at this
      exact Nat.le_of_lt_succ this
    obtain ⟨rfl, _⟩ := rngDown_get hx
    have ej : (ks.length : Int) - k = ((ks.length - k : Nat) : Int) := (Int.ofNat_sub hkk).symm
    rw [ej]
    have hjc : ks.length - k < cs.length := Nat.lt_of_le_of_lt (Nat.sub_le _ _) (by rw [scs]; exact Nat.lt_succ_self _)
    have hcc : cs[ks.length - k]? = some (cs[ks.length - k]'hjc) := List.getElem?_eq_getElem _
    generalize cs[ks.length - k]'hjc = c at hcc
    have hll := laid_len (t := .node a ks vs cs) (n := ks.length) k
    have hrz : (laid (.node a ks vs cs) ks.length k ++ rest).length ≤ 700000 := by rw [List.length_append]; (first | lia | omega)
    have na := hh.1.le b2.le
    unfold pbInB
    walk_at "m"
    walk_at "n"
    refine at_c' na fun p1 g1 => v_len g1 rfl ?_
    walk_at "m"
    rw [hrl]
    refine v_ifT (decide_eq_true (Int.ofNat_lt.mpr (by rw [← scs]; exact hjc))) ?_
    walk_at "n"
    refine v_isLst b2.stk (at_c' na fun p2 g2 => v_idxN (v := .ref c.addr) g2 rfl (Nat.le_trans (Nat.sub_le _ _) (Nat.le_trans hkl (by decide))) (by unfold refsOf; rw [List.getElem?_map, hcc]; rfl) ?_)
    walk_at "m"
    have hm := List.mem_of_getElem? hcc
    refine b2.stk1 (it := (c, -1)) hos ns ⟨HoldsL.iff.mp hh.2 c hm, WfL.iff.mp wf.2.2 c hm, .inl rfl⟩ (Nat.le_trans hrz (by decide)) fun G3 xs3 b3 => n_nil (n_then ?_)
    refine pbInC_ok S b3 hos ns hh wf (Nat.sub_le _ _) hkl (by rw [List.length_cons]; exact Nat.le_trans (Nat.succ_le_succ hrz) (by decide)) fun G4 xs4 b4 => turn_next (hK _ _ ⟨_, xs4, rfl, ?_⟩)
    have e2 : (Tree.node a ks vs cs).kids[ks.length - k]? = some c := hcc
    rw [laid, e2]
    by_cases hp : 0 < ks.length - k
    · rw [if_pos hp] at b4 ⊢; exact b4
    · rw [if_neg hp] at b4 ⊢; exact b4
  · refine absG fun Cg hCg => ?_
    obtain ⟨x7, xs2, rfl, b2⟩ := hI
    refine hCg ?_; clear hCg
    rw [rngDown_len, show (ks.length : Int) - -1 = ((ks.length + 1 : Nat) : Int) from rfl, Int.toNat_natCast] at b2
    exact n_then (n_nil (k G2 xs2 x7 b2))
end
theorem wtIL_app (x y : List Item) : wtIL (x ++ y) = wtIL x + wtIL y := by simp [wtIL]
theorem valL_app (x y : List Item) : valL (x ++ y) = valL x ++ valL y := by simp [valL]
theorem spec_pairs_below (h2 : T 2 = some f_is_leaf) (h19 : T 19 = some f_pairs_below) {H : Heap} {self : V} {t : Tree} {Q : PV} (ht : Holds H t) (wf : Wf t) (hz : wt t ≤ 200000) (hz2 : (ino t).length ≤ 200000)
    (h : ∀ o G os, H.le G → H o = none → G o = some (.list os) → All2 (PairV G) os (ino t) → Q (.ref o) G) : S.Φ 19 [self, .ref t.addr] H Q := by
  rw [f_pairs_below_eq] at h19
  refine S.call h19 rfl ?_
  dsimp only
  walk_at "m"
  walk_at "n"
  refine v_alloc fun o no => ?_
  walk_at "n"
  refine v_alloc fun p np => ?_
  walk_at "m"
  refine v_alloc fun s ns => ?_
  obtain ⟨ns0, nsp⟩ := upd_none_of ns
  obtain ⟨ns0, nso⟩ := upd_none_of ns0
  obtain ⟨np0, npo⟩ := upd_none_of np
  walk_at "m"
  refine n_whl ?_
  refine ⟨fun n m G => ∃ its done xs os x4 x5 x6 x7, m = [some self, some (.ref t.addr), some (.ref o), some (.ref s), x4, x5, x6, x7] ∧ PbSt H G o s its done xs os ∧ done ++ valL its = ino t ∧ n = wtIL its ∧ n ≤ 200000, wt t,
    ⟨[(t, -1)], [], [.ref p], [], none, none, none, none, rfl, ⟨le_updF (le_updF (le_updF (Heap.le_refl _) no) np0) ns0, (upd_ne nso.symm).trans ((upd_ne npo.symm).trans upd_self), .nil, upd_self, .cons ⟨p, rfl, (upd_ne nsp.symm).trans upd_self⟩ .nil, fun it hit => by rw [List.mem_singleton.mp hit]; exact ⟨ht, wf, .inl rfl⟩⟩, by simp [valL, valI], by simp [wtIL, wtI], hz⟩, ?_⟩
  intro n m G hIw
  refine hideK fun Kw hKw => absG fun Cg hCg => ?_
  obtain ⟨its, done, xs, os, x4, x5, x6, x7, rfl, b, hval, rfl, hw⟩ := hIw
  have hxl := b.stks.len
  have hil := wtIL_len (its := its)
  have hdl : done.length + (valL its).length ≤ 200000 := by rw [← List.length_append, hval]; exact hz2
  refine hCg ?_; clear hCg
  rw [t_cmp]
  walk_at "m"
  refine v_len b.stk rfl ?_
  walk_at "m"
  rw [List.length_reverse, hxl]
  have nso' : o ≠ s := nso.symm
  cases its with
  | nil =>
    refine v_ifF rfl (n_then ?_)
    walk_at "n"
    have : done = ino t := by rw [← hval]; simp [valL]
    exact end_ret rfl (h o G os b.le no b.out (this ▸ b.outs))
  | cons it rest =>
    cases hxs : b.stks with
    | @cons x _ xs' _ hx hrest =>
    refine absG fun Cg hCg => ?_
    obtain ⟨q, rfl, hq⟩ := hx
    have hxl' := hrest.len
    refine hCg ?_; clear hCg
    refine v_ifT (by simp) ?_
    have hstk := b.stk
    rw [List.reverse_cons] at hstk
    have hsl : (xs'.reverse ++ [V.ref q]).length = rest.length + 1 := by simp [hxl']
    have e1 : ((rest.length + 1 : Nat) : Int) - 1 = (rest.length : Int) := by rw [Int.natCast_add]; exact Int.add_sub_cancel _ _
    have el : rest.length = xs'.reverse.length := by simp [hxl']
    have hr1 : rest.length ≤ 200000 := Nat.le_of_succ_le (Nat.le_trans hil hw)
    unfold pbBody
    walk_at "n"
    refine v_len hstk rfl ?_
    walk_at "m"
    rw [hsl, e1]
    refine v_idxN (v := .ref q) hstk rfl (Nat.le_trans hr1 (by decide)) (by rw [el, List.getElem?_append_right (Nat.le_refl _)]; simp) ?_
    walk_at "n"
    refine v_len hstk rfl ?_
    walk_at "m"
    rw [hsl, e1]
    refine v_del hstk (Int.natCast_nonneg _) (by rw [hsl]; exact Int.ofNat_lt.mpr (Nat.lt_succ_self _)) (by rw [hsl]; exact Nat.le_trans (Nat.succ_le_succ hr1) (by decide)) ?_
    have ed : (xs'.reverse ++ [V.ref q]).eraseIdx (rest.length : Int).toNat = xs'.reverse := by
      rw [Int.toNat_natCast, el, List.eraseIdx_append_of_length_le (Nat.le_refl _)]; simp
    rw [ed]
    have b1 : PbSt H (G.upd s (.list xs'.reverse)) o s rest done xs' os := ⟨le_updF b.le ns0, (upd_ne nso').trans b.out, All2.mono (fun _ _ h => h.lst b.stk) b.outs, upd_self, All2.mono (fun _ _ h => h.lst b.stk) hrest, fun x hx => b.ok x (.tail _ hx)⟩
    have hq1 : (G.upd s (.list xs'.reverse)) q = some (.tup [.ref it.1.addr, .int it.2]) := by
      rw [upd_ne (fun e => by rw [e, b.stk] at hq; cases hq)]; exact hq
    generalize G.upd s (.list xs'.reverse) = G1 at b1 hq1 ⊢
    refine absG fun Cg hCg => ?_
    obtain ⟨hh, hwf, hj⟩ := b.ok it (.head _)
    have hval' : done ++ (valI it ++ valL rest) = ino t := hval
    have hw' : wtI it + wtIL rest ≤ 200000 := hw
    have hwp := wtI_pos (it := it)
    have hrw : wtIL rest ≤ 200000 := Nat.le_trans (Nat.le_add_left _ _) hw'
    have hlt : wtIL rest < wtI it + wtIL rest := Nat.lt_add_of_pos_left hwp
    have hdl' : done.length + ((valI it).length + (valL rest).length) ≤ 200000 := by rw [← List.length_append]; exact hdl
    refine hCg ?_; clear hCg
    clear hval hw hstk hsl el ed hxl hil hxl' hxs hq b hrest e1 hdl
    obtain ⟨tt, jj⟩ := it
    refine absG fun Cg hCg => ?_
    obtain ⟨a, ks, vs, cs⟩ := tt
    obtain ⟨sv, scs, _⟩ := id hwf
    refine hCg ?_; clear hCg
    walk_at "n"
    refine v_idx (v := .ref a) hq1 rfl (by decide) (by decide) rfl ?_
    unfold pbTail
    walk_at "m"
    walk_at "n"
    refine v_idx (v := .int jj) hq1 rfl (by decide) (by decide) rfl ?_
    walk_at "m"
    rcases hj with hj | ⟨j, hj, hjl, hjz⟩
    · have hj : jj = -1 := hj
      subst hj
      refine v_ifF rfl ?_
      have hw2 : 2 + ks.length + wtL cs + wtIL rest ≤ 200000 := hw'
      have hkl : ks.length ≤ 200000 := by (first | lia | omega)
      refine absG fun Cg hCg => ?_
      obtain ⟨pk, pv, pc, ha, hpk, hpv, hpc⟩ := hh.1.le b1.le
      refine hCg ?_; clear hCg
      refine n_ite ?_
      rw [t_meth, w_meth]
      walk_at "m"
      refine v_isInst ha (spec_is_leaf S h2 ha hpc ?_)
      walk_at "m"
      rcases scs with rfl | scs
      · refine v_ifT rfl ?_
        have hz3 : done.length + ks.length ≤ 400000 := by
          have : (valI (Tree.node a ks vs [], -1)).length = (ks.zip vs).length := rfl
          rw [this, zip_len sv] at hdl'
          (first | lia | omega)
        refine pbLeaf_ok S b1 nso' no hh.1 sv hz3 fun G2 os2 y6 b2 => n_then (n_nil (n_then (n_nil (turn_next (hKw _ _ ⟨wtIL rest, hlt, rest, _, xs', os2, _, _, _, _, rfl, b2, ?_, rfl, hrw⟩)))))
        rw [← hval', List.append_assoc]; rfl
      · refine v_ifF (by simp [refsOf]; intro q; rw [q] at scs; simp at scs) ?_
        refine pbIn_ok S b1 nso' ns0 hh hwf scs hkl hr1 fun G2 xs2 y7 b2 => n_then (n_nil (n_then (n_nil (turn_next (hKw _ _ ⟨_, ?_, _, _, xs2, os, _, _, _, _, rfl, b2, ?_, rfl, ?_⟩)))))
        · rw [wtIL_app]
          exact Nat.add_lt_add_right (laid_lt (a := a) (vs := vs) scs) _
        · rw [valL_app, laid_all (a := a) sv scs]; exact hval'
        · rw [wtIL_app]
          exact Nat.le_trans (Nat.add_le_add_right (Nat.le_of_lt (laid_lt (a := a) (vs := vs) scs)) _) hw'
    · have hj : jj = (j : Int) := hj
      subst hj
      refine v_ifT (decide_eq_true (Int.natCast_nonneg _)) ?_
      refine pbOne_ok S b1 nso' no hh.1 sv hq1 hjl hjz (Nat.le_trans (Nat.le_add_right _ _) hdl') fun G2 os2 b2 => n_then (n_nil (turn_next (hKw _ _ ⟨wtIL rest, hlt, rest, _, xs', os2, _, _, _, _, rfl, b2, ?_, rfl, hrw⟩)))
      rw [← hval', List.append_assoc]
      have : valI (Tree.node a ks vs cs, (j : Int)) = ((ks.zip vs)[j]?).toList := by
        unfold valI
        rw [if_neg (Int.not_lt.mpr (Int.natCast_nonneg _))]; rfl
      rw [this]
end
end ML
namespace ML
theorem weave_length {α : Type} : ∀ {C : List (List α)} {P : List α}, (weave C P).length = (C.map List.length).sum + P.length
  | [], P => by simp [weave]
  | c :: C, [] => by
    have := weave_length (C := C) (P := ([] : List α))
    simp [weave] at this ⊢
    (first | lia | omega)
  | c :: C, p :: P => by
    have := weave_length (C := C) (P := P)
    simp [weave] at this ⊢
    (first | lia | omega)
theorem wt_small {D : Nat} (hD : 2 ≤ D) : ∀ {h : Nat} {t : Tree}, Sh D h t → wt t ≤ 3 * (ino t).length + 2 ∧ (1 ≤ t.keys.length → wt t ≤ 3 * (ino t).length)
  | 0, .node a ks vs cs, ⟨s1, s2, _⟩ => by
    subst s1
    have e : (ino (.node a ks vs [])).length = ks.length := by show (ks.zip vs).length = _; exact zip_len s2
    have w : wt (.node a ks vs []) = 2 + ks.length := by simp [wt, wtL]
    rw [e, w]
    refine ⟨by (first | lia | omega), fun q => ?_⟩
    have q : 1 ≤ ks.length := q
    (first | lia | omega)
  | h + 1, .node a ks vs cs, ⟨s1, s2, _, s4⟩ => by
    have e : (ino (.node a ks vs cs)).length = ((inoL cs).map List.length).sum + ks.length := by
      show (weave (inoL cs) (ks.zip vs)).length = _
      rw [weave_length, zip_len s2]
    have w : wt (.node a ks vs cs) = 2 + ks.length + wtL cs := rfl
    have key : ∀ l : List Tree, (∀ c ∈ l, Sh D h c ∧ D - 1 ≤ c.keys.length) → wtL l ≤ 3 * ((inoL l).map List.length).sum := by
      intro l
      induction l with
      | nil => intro _; simp [wtL, inoL]
      | cons c l ih =>
        intro hl
        have h1 := (wt_small hD (hl c (.head _)).1).2 (by have := (hl c (.head _)).2; (first | lia | omega))
        have h2 := ih fun x hx => hl x (.tail _ hx)
        simp only [wtL, inoL, List.map_cons, List.sum_cons]
        (first | lia | omega)
    have := key cs s4
    rw [e, w]
    refine ⟨by (first | lia | omega), fun q => ?_⟩
    have q : 1 ≤ ks.length := q
    (first | lia | omega)
section
variable {T : Nat → Option Fn} (S : Sys T)
theorem spec_pairs (h2 : T 2 = some f_is_leaf) (h19 : T 19 = some f_pairs_below) (h20 : T 20 = some f_pairs) {tv : V} {G : Heap} {cn D h : Nat} {root : Tree} {size : Int} {Q : PV} (hD : 2 ≤ D) (m : IsMapT tv G cn D h root size) (z : (ino root).length ≤ 60000)
    (k : ∀ o G' os, G.le G' → G o = none → G' o = some (.list os) → All2 (PairV G') os (ino root) → Q (.ref o) G') : S.Φ 20 [.ref cn] G Q := by
  refine S.call h20 rfl ?_
  dsimp only [f_pairs]
  walk_at "m"
  walk_at "n"
  refine v_isInst m.obj ?_
  refine v_attr m.obj rfl ?_
  walk_at "m"
  have := (wt_small hD m.sh).1
  exact spec_pairs_below S h2 h19 m.holds m.sh.wf (by (first | lia | omega)) (by (first | lia | omega)) fun o G' os a b c d => end_ret rfl (k o G' os a b c d)
theorem new_map (h0 : T 0 = some f_Node_init) (h1 : T 1 = some f_Canopy_init) {tv : V} {H : Heap} {D : Nat} {Q : Nat → Heap → Prop} (dg : tv = .int D ∨ (OddT tv ∧ 50000 ≤ D))
    (h : ∀ c root H', H.le H' → H c = none → IsMapT tv H' c D 0 root 0 → ino root = [] → (∀ b ∈ root.addrs, H b = none) → Q c H') :
    ∀ a, H a = none → S.Φ 1 (.ref a :: [tv]) (H.upd a (.inst 1 [])) fun r H => r = .none ∧ Q a H := by
  refine new_canopy S h0 h1 fun c n H' le nc nn nnc hc hn => ?_
  refine h c (.node n [] [] []) H' le nc ⟨hc, hn.le del_le, by simp [Tree.addrs, addrsL], ⟨rfl, rfl, Nat.zero_le _⟩, List.Pairwise.nil, dg.imp id fun q => ⟨rfl, q⟩⟩ rfl fun b hb => ?_
  simp [Tree.addrs, addrsL] at hb
  rw [hb]; exact nn
end
end ML
namespace ML
noncomputable def getL (l : List KV) (key : Int) : V := match l.find? (fun p => p.1 == key) with
  | some p => p.2
  | none => .none
theorem findL_none {l : List KV} {key : Int} (h : ∀ x ∈ l, x.1 ≠ key) : l.find? (fun p => p.1 == key) = none := List.find?_eq_none.mpr fun x hx => by simpa using h x hx
theorem getL_mid {L M R : List KV} {key : Int} (hL : ∀ x ∈ L, x.1 < key) (hR : ∀ x ∈ R, key < x.1) : getL (L ++ (M ++ R)) key = getL M key := by
  unfold getL
  rw [List.find?_append, findL_none fun x hx => Int.ne_of_lt (hL x hx), List.find?_append, findL_none fun x hx => (Int.ne_of_lt (hR x hx)).symm]
  simp
theorem getL_at {L R : List KV} {key : Int} {v : V} (hL : ∀ x ∈ L, x.1 ≠ key) : getL (L ++ (key, v) :: R) key = v := by
  unfold getL
  rw [List.find?_append, findL_none hL]
  simp
theorem getL_in {l : List KV} {key : Int} {v : V} (hs : Srt l) (h : (key, v) ∈ l) : getL l key = v := by
  refine absG fun Cg hCg => ?_
  obtain ⟨L, R, rfl⟩ := List.append_of_mem h
  refine hCg ?_; clear hCg
  exact getL_at fun x hx => by
    have := (List.pairwise_append.mp hs).2.2 x hx (key, v) (.head _)
    exact Int.ne_of_lt this
noncomputable def lkTest : E := .and (.cmp .lt (.var 3) (.prim .len [(.attr (.var 2) 0)])) (.cmp .eq (.idx (.attr (.var 2) 0) (.var 3)) (.var 1))
theorem getL_leaf {ks : List Int} {vs : List V} {i a : Nat} {key : Int} (u : Under ks i key) : getL (ino (.node a ks vs [])) key = .none := by
  have : (ino (.node a ks vs [])).find? (fun p => p.1 == key) = none := findL_none fun x hx => by
    obtain ⟨j, hj⟩ := List.mem_iff_getElem?.mp (show x ∈ ks.zip vs from hx)
    have hk := (List.getElem?_zip_eq_some.mp hj).1
    by_cases e : j < i
    · exact Int.ne_of_lt (u.lt j _ e hk)
    · exact (Int.ne_of_lt (u.gt j _ (by (first | lia | omega)) hk)).symm
  unfold getL
  rw [this]
theorem getL_found {ks : List Int} {vs : List V} {cs : List Tree} {i a : Nat} {key : Int} (hv : vs.length = ks.length) (hs : Srt (ino (.node a ks vs cs))) (hk : ks[i]? = some key) : vs[i]? = some (getL (ino (.node a ks vs cs)) key) := by
  have hi := lt_of_get hk
  have hvi : vs[i]? = some (vs[i]'(hv ▸ hi)) := List.getElem?_eq_getElem _
  rw [hvi]
  have hm : (key, vs[i]'(hv ▸ hi)) ∈ ino (.node a ks vs cs) := weave_sub.mem (List.mem_of_getElem? (i := i) (by rw [List.getElem?_zip_eq_some]; exact ⟨hk, hvi⟩))
  rw [getL_in hs hm]
section
variable {T : Nat → Option Fn} (S : Sys T)
theorem lk_test {Φ : Orac} {G : Heap} {a pk i : Nat} {ks : List Int} {key : Int} {fs : List (Nat × V)} {x0 : Option V} {K : Bool → Heap → Prop} (ha : G a = some (.inst 0 ((0, .ref pk) :: fs))) (hk : G pk = some (.list (ks.map V.int))) (z : ks.length ≤ 100000)
    (h1 : ks[i]? = some key → K true G) (h2 : ks[i]? ≠ some key → K false G) : wpT Φ lkTest [x0, some (.int key), some (.ref a), some (.int i)] G K := by
  have hlim : lim = 1000000 := rfl
  unfold lkTest
  walk_at "m"
  refine v_attr ha rfl ?_
  refine v_len hk rfl ?_
  walk_at "m"
  rw [List.length_map]
  by_cases q : i < ks.length
  · refine v_ifT (by simp; (first | lia | omega)) ?_
    refine v_attr ha rfl ?_
    refine v_idxN (v := .int (ks[i]'q)) hk rfl (by (first | lia | omega)) (by rw [List.getElem?_map, List.getElem?_eq_getElem q]; rfl) ?_
    walk_at "m"
    by_cases q' : ks[i]'q = key
    · rw [q', decide_eq_true rfl]
      exact h1 (by rw [List.getElem?_eq_getElem q, q'])
    · rw [decide_eq_false q']
      exact h2 (by rw [List.getElem?_eq_getElem q]; intro e; exact q' (Option.some.inj e))
  · refine v_ifF (by simp; (first | lia | omega)) ?_
    exact h2 (by rw [List.getElem?_eq_none (by (first | lia | omega))]; intro e; cases e)
theorem f_lookup_eq : f_lookup = ⟨2, 4, [
  .assign 2 (.attr (.var 0) 4),
  .whl (.not (.meth 2 (.var 2) [])) [
    .assign 3 (.meth 3 (.var 2) [(.var 1)]),
    .ite lkTest [.ret (some (.idx (.attr (.var 2) 1) (.var 3)))] [],
    .assign 2 (.idx (.attr (.var 2) 2) (.var 3))],
  .assign 3 (.meth 3 (.var 2) [(.var 1)]),
  .ite lkTest [.ret (some (.idx (.attr (.var 2) 1) (.var 3)))] [],
  .ret (some (.lit .none))]⟩ := rfl
theorem spec_lookup (h2 : T 2 = some f_is_leaf) (h3 : T 3 = some f_slot) (h8 : T 8 = some f_lookup) {tv : V} {D h cn : Nat} {G : Heap} {root : Tree} {size key : Int} {Q : PV} (m : IsMapT tv G cn D h root size) (z : (ino root).length ≤ 50000) (k : Q (getL (ino root) key) G) : S.Φ 8 [.ref cn, .int key] G Q := by
  have hlim : lim = 1000000 := rfl
  rw [f_lookup_eq] at h8
  refine S.call h8 rfl ?_
  dsimp only
  walk_at "m"
  walk_at "n"
  refine v_attr m.obj rfl ?_
  walk_at "m"
  refine n_whl ?_
  refine ⟨fun n m' Gx => ∃ (t : Tree) (x3 : Option V), m' = [some (.ref cn), some (.int key), some (.ref t.addr), x3] ∧ Gx = G ∧ Holds G t ∧ t.addrs.Nodup ∧ Sh D n t ∧ Srt (ino t) ∧ (ino t).length ≤ 50000 ∧ getL (ino t) key = getL (ino root) key,
    h, ⟨root, none, rfl, rfl, m.holds, m.nodup, m.sh, m.srt, z, rfl⟩, ?_⟩
  intro n m' Gx hIw
  refine hideK fun Kw hKw => absG fun Cg hCg => ?_
  obtain ⟨t, x3, rfl, rfl, g1, g2, g3, g4, g5, g6⟩ := hIw
  obtain ⟨a, ks, vs, cs⟩ := t
  have g1' := g1
  obtain ⟨⟨pk, pv, pc, ha, hpk, hpv, hpc⟩, _⟩ := g1'
  have sv : vs.length = ks.length := g3.len.1
  have hks := keys_srt g4 sv
  have zk : ks.length ≤ 50000 := Nat.le_trans (keys_le (t := .node a ks vs cs) sv) g5
  have hi : below ks key ≤ ks.length := below_le
  have got : ks[below ks key]? = some key → ∀ {K : V → Prop}, K (getL (ino root) key) → idxW (.ref pv) (.int (below ks key)) Gx K := fun q {K} h => v_idxN hpv rfl (by (first | lia | omega)) (by rw [getL_found sv g4 q, g6]) h
  refine hCg ?_; clear hCg
  rw [t_not, t_meth, w_meth]
  walk_at "m"
  refine v_isInst ha ?_
  refine spec_is_leaf S h2 ha hpc ?_
  walk_at "m"
  cases n with
  | zero =>
    refine absG fun Cg hCg => ?_
    obtain ⟨rfl, s2, s3⟩ := g3
    refine hCg ?_; clear hCg
    refine v_ifF rfl ?_
    refine n_then ?_
    walk_at "n"
    refine v_isInst ha ?_
    refine spec_slot S h3 ha hpk hks (by (first | lia | omega)) ?_
    refine n_chk ?_
    refine lk_test ha hpk (by (first | lia | omega)) (fun q => ?_) fun q => ?_
    · refine v_ifT rfl ?_
      walk_at "m"
      refine v_attr ha rfl ?_
      refine got q ?_
      exact end_ret rfl k
    · refine v_ifF rfl ?_
      walk_at "n"
      rw [← g6, getL_leaf (under_of hks q)] at k
      exact end_ret rfl k
  | succ n =>
    have s1 := g3.1
    refine v_ifT (by simp [refsOf]; intro q; rw [q] at s1; simp at s1) ?_
    walk_at "n"
    refine v_isInst ha ?_
    refine spec_slot S h3 ha hpk hks (by (first | lia | omega)) ?_
    refine n_chk ?_
    refine lk_test ha hpk (by (first | lia | omega)) (fun q => ?_) fun q => ?_
    · refine v_ifT rfl ?_
      walk_at "m"
      refine v_attr ha rfl ?_
      refine got q ?_
      exact turn_ret (n_thenR (end_ret rfl k))
    · refine v_ifF rfl ?_
      have u := under_of hks q
      generalize below ks key = i at u hi
      have hilt : i < cs.length := by (first | lia | omega)
      have hci : cs[i]? = some (cs[i]'hilt) := List.getElem?_eq_getElem _
      refine absG fun Cg hCg => ?_
      obtain ⟨c1, c2, c3, c4, _, c6, _⟩ := child_of g1 g2 g3 g4 hci hi
      refine hCg ?_; clear hCg
      walk_at "n"
      refine v_attr ha rfl ?_
      refine v_idxN (v := .ref (cs[i]'hilt).addr) hpc rfl (by (first | lia | omega)) (by unfold refsOf; rw [List.getElem?_map, hci]; rfl) ?_
      refine n_nil (turn_next (hKw _ _ ⟨n, Nat.lt_succ_self n, cs[i]'hilt, _, rfl, rfl, c1, c2, c6, c3, Nat.le_trans c4 g5, ?_⟩))
      obtain ⟨u1, u2⟩ := under_sides sv s1 hi hci g4 u
      rw [← g6, ino_at sv hi hci, getL_mid u1 u2]
end
end ML
namespace ML
noncomputable abbrev Deed := Bool × Int × V
noncomputable def DeedIs (H : Heap) (x : V) (d : Deed) : Prop := ∃ r, x = .ref r ∧ H r = some (.tup [.str (if d.1 then 0 else 1), .int d.2.1, d.2.2])
theorem DeedIs.le {H H' : Heap} {x : V} {d : Deed} (l : H.le H') (h : DeedIs H x d) : DeedIs H' x d := let ⟨r, e, h⟩ := h; ⟨r, e, l _ _ h⟩
theorem DeedIs.lst {H : Heap} {x : V} {d : Deed} {p : Nat} {xs : List V} {o : O} (hp : H p = some (.list xs)) (h : DeedIs H x d) : DeedIs (H.upd p o) x d := by
  obtain ⟨r, e, h⟩ := h
  refine ⟨r, e, ?_⟩
  rw [upd_ne (fun q => by rw [q, hp] at h; cases h)]; exact h
theorem DeedIs.dic {H : Heap} {x : V} {d : Deed} {p : Nat} {xs : List (Int × V)} {o : O} (hp : H p = some (.dict xs)) (h : DeedIs H x d) : DeedIs (H.upd p o) x d := by
  obtain ⟨r, e, h⟩ := h
  refine ⟨r, e, ?_⟩
  rw [upd_ne (fun q => by rw [q, hp] at h; cases h)]; exact h
noncomputable abbrev Deeds (H : Heap) (xs : List V) (ds : List Deed) : Prop := All2 (DeedIs H) xs ds
theorem Deeds.le {H H' : Heap} {xs : List V} {ds : List Deed} (h : Deeds H xs ds) (l : H.le H') : Deeds H' xs ds := All2.mono (fun _ _ => DeedIs.le l) h
theorem Deeds.lst {H : Heap} {xs ys : List V} {ds : List Deed} {p : Nat} {o : O} (h : Deeds H xs ds) (hp : H p = some (.list ys)) : Deeds (H.upd p o) xs ds := All2.mono (fun _ _ => DeedIs.lst hp) h
noncomputable abbrev PairsV (H : Heap) (xs : List V) (kvs : List KV) : Prop := All2 (PairV H) xs kvs
theorem PairsV.le {H H' : Heap} {xs : List V} {kvs : List KV} (h : PairsV H xs kvs) (l : H.le H') : PairsV H' xs kvs := All2.mono (fun _ _ => PairV.le l) h
theorem PairsV.lst {H : Heap} {xs ys : List V} {kvs : List KV} {p : Nat} {o : O} (h : PairsV H xs kvs) (hp : H p = some (.list ys)) : PairsV (H.upd p o) xs kvs := All2.mono (fun _ _ => PairV.lst hp) h
noncomputable def delL (l : List KV) (k : Int) : List KV := l.filter fun p => decide (p.1 ≠ k)
noncomputable def stepL (l : List KV) (d : Deed) : List KV := if d.1 then putL l d.2.1 d.2.2 else delL l d.2.1
noncomputable def runL (ds : List Deed) : List KV := ds.foldl stepL []
theorem delL_srt {l : List KV} {k : Int} (h : Srt l) : Srt (delL l k) := h.sub List.filter_sublist
theorem stepL_srt {l : List KV} {d : Deed} (h : Srt l) : Srt (stepL l d) := by
  unfold stepL; split
  · exact putL_srt h
  · exact delL_srt h
theorem foldl_srt : ∀ (ds : List Deed) (l : List KV), Srt l → Srt (ds.foldl stepL l)
  | [], _, h => h
  | _ :: ds, _, h => foldl_srt ds _ (stepL_srt h)
theorem runL_srt (ds : List Deed) : Srt (runL ds) := foldl_srt ds [] .nil
theorem putL_len {l : List KV} {k : Int} {v : V} : (putL l k v).length ≤ l.length + 1 := by
  have key : (l.filter (fun p => decide (p.1 < k))).length + (l.filter (fun p => decide (k < p.1))).length ≤ l.length := by
    induction l with
    | nil => exact Nat.le_refl _
    | cons a r ih =>
      by_cases h1 : a.1 < k
      · rw [List.filter_cons_of_pos (by simpa using h1), List.filter_cons_of_neg (by simp; exact Int.le_of_lt h1), List.length_cons, List.length_cons, Nat.succ_add]
        exact Nat.succ_le_succ ih
      · rw [List.filter_cons_of_neg (by simpa using h1), List.length_cons]
        by_cases h2 : k < a.1
        · rw [List.filter_cons_of_pos (by simpa using h2), List.length_cons]
          exact Nat.succ_le_succ ih
        · rw [List.filter_cons_of_neg (by simpa using h2)]
          exact Nat.le_succ_of_le ih
  show (l.filter (fun p => decide (p.1 < k)) ++ (k, v) :: l.filter (fun p => decide (k < p.1))).length ≤ _
  rw [List.length_append, List.length_cons, ← Nat.add_assoc]
  exact Nat.succ_le_succ key
theorem stepL_len {l : List KV} {d : Deed} : (stepL l d).length ≤ l.length + 1 := by
  unfold stepL; split
  · exact putL_len
  · exact Nat.le_succ_of_le (List.length_filter_le _ _)
theorem foldl_len : ∀ (ds : List Deed) (l : List KV), (ds.foldl stepL l).length ≤ l.length + ds.length
  | [], _ => Nat.le_refl _
  | d :: ds, l => by
    have := foldl_len ds (stepL l d)
    have := stepL_len (l := l) (d := d)
    simp only [List.foldl_cons, List.length_cons]; (first | lia | omega)
theorem runL_len (ds : List Deed) : (runL ds).length ≤ ds.length := by have := foldl_len ds []; rwa [List.length_nil, Nat.zero_add] at this
noncomputable def dV : V → D
  | .int i => .int i
  | .str k => .str k
  | _ => .none
noncomputable def flatV (v : V) : Prop := RdA v (dV v)
theorem rd_flat {H : Heap} {n : Nat} {v : V} (h : flatV v) : Rd H n v (dV v) := by
  cases n with
  | zero => exact h
  | succ n => exact .inl h
noncomputable def dKV (kvs : List KV) : D := .list (kvs.map fun kv => .tup [.int kv.1, dV kv.2])
theorem rd_pairsV {H : Heap} {n p : Nat} {o : O} {xs : List V} {kvs : List KV} (h : H p = some o) (ho : o.lst? = some xs) (k : PairsV H xs kvs) (hf : ∀ kv ∈ kvs, flatV kv.2) : Rd H (n + 2) (.ref p) (dKV kvs) := by
  refine rd_list h ho ?_
  have key : ∀ {xs : List V} {kvs : List KV}, PairsV H xs kvs → (∀ kv ∈ kvs, flatV kv.2) → All2 (Rd H (n + 1)) xs (kvs.map fun kv => D.tup [.int kv.1, dV kv.2]) := by
    intro xs kvs k
    induction k with
    | nil => exact fun _ => .nil
    | cons a _ ih =>
      intro hf
      obtain ⟨r, rfl, hr⟩ := a
      exact .cons (rd_tup hr (.cons rd_int (.cons (rd_flat (hf _ (.head _))) .nil))) (ih fun kv hk => hf kv (.tail _ hk))
  exact key k hf
noncomputable def dDs (ds : List Deed) : D := .list (ds.map fun d => .tup [.str (if d.1 then 0 else 1), .int d.2.1, dV d.2.2])
theorem rd_deeds {H : Heap} {n p : Nat} {o : O} {xs : List V} {ds : List Deed} (h : H p = some o) (ho : o.lst? = some xs) (k : Deeds H xs ds) (hf : ∀ d ∈ ds, flatV d.2.2) : Rd H (n + 2) (.ref p) (dDs ds) := by
  refine rd_list h ho ?_
  have key : ∀ {xs : List V} {ds : List Deed}, Deeds H xs ds → (∀ d ∈ ds, flatV d.2.2) → All2 (Rd H (n + 1)) xs (ds.map fun d => D.tup [.str (if d.1 then 0 else 1), .int d.2.1, dV d.2.2]) := by
    intro xs ds k
    induction k with
    | nil => exact fun _ => .nil
    | cons a _ ih =>
      intro hf
      obtain ⟨r, rfl, hr⟩ := a
      exact .cons (rd_tup hr (.cons rd_str (.cons rd_int (.cons (rd_flat (hf _ (.head _))) .nil)))) (ih fun kv hk => hf kv (.tail _ hk))
  exact key k hf
theorem step_all {P : V → Prop} {l : List KV} {d : Deed} (hl : ∀ kv ∈ l, P kv.2) (hd : P d.2.2) : ∀ kv ∈ stepL l d, P kv.2 := by
  intro kv hk
  unfold stepL at hk
  split at hk
  · unfold putL at hk
    rcases List.mem_append.mp hk with h | h
    · exact hl _ (List.mem_filter.mp h).1
    · rcases List.mem_cons.mp h with rfl | h
      · exact hd
      · exact hl _ (List.mem_filter.mp h).1
  · exact hl _ (List.mem_filter.mp hk).1
theorem fold_all {P : V → Prop} : ∀ (ds : List Deed) (l : List KV), (∀ kv ∈ l, P kv.2) → (∀ d ∈ ds, P d.2.2) → ∀ kv ∈ ds.foldl stepL l, P kv.2
  | [], _, h, _ => h
  | d :: ds, _, h, hd => fold_all ds _ (step_all h (hd d (.head _))) fun d' h' => hd d' (.tail _ h')
theorem run_all {P : V → Prop} {ds : List Deed} (h : ∀ d ∈ ds, P d.2.2) : ∀ kv ∈ runL ds, P kv.2 := fold_all ds [] (fun _ h => nomatch h) h
section
variable {T : Nat → Option Fn} (S : Sys T)
noncomputable def putInV (key : Int) (value : V) (kvs : List KV) : List KV := kvs.filter (fun kv => decide (kv.1 < key)) ++ [(key, value)] ++ kvs.filter (fun kv => decide (key < kv.1))
noncomputable def kOf (H : Heap) : V → Int
  | .ref r => match H r with
    | some (.tup (.int k :: _)) => k
    | _ => 0
  | _ => 0
theorem PairV.k {H : Heap} {x : V} {kv : KV} (h : PairV H x kv) : kOf H x = kv.1 := by
  obtain ⟨r, rfl, h⟩ := h
  unfold kOf
  simp only [h]
end
end ML
namespace ML
section
variable {T : Nat → Option Fn} (S : Sys T) {H : Heap}
theorem at_k {a : Nat} {ks : List Int} {vs cs : List V} {Q : V → Prop} (n : NodeAt H a ks vs cs) (k : ∀ p, H p = some (.list (ks.map V.int)) → Q (.ref p)) : attrW (.ref a) 0 H Q := by
  refine absG fun Cg hCg => ?_
  obtain ⟨p, _, _, h1, h2, _, _⟩ := n
  refine hCg ?_; clear hCg
  exact v_attr h1 rfl (k p h2)
theorem at_v {a : Nat} {ks : List Int} {vs cs : List V} {Q : V → Prop} (n : NodeAt H a ks vs cs) (k : ∀ p, H p = some (.list vs) → Q (.ref p)) : attrW (.ref a) 1 H Q := by
  refine absG fun Cg hCg => ?_
  obtain ⟨_, p, _, h1, _, h2, _⟩ := n
  refine hCg ?_; clear hCg
  exact v_attr h1 rfl (k p h2)
theorem at_c {a : Nat} {ks : List Int} {vs cs : List V} {Q : V → Prop} (n : NodeAt H a ks vs cs) (k : ∀ p, H p = some (.list cs) → Q (.ref p)) : attrW (.ref a) 2 H Q := by
  refine absG fun Cg hCg => ?_
  obtain ⟨_, _, p, h1, _, _, h2⟩ := n
  refine hCg ?_; clear hCg
  exact v_attr h1 rfl (k p h2)
theorem at_inst {a f : Nat} {ks : List Int} {vs cs : List V} {P : Prop} (n : NodeAt H a ks vs cs) (hf : methCls f = 0) (k : P) : isInst H (methCls f) (.ref a) ∧ P := by
  refine absG fun Cg hCg => ?_
  obtain ⟨_, _, _, h1, _⟩ := n
  refine hCg ?_; clear hCg
  rw [hf]
  exact v_isInst h1 k
theorem NodeAt.i {a : Nat} {ks : List Int} {vs cs : List V} (n : NodeAt H a ks vs cs) : Insts [a] H := fun b hb => by
  refine absG fun Cg hCg => ?_
  obtain ⟨_, _, _, h1, _⟩ := n
  refine hCg ?_; clear hCg
  rw [List.mem_singleton.mp hb]; exact ⟨_, _, h1⟩
theorem NodeAt.past {a b : Nat} {G : Heap} {ks ks' : List Int} {vs cs vs' cs' : List V} (n : NodeAt H a ks vs cs) (m : NodeAt H b ks' vs' cs') (f : Frame [b] H G) (hn : a ≠ b) : NodeAt G a ks vs cs := n.frame f m.i (fun q => hn (List.mem_singleton.mp q))
theorem Frame.leL {A : List Nat} {G G1 : Heap} (l : H.le G) (f : Frame A G G1) : Frame A H G1 := fun b o e hb => f b o (l _ _ e) hb
theorem Frame.join {A B C : List Nat} {G G1 : Heap} (f : Frame A H G) (g : Frame B G G1) (h1 : ∀ x ∈ A, x ∈ C) (h2 : ∀ x ∈ B, x ∈ C) : Frame C H G1 := fun b o e hb => g b o (f b o e fun q => hb (h1 b q)) fun q => hb (h2 b q)
theorem Frame.lst {a p : Nat} {G : Heap} {ks : List Int} {vs cs xs : List V} (f : Frame [a] H G) (n : NodeAt H a ks vs cs) (hp : H p = some (.list xs)) : G p = some (.list xs) := f _ _ hp fun q => by
  refine absG fun Cg hCg => ?_
  obtain ⟨_, _, e⟩ := n.i p q
  refine hCg ?_; clear hCg
  rw [hp] at e; cases e
theorem lay_node (h4 : T 4 = some f_lay) {a p q r : Nat} {ks ks' : List Int} {vs cs vs' cs' : List V} {Q : PV} (n : NodeAt H a ks vs cs) (hp : H p = some (.list (ks'.map V.int))) (hq : H q = some (.list vs')) (hr : H r = some (.list cs'))
    (k : ∀ G, NodeAt G a ks' vs' cs' → Frame [a] H G → Q .none G) : S.Φ 4 [.ref a, .ref p, .ref q, .ref r] H Q := by
  refine absG fun Cg hCg => ?_
  obtain ⟨_, _, _, h1, _⟩ := n
  refine hCg ?_; clear hCg
  refine spec_lay S h4 h1 (k _ ⟨p, q, r, upd_self, ?_, ?_, ?_⟩ fun b o e hb => ?_)
  · rw [upd_ne (fun e => by rw [e, h1] at hp; cases hp)]; exact hp
  · rw [upd_ne (fun e => by rw [e, h1] at hq; cases hq)]; exact hq
  · rw [upd_ne (fun e => by rw [e, h1] at hr; cases hr)]; exact hr
  · rw [upd_ne (fun q => hb (by rw [q]; exact .head _))]; exact e
noncomputable def del {α : Type} (l : List α) (i : Nat) : List α := l.take i ++ l.drop (i + 1)
theorem del_map {α β : Type} {f : α → β} {l : List α} {i : Nat} : (del l i).map f = del (l.map f) i := by unfold del; rw [List.map_append, List.map_take, List.map_drop]
theorem spec_row_without (h6 : T 6 = some f_row_without) {p i : Nat} {xs : List V} {Q : PV} (hp : H p = some (.list xs)) (hz : xs.length ≤ 100001) (k : ∀ b G, H.le G → H b = none → G b = some (.list (del xs i)) → Q (.ref b) G) : S.Φ 6 [.ref p, .int i] H Q := by
  refine S.call h6 rfl ?_
  dsimp only [f_row_without]
  walk_at "m"
  walk_at "n"
  refine v_sliceL hp rfl rfl rfl trivial (Int.natCast_nonneg _) (lim1 hz) fun y1 Y1 m1 n1 e1 => ?_
  refine v_sliceL (m1 _ _ hp) rfl rfl rfl (Int.natCast_nonneg (i + 1)) trivial (lim1 hz) fun y2 Y2 m2 _ e2 => ?_
  have hl : (cut xs none (some (i : Int))).length + (cut xs (some ((i : Int) + 1)) none).length ≤ lim := by
    rw [cut_to, cut_from, List.length_drop]
    have := List.length_take_le' (i : Int).toNat xs
    show _ ≤ 1000000
    (first | lia | omega)
  refine v_addLL (m2 _ _ e1) e2 hl fun y3 Y3 m3 n3 e3 => ?_
  exact end_ret rfl (k y3 Y3 (Heap.le_trans m1 (Heap.le_trans m2 m3)) (fresh_le (Heap.le_trans m1 m2) n3) e3)
theorem row_with2 (h5 : T 5 = some f_row_with) {p i : Nat} {xs : List V} {x : V} {Q : PV} (hp : H p = some (.list xs)) (hi : i < xs.length) (hz : xs.length ≤ 100000) (k : ∀ b G, H.le G → G b = some (.list (xs.set i x)) → Q (.ref b) G) : S.Φ 5 [.ref p, .int i, x] H Q :=
  spec_row_with S h5 hp hi hz fun b nb => k b _ (Heap.le_upd nb) upd_self
theorem zadd {a b : Nat} (h1 : a ≤ 300000) (h2 : b ≤ 300000) : a + b ≤ lim := Nat.le_trans (Nat.add_le_add h1 h2) (by decide)
theorem zmap {ks : List Int} (h : ks.length ≤ 100000) : (ks.map V.int).length ≤ 300000 := by rw [List.length_map]; exact Nat.le_trans h (by decide)
theorem spec_merge (h4 : T 4 = some f_lay) (h6 : T 6 = some f_row_without) (h12 : T 12 = some f_merge_children) {self : V} {a b e i : Nat} {ks kb ke : List Int} {vs vb ve cs cb ce : List V} {k : Int} {v : V} {Q : PV} (na : NodeAt H a ks vs cs) (nb : NodeAt H b kb vb cb) (ne : NodeAt H e ke ve ce)
    (ci : cs[i]? = some (.ref b)) (ci1 : cs[i + 1]? = some (.ref e)) (hk : ks[i]? = some k) (hv : vs[i]? = some v) (hab : a ≠ b) (hi : i ≤ 100000) (z1 : ks.length ≤ 100000) (z2 : vs.length ≤ 100000) (z3 : cs.length ≤ 100001) (z4 : kb.length ≤ 100000) (z5 : vb.length ≤ 100000) (z6 : cb.length ≤ 100001) (z7 : ke.length ≤ 100000) (z8 : ve.length ≤ 100000) (z9 : ce.length ≤ 100001)
    (q : ∀ G, NodeAt G a (del ks i) (del vs i) (del cs (i + 1)) → NodeAt G b (kb ++ [k] ++ ke) (vb ++ [v] ++ ve) (cb ++ ce) → Frame [a, b] H G → Q .none G) : S.Φ 12 [self, .ref a, .int i] H Q := by
  refine S.call h12 rfl ?_
  dsimp only [f_merge_children]
  walk_at "m"
  walk_at "n"
  refine at_c na fun p hp => ?_
  refine v_idxN hp rfl (Nat.le_trans hi (by decide)) ci ?_
  walk_at "n"
  refine at_c na fun p hp => ?_
  refine v_idxN (k := i + 1) hp rfl (Nat.le_trans (Nat.succ_le_succ hi) (by decide)) ci1 ?_
  walk_at "n"
  refine at_inst nb rfl (at_k nb fun p1 e1 => at_k na fun p2 e2 => ?_)
  refine v_idxN (v := .int k) e2 rfl (Nat.le_trans hi (by decide)) (by rw [List.getElem?_map, hk]; rfl) ?_
  refine v_allocL fun y1 Y1 m1 _ g1 => ?_
  refine v_addLL (m1 _ _ e1) g1 (zadd (zmap z4) (by simp)) fun y2 Y2 m2 _ g2 => ?_
  have M2 := Heap.le_trans m1 m2
  refine at_k (ne.le M2) fun p3 e3 => ?_
  refine v_addLL g2 e3 (zadd (by rw [List.length_append, List.length_map]; simp only [List.length_cons, List.length_nil]; (first | lia | omega)) (zmap z7)) fun y3 Y3 m3 _ g3 => ?_
  have M3 := Heap.le_trans M2 m3
  clear g1 g2 e1 e2 e3 m1 m2 m3 M2
  refine at_v (nb.le M3) fun p1 e1 => at_v (na.le M3) fun p2 e2 => ?_
  refine v_idxN e2 rfl (Nat.le_trans hi (by decide)) hv ?_
  refine v_allocL fun y4 Y4 m4 _ g4 => ?_
  refine v_addLL (m4 _ _ e1) g4 (zadd (Nat.le_trans z5 (by decide)) (by simp)) fun y5 Y5 m5 _ g5 => ?_
  have M5 := Heap.le_trans M3 (Heap.le_trans m4 m5)
  have g3 := m5 _ _ (m4 _ _ g3)
  refine at_v (ne.le M5) fun p3 e3 => ?_
  refine v_addLL g5 e3 (zadd (by rw [List.length_append]; simp only [List.length_cons, List.length_nil]; (first | lia | omega)) (Nat.le_trans z8 (by decide))) fun y6 Y6 m6 _ g6 => ?_
  have M6 := Heap.le_trans M5 m6
  have g3 := m6 _ _ g3
  clear g4 g5 e1 e2 e3 m4 m5 m6 M5 M3
  refine at_c (nb.le M6) fun p1 e1 => at_c (ne.le M6) fun p2 e2 => ?_
  refine v_addLL e1 e2 (zadd (Nat.le_trans z6 (by decide)) (Nat.le_trans z9 (by decide))) fun y7 Y7 m7 _ g7 => ?_
  have M7 := Heap.le_trans M6 m7
  have g3 := m7 _ _ g3
  have g6 := m7 _ _ g6
  walk_at "m"
  refine lay_node S h4 (ks' := kb ++ [k] ++ ke) (nb.le M7) (by rw [g3]; simp) g6 g7 fun G1 nb1 f1 => ?_
  walk_at "m"
  have na1 := (na.le M7).past (nb.le M7) f1 hab
  clear g3 g6 g7 e1 e2 m7 M6
  walk_at "n"
  refine at_inst na1 rfl (at_k na1 fun p1 e1 => ?_)
  refine spec_row_without S h6 e1 (by rw [List.length_map]; exact le1 z1) fun y1 Y1 m1 _ g1 => ?_
  refine at_v (na1.le m1) fun p2 e2 => ?_
  refine spec_row_without S h6 e2 (le1 z2) fun y2 Y2 m2 _ g2 => ?_
  have M2 := Heap.le_trans m1 m2
  refine at_c (na1.le M2) fun p3 e3 => ?_
  refine spec_row_without S h6 (i := i + 1) e3 z3 fun y3 Y3 m3 _ g3 => ?_
  have M3 := Heap.le_trans M2 m3
  walk_at "m"
  refine lay_node S h4 (ks' := del ks i) (na1.le M3) (by rw [m3 _ _ (m2 _ _ g1), del_map]) (m3 _ _ g2) g3 fun G2 na2 f2 => ?_
  walk_at "m"
  refine n_nil (end_ret rfl (q G2 na2 ((nb1.le M3).past (na1.le M3) f2 hab.symm) ?_))
  exact (f1.leL M7).join (f2.leL M3) (fun x hx => by rw [List.mem_singleton.mp hx]; exact .tail _ (.head _)) (fun x hx => by rw [List.mem_singleton.mp hx]; exact .head _)
theorem spec_borrowL (h4 : T 4 = some f_lay) (h5 : T 5 = some f_row_with) (h13 : T 13 = some f_borrow_from_left) {self : V} {a l c j n : Nat} {ks kl kc : List Int} {vs vl vc cs cl cc : List V} {k mk : Int} {v mv : V} {Q : PV} (na : NodeAt H a ks vs cs) (nl : NodeAt H l kl vl cl) (nc : NodeAt H c kc vc cc)
    (cj : cs[j]? = some (.ref l)) (cj1 : cs[j + 1]? = some (.ref c)) (hk : ks[j]? = some k) (hv : vs[j]? = some v) (hl : kl.length = n + 1) (hmk : kl[n]? = some mk) (hmv : vl[n]? = some mv) (hal : a ≠ l) (hac : a ≠ c) (hlc : l ≠ c)
    (z1 : ks.length ≤ 100000) (z2 : vs.length ≤ 100000) (z3 : cs.length ≤ 100001) (z4 : kl.length ≤ 100000) (z5 : vl.length ≤ 100000) (z6 : cl.length ≤ 100001) (z7 : kc.length ≤ 100000) (z8 : vc.length ≤ 100000) (z9 : cc.length ≤ 100001)
    (q : ∀ G, NodeAt G a (ks.set j mk) (vs.set j mv) cs → NodeAt G l (kl.take n) (vl.take n) (cl.take (n + 1)) → NodeAt G c (k :: kc) (v :: vc) (cl.drop (n + 1) ++ cc) → Frame [a, l, c] H G → Q .none G) : S.Φ 13 [self, .ref a, .int ((j : Int) + 1)] H Q := by
  have hj : j ≤ 100000 := Nat.le_trans (Nat.le_of_lt (lt_of_get hk)) z1
  have ej : ((j : Int) + 1) - 1 = j := by (first | lia | omega)
  have hn : n ≤ 100000 := by (first | lia | omega)
  have en : ((n + 1 : Nat) : Int) - 1 = n := by (first | lia | omega)
  refine S.call h13 rfl ?_
  dsimp only [f_borrow_from_left]
  walk_at "m"
  walk_at "n"
  refine at_c na fun p hp => ?_
  rw [ej]
  refine v_idxN hp rfl (Nat.le_trans hj (by decide)) cj ?_
  walk_at "n"
  refine at_c na fun p hp => ?_
  refine v_idxN (k := j + 1) hp rfl (Nat.le_trans (Nat.succ_le_succ hj) (by decide)) cj1 ?_
  walk_at "n"
  refine at_k nl fun p hp => v_len hp rfl ?_
  walk_at "m"
  rw [List.length_map, hl, en]
  walk_at "n"
  refine at_c nl fun p hp => ?_
  refine v_sliceL (l := some ((n : Int) + 1)) hp rfl rfl rfl (Int.natCast_nonneg (n + 1)) trivial (lim1 z6) fun y0 Y0 m0 _ g0 => ?_
  have g0 : Y0 y0 = some (.list (cl.drop (n + 1))) := g0
  walk_at "n"
  refine at_inst (nc.le m0) rfl (at_k (na.le m0) fun p1 e1 => ?_)
  rw [ej]
  refine v_idxN (v := .int k) e1 rfl (Nat.le_trans hj (by decide)) (by rw [List.getElem?_map, hk]; rfl) ?_
  refine v_allocL fun y1 Y1 m1 _ g1 => ?_
  have M1 := Heap.le_trans m0 m1
  refine at_k (nc.le M1) fun p2 e2 => ?_
  refine v_addLL g1 e2 (zadd (by simp) (zmap z7)) fun y2 Y2 m2 _ g2 => ?_
  have M2 := Heap.le_trans M1 m2
  refine at_v (na.le M2) fun p3 e3 => ?_
  refine v_idxN e3 rfl (Nat.le_trans hj (by decide)) hv ?_
  refine v_allocL fun y3 Y3 m3 _ g3 => ?_
  have M3 := Heap.le_trans M2 m3
  refine at_v (nc.le M3) fun p4 e4 => ?_
  refine v_addLL g3 e4 (zadd (by simp) (Nat.le_trans z8 (by decide))) fun y4 Y4 m4 _ g4 => ?_
  have M4 := Heap.le_trans M3 m4
  have g0 := m4 _ _ (m3 _ _ (m2 _ _ (m1 _ _ g0)))
  have g2 := m4 _ _ (m3 _ _ g2)
  clear e1 e2 e3 e4 g1 g3 m0 m1 m2 m3 m4 M1 M2 M3
  refine at_c (nc.le M4) fun p5 e5 => ?_
  refine v_addLL g0 e5 (zadd (by rw [List.length_drop]; (first | lia | omega)) (Nat.le_trans z9 (by decide))) fun y5 Y5 m5 _ g5 => ?_
  have M5 := Heap.le_trans M4 m5
  walk_at "m"
  refine lay_node S h4 (ks' := k :: kc) (nc.le M5) (by rw [m5 _ _ g2]; rfl) (m5 _ _ g4) g5 fun G1 nc1 f1 => ?_
  walk_at "m"
  have na1 := (na.le M5).past (nc.le M5) f1 hac
  have nl1 := (nl.le M5).past (nc.le M5) f1 hlc
  clear g2 g4 g5 g0 e5 m5 M4
  walk_at "n"
  refine at_inst na1 rfl (at_k na1 fun p1 e1 => at_k nl1 fun p2 e2 => ?_)
  walk_at "m"
  rw [ej]
  refine v_idxN (v := .int mk) e2 rfl (Nat.le_trans hn (by decide)) (by rw [List.getElem?_map, hmk]; rfl) ?_
  refine row_with2 S h5 (i := j) e1 (by rw [List.length_map]; exact lt_of_get hk) (by rw [List.length_map]; exact z1) fun y1 Y1 m1 g1 => ?_
  refine at_v (na1.le m1) fun p3 e3 => at_v (nl1.le m1) fun p4 e4 => ?_
  refine v_idxN e4 rfl (Nat.le_trans hn (by decide)) hmv ?_
  refine row_with2 S h5 (i := j) e3 (lt_of_get hv) z2 fun y2 Y2 m2 g2 => ?_
  have M2 := Heap.le_trans m1 m2
  refine at_c (na1.le M2) fun p5 e5 => ?_
  refine v_sliceL e5 rfl rfl rfl trivial trivial (lim1 z3) fun y3 Y3 m3 _ g3 => ?_
  have g3 : Y3 y3 = some (.list cs) := g3
  have M3 := Heap.le_trans M2 m3
  walk_at "m"
  refine lay_node S h4 (ks' := ks.set j mk) (na1.le M3) (by rw [m3 _ _ (m2 _ _ g1), List.map_set]) (m3 _ _ g2) g3 fun G2 na2 f2 => ?_
  walk_at "m"
  have nl2 := (nl1.le M3).past (na1.le M3) f2 hal.symm
  have nc2 := (nc1.le M3).past (na1.le M3) f2 hac.symm
  clear e1 e2 e3 e4 e5 g1 g2 g3 m1 m2 m3 M2
  walk_at "n"
  refine at_inst nl2 rfl (at_k nl2 fun p1 e1 => ?_)
  refine v_sliceL (h' := some (n : Int)) e1 rfl rfl rfl trivial (Int.natCast_nonneg _) (lim1 (by rw [List.length_map]; exact le1 z4)) fun y1 Y1 m1 _ g1 => ?_
  refine at_v (nl2.le m1) fun p2 e2 => ?_
  refine v_sliceL (h' := some (n : Int)) e2 rfl rfl rfl trivial (Int.natCast_nonneg _) (lim1 (le1 z5)) fun y2 Y2 m2 _ g2 => ?_
  have N2 := Heap.le_trans m1 m2
  refine at_c (nl2.le N2) fun p3 e3 => ?_
  refine v_sliceL (h' := some ((n : Int) + 1)) e3 rfl rfl rfl trivial (Int.natCast_nonneg (n + 1)) (lim1 z6) fun y3 Y3 m3 _ g3 => ?_
  have N3 := Heap.le_trans N2 m3
  walk_at "m"
  refine lay_node S h4 (ks' := kl.take n) (nl2.le N3) (by rw [m3 _ _ (m2 _ _ g1), cut_to, Int.toNat_natCast, List.map_take]) (by rw [m3 _ _ g2, cut_to, Int.toNat_natCast]) (cs' := cl.take (n + 1)) g3 fun G3 nl3 f3 => ?_
  walk_at "m"
  refine n_nil (end_ret rfl (q G3 ((na2.le N3).past (nl2.le N3) f3 hal) nl3 ((nc2.le N3).past (nl2.le N3) f3 hlc.symm) ?_))
  refine (Frame.join (C := [a, l, c]) (f1.leL M5) (f2.leL M3) (fun x hx => ?_) fun x hx => ?_).join (f3.leL N3) (fun x hx => hx) fun x hx => ?_
  · rw [List.mem_singleton.mp hx]; exact .tail _ (.tail _ (.head _))
  · rw [List.mem_singleton.mp hx]; exact .head _
  · rw [List.mem_singleton.mp hx]; exact .tail _ (.head _)
theorem spec_borrowR (h4 : T 4 = some f_lay) (h5 : T 5 = some f_row_with) (h14 : T 14 = some f_borrow_from_right) {self : V} {a c r i : Nat} {ks kc kr : List Int} {vs vc vr cs cc cr : List V} {k mk : Int} {v mv : V} {Q : PV} (na : NodeAt H a ks vs cs) (nc : NodeAt H c kc vc cc) (nr : NodeAt H r kr vr cr)
    (ci : cs[i]? = some (.ref c)) (ci1 : cs[i + 1]? = some (.ref r)) (hk : ks[i]? = some k) (hv : vs[i]? = some v) (hmk : kr[0]? = some mk) (hmv : vr[0]? = some mv) (hac : a ≠ c) (har : a ≠ r) (hcr : c ≠ r)
    (z1 : ks.length ≤ 100000) (z2 : vs.length ≤ 100000) (z3 : cs.length ≤ 100001) (z4 : kr.length ≤ 100000) (z5 : vr.length ≤ 100000) (z6 : cr.length ≤ 100001) (z7 : kc.length ≤ 100000) (z8 : vc.length ≤ 100000) (z9 : cc.length ≤ 100001)
    (q : ∀ G, NodeAt G a (ks.set i mk) (vs.set i mv) cs → NodeAt G c (kc ++ [k]) (vc ++ [v]) (cc ++ cr.take 1) → NodeAt G r (kr.drop 1) (vr.drop 1) (cr.drop 1) → Frame [a, c, r] H G → Q .none G) : S.Φ 14 [self, .ref a, .int i] H Q := by
  have hi : i ≤ 100000 := Nat.le_trans (Nat.le_of_lt (lt_of_get hk)) z1
  refine S.call h14 rfl ?_
  dsimp only [f_borrow_from_right]
  walk_at "m"
  walk_at "n"
  refine at_c na fun p hp => ?_
  refine v_idxN hp rfl (Nat.le_trans hi (by decide)) ci ?_
  walk_at "n"
  refine at_c na fun p hp => ?_
  refine v_idxN (k := i + 1) hp rfl (Nat.le_trans (Nat.succ_le_succ hi) (by decide)) ci1 ?_
  walk_at "n"
  refine at_c nr fun p hp => ?_
  refine v_sliceL (h' := some 1) hp rfl rfl rfl trivial (show (0 : Int) ≤ 1 by decide) (lim1 z6) fun y0 Y0 m0 _ g0 => ?_
  have g0 : Y0 y0 = some (.list (cr.take 1)) := g0
  walk_at "n"
  refine at_inst (nc.le m0) rfl (at_k (nc.le m0) fun p1 e1 => at_k (na.le m0) fun p2 e2 => ?_)
  refine v_idxN (v := .int k) e2 rfl (Nat.le_trans hi (by decide)) (by rw [List.getElem?_map, hk]; rfl) ?_
  refine v_allocL fun y1 Y1 m1 _ g1 => ?_
  refine v_addLL (m1 _ _ e1) g1 (zadd (zmap z7) (by simp)) fun y2 Y2 m2 _ g2 => ?_
  have M2 := Heap.le_trans m0 (Heap.le_trans m1 m2)
  refine at_v (nc.le M2) fun p3 e3 => at_v (na.le M2) fun p4 e4 => ?_
  refine v_idxN e4 rfl (Nat.le_trans hi (by decide)) hv ?_
  refine v_allocL fun y3 Y3 m3 _ g3 => ?_
  refine v_addLL (m3 _ _ e3) g3 (zadd (Nat.le_trans z8 (by decide)) (by simp)) fun y4 Y4 m4 _ g4 => ?_
  have M4 := Heap.le_trans M2 (Heap.le_trans m3 m4)
  have g0 := m4 _ _ (m3 _ _ (m2 _ _ (m1 _ _ g0)))
  have g2 := m4 _ _ (m3 _ _ g2)
  clear e1 e2 e3 e4 g1 g3 m0 m1 m2 m3 m4 M2
  refine at_c (nc.le M4) fun p5 e5 => ?_
  refine v_addLL e5 g0 (zadd (Nat.le_trans z9 (by decide)) (by rw [List.length_take]; (first | lia | omega))) fun y5 Y5 m5 _ g5 => ?_
  have M5 := Heap.le_trans M4 m5
  walk_at "m"
  refine lay_node S h4 (ks' := kc ++ [k]) (nc.le M5) (by rw [m5 _ _ g2]; simp) (m5 _ _ g4) g5 fun G1 nc1 f1 => ?_
  walk_at "m"
  have na1 := (na.le M5).past (nc.le M5) f1 hac
  have nr1 := (nr.le M5).past (nc.le M5) f1 hcr.symm
  clear g2 g4 g5 g0 e5 m5 M4
  walk_at "n"
  refine at_inst na1 rfl (at_k na1 fun p1 e1 => at_k nr1 fun p2 e2 => ?_)
  refine v_idxN (k := 0) (v := .int mk) e2 rfl (by decide) (by rw [List.getElem?_map, hmk]; rfl) ?_
  refine row_with2 S h5 (i := i) e1 (by rw [List.length_map]; exact lt_of_get hk) (by rw [List.length_map]; exact z1) fun y1 Y1 m1 g1 => ?_
  refine at_v (na1.le m1) fun p3 e3 => at_v (nr1.le m1) fun p4 e4 => ?_
  refine v_idxN (k := 0) e4 rfl (by decide) hmv ?_
  refine row_with2 S h5 (i := i) e3 (lt_of_get hv) z2 fun y2 Y2 m2 g2 => ?_
  have M2 := Heap.le_trans m1 m2
  refine at_c (na1.le M2) fun p5 e5 => ?_
  refine v_sliceL e5 rfl rfl rfl trivial trivial (lim1 z3) fun y3 Y3 m3 _ g3 => ?_
  have g3 : Y3 y3 = some (.list cs) := g3
  have M3 := Heap.le_trans M2 m3
  walk_at "m"
  refine lay_node S h4 (ks' := ks.set i mk) (na1.le M3) (by rw [m3 _ _ (m2 _ _ g1), List.map_set]) (m3 _ _ g2) g3 fun G2 na2 f2 => ?_
  walk_at "m"
  have nr2 := (nr1.le M3).past (na1.le M3) f2 har.symm
  have nc2 := (nc1.le M3).past (na1.le M3) f2 hac.symm
  clear e1 e2 e3 e4 e5 g1 g2 g3 m1 m2 m3 M2
  walk_at "n"
  refine at_inst nr2 rfl (at_k nr2 fun p1 e1 => ?_)
  refine v_sliceL (l := some 1) e1 rfl rfl rfl (show (0 : Int) ≤ 1 by decide) trivial (lim1 (by rw [List.length_map]; exact le1 z4)) fun y1 Y1 m1 _ g1 => ?_
  refine at_v (nr2.le m1) fun p2 e2 => ?_
  refine v_sliceL (l := some 1) e2 rfl rfl rfl (show (0 : Int) ≤ 1 by decide) trivial (lim1 (le1 z5)) fun y2 Y2 m2 _ g2 => ?_
  have N2 := Heap.le_trans m1 m2
  refine at_c (nr2.le N2) fun p3 e3 => ?_
  refine v_sliceL (l := some 1) e3 rfl rfl rfl (show (0 : Int) ≤ 1 by decide) trivial (lim1 z6) fun y3 Y3 m3 _ g3 => ?_
  have N3 := Heap.le_trans N2 m3
  walk_at "m"
  refine lay_node S h4 (ks' := kr.drop 1) (vs' := vr.drop 1) (cs' := cr.drop 1) (nr2.le N3) (by rw [m3 _ _ (m2 _ _ g1), List.map_drop]; rfl) (m3 _ _ g2) g3 fun G3 nr3 f3 => ?_
  walk_at "m"
  refine n_nil (end_ret rfl (q G3 ((na2.le N3).past (nr2.le N3) f3 har) ((nc2.le N3).past (nr2.le N3) f3 hcr) nr3 ?_))
  refine (Frame.join (C := [a, c, r]) (f1.leL M5) (f2.leL M3) (fun x hx => ?_) fun x hx => ?_).join (f3.leL N3) (fun x hx => hx) fun x hx => ?_
  · rw [List.mem_singleton.mp hx]; exact .tail _ (.head _)
  · rw [List.mem_singleton.mp hx]; exact .head _
  · rw [List.mem_singleton.mp hx]; exact .tail _ (.tail _ (.head _))
end
end ML
namespace ML
theorem inoL_app {a b : List Tree} : inoL (a ++ b) = inoL a ++ inoL b := by rw [inoL_map, inoL_map, inoL_map, List.map_append]
theorem inoL_len {a : List Tree} : (inoL a).length = a.length := by rw [inoL_map, List.length_map]
section
variable {a : Nat} {K1 K2 : List Int} {V1 V2 : List V} {C1 C2 : List Tree} {k : Int} {v : V} {L R M : Tree}
noncomputable abbrev lpart (K1 : List Int) (V1 : List V) (C1 : List Tree) : List KV := weaveL (inoL C1) (K1.zip V1)
noncomputable abbrev rpart (K2 : List Int) (V2 : List V) (C2 : List Tree) : List KV := weaveR (K2.zip V2) (inoL C2)
theorem ino_one (h1 : V1.length = K1.length) (h2 : C1.length = K1.length) : ino (.node a (K1 ++ K2) (V1 ++ V2) (C1 ++ M :: C2)) = lpart K1 V1 C1 ++ (ino M ++ rpart K2 V2 C2) := by
  show weave (inoL (C1 ++ M :: C2)) ((K1 ++ K2).zip (V1 ++ V2)) = _
  rw [inoL_app, List.zip_append h1.symm]
  exact weave_split (by rw [inoL_len, h2, zip_len h1])
theorem ino_two (h1 : V1.length = K1.length) (h2 : C1.length = K1.length) : ino (.node a (K1 ++ k :: K2) (V1 ++ v :: V2) (C1 ++ L :: R :: C2)) = lpart K1 V1 C1 ++ (ino L ++ (k, v) :: (ino R ++ rpart K2 V2 C2)) := by
  rw [ino_one h1 h2]
  show _ ++ (_ ++ (k, v) :: weave (inoL (R :: C2)) (K2.zip V2)) = _
  rw [show inoL (R :: C2) = ino R :: inoL C2 from rfl, weave_cons]
end
theorem merge_kid {b e : Nat} {kb ke : List Int} {vb ve : List V} {cb ce : List Tree} {k : Int} {v : V} (hv : vb.length = kb.length) (hc : (cb = [] ∧ ce = []) ∨ cb.length = kb.length + 1) :
    ino (.node b (kb ++ [k] ++ ke) (vb ++ [v] ++ ve) (cb ++ ce)) = ino (.node b kb vb cb) ++ (k, v) :: ino (.node e ke ve ce) := by
  show weave (inoL (cb ++ ce)) ((kb ++ [k] ++ ke).zip (vb ++ [v] ++ ve)) = weave (inoL cb) (kb.zip vb) ++ (k, v) :: weave (inoL ce) (ke.zip ve)
  rw [List.append_assoc, List.append_assoc, List.zip_append hv.symm]
  show weave (inoL (cb ++ ce)) (kb.zip vb ++ (k, v) :: ke.zip ve) = _
  rcases hc with ⟨rfl, rfl⟩ | hc
  · rfl
  · rw [inoL_app]
    exact weave_cat (by rw [inoL_len, zip_len hv, hc])
theorem take_last {α : Type} {l : List α} {n : Nat} {x : α} (hl : l.length = n + 1) (h : l[n]? = some x) : l = l.take n ++ [x] := by
  have := get_split h
  rw [List.drop_of_length_le (Nat.le_of_eq hl)] at this
  exact this
theorem borrowL_kids {l c n : Nat} {kl kc : List Int} {vl vc : List V} {cl cc : List Tree} {k mk : Int} {v mv : V} (hv : vl.length = kl.length) (hl : kl.length = n + 1) (hmk : kl[n]? = some mk) (hmv : vl[n]? = some mv) (hc : (cl = [] ∧ cc = []) ∨ cl.length = kl.length + 1) :
    ino (.node l (kl.take n) (vl.take n) (cl.take (n + 1))) ++ (mk, mv) :: ino (.node c (k :: kc) (v :: vc) (cl.drop (n + 1) ++ cc)) = ino (.node l kl vl cl) ++ (k, v) :: ino (.node c kc vc cc) := by
  have e1 := take_last hl hmk
  have e2 := take_last (hv.trans hl) hmv
  have e3 : kl.zip vl = (kl.take n).zip (vl.take n) ++ [(mk, mv)] := by
    conv => lhs; rw [e1, e2]
    rw [List.zip_append (by rw [List.length_take, List.length_take, hv])]; rfl
  have hz : ((kl.take n).zip (vl.take n)).length = n := by rw [List.length_zip, List.length_take, List.length_take]; (first | lia | omega)
  show weave (inoL (cl.take (n + 1))) ((kl.take n).zip (vl.take n)) ++ (mk, mv) :: weave (inoL (cl.drop (n + 1) ++ cc)) ((k, v) :: kc.zip vc) = weave (inoL cl) (kl.zip vl) ++ (k, v) :: weave (inoL cc) (kc.zip vc)
  rw [e3]
  rcases hc with ⟨rfl, rfl⟩ | hc
  · simp [inoL, weave]
  · have hg : cl[n + 1]? = some (cl[n + 1]'(by (first | lia | omega))) := List.getElem?_eq_getElem _
    have eg := take_last (by rw [hc, hl]) hg
    have ed : cl.drop (n + 1) = [cl[n + 1]'(by (first | lia | omega))] := by rw [drop_cons hg, List.drop_of_length_le (by (first | lia | omega))]
    rw [ed]
    have e4 : inoL cl = inoL (cl.take (n + 1)) ++ [ino (cl[n + 1]'(by (first | lia | omega)))] := by
      conv => lhs; rw [eg]
      rw [inoL_app]; rfl
    rw [e4, weave_cat (by rw [inoL_len, List.length_take, hz]; (first | lia | omega))]
    simp [inoL, weave]
theorem borrowR_kids {r c : Nat} {kr kc : List Int} {vr vc : List V} {cr cc : List Tree} {k mk : Int} {v mv : V} (hvc : vc.length = kc.length) (hmk : kr[0]? = some mk) (hmv : vr[0]? = some mv) (hc : (cr = [] ∧ cc = []) ∨ (cc.length = kc.length + 1 ∧ cr ≠ [])) :
    ino (.node c (kc ++ [k]) (vc ++ [v]) (cc ++ cr.take 1)) ++ (mk, mv) :: ino (.node r (kr.drop 1) (vr.drop 1) (cr.drop 1)) = ino (.node c kc vc cc) ++ (k, v) :: ino (.node r kr vr cr) := by
  match kr, hmk with
  | mk' :: kr, h =>
    match vr, hmv with
    | mv' :: vr, h' =>
      cases h; cases h'
      show weave (inoL (cc ++ cr.take 1)) ((kc ++ [k]).zip (vc ++ [v])) ++ (mk, mv) :: weave (inoL (cr.drop 1)) (kr.zip vr) = weave (inoL cc) (kc.zip vc) ++ (k, v) :: weave (inoL cr) ((mk, mv) :: kr.zip vr)
      rw [List.zip_append hvc.symm]
      rcases hc with ⟨rfl, rfl⟩ | ⟨hc, hn⟩
      · simp [inoL, weave]
      · match cr, hn with
        | g :: cr, _ =>
          rw [inoL_app, show [k].zip [v] = [(k, v)] from rfl, weave_cat (by rw [inoL_len, zip_len hvc, hc])]
          simp [inoL, weave]
noncomputable def KidOk (D h : Nat) (c : Tree) : Prop := Sh D h c ∧ D - 1 ≤ c.keys.length
theorem kids_cases {D h : Nat} {b : Nat} {kb : List Int} {vb : List V} {cb : List Tree} (s : Sh D h (.node b kb vb cb)) : vb.length = kb.length ∧ kb.length ≤ 2 * D - 1 ∧ ((h = 0 ∧ cb = []) ∨ (0 < h ∧ cb.length = kb.length + 1)) := by
  cases h with
  | zero => exact ⟨s.2.1, s.2.2, .inl ⟨rfl, s.1⟩⟩
  | succ h => exact ⟨s.2.1, s.2.2.1, .inr ⟨Nat.succ_pos _, s.1⟩⟩
theorem sh_make {D h b : Nat} {kb : List Int} {vb : List V} {cb : List Tree} (h1 : vb.length = kb.length) (h2 : kb.length ≤ 2 * D - 1) (h3 : (h = 0 ∧ cb = []) ∨ (0 < h ∧ cb.length = kb.length + 1)) (h4 : ∀ h', h = h' + 1 → ∀ c ∈ cb, KidOk D h' c) : Sh D h (.node b kb vb cb) := by
  cases h with
  | zero => rcases h3 with ⟨_, q⟩ | ⟨q, _⟩; exact ⟨q, h1, h2⟩; exact absurd q (Nat.lt_irrefl _)
  | succ h => rcases h3 with ⟨q, _⟩ | ⟨_, q⟩; cases q; exact ⟨q, h1, h2, h4 h rfl⟩
theorem sh_kids {D h b : Nat} {kb : List Int} {vb : List V} {cb : List Tree} (s : Sh D h (.node b kb vb cb)) : ∀ h', h = h' + 1 → ∀ c ∈ cb, KidOk D h' c := by
  intro h' e; subst e; exact s.2.2.2
theorem merge_sh {D h b e : Nat} {kb ke : List Int} {vb ve : List V} {cb ce : List Tree} {k : Int} {v : V} (s1 : Sh D h (.node b kb vb cb)) (s2 : Sh D h (.node e ke ve ce)) (hl : kb.length + ke.length + 1 ≤ 2 * D - 1) : Sh D h (.node b (kb ++ [k] ++ ke) (vb ++ [v] ++ ve) (cb ++ ce)) := by
  obtain ⟨v1, _, c1⟩ := kids_cases s1
  obtain ⟨v2, _, c2⟩ := kids_cases s2
  refine sh_make ?_ ?_ ?_ ?_
  · simp only [List.length_append, List.length_cons, List.length_nil]; (first | lia | omega)
  · simp only [List.length_append, List.length_cons, List.length_nil]; (first | lia | omega)
  · rcases c1 with ⟨q, rfl⟩ | ⟨q, c1⟩
    · rcases c2 with ⟨_, rfl⟩ | ⟨q2, _⟩
      · exact .inl ⟨q, rfl⟩
      · (first | lia | omega)
    · rcases c2 with ⟨q2, _⟩ | ⟨_, c2⟩
      · (first | lia | omega)
      · exact .inr ⟨q, by simp only [List.length_append, List.length_cons, List.length_nil]; (first | lia | omega)⟩
  · intro h' e c hc
    rcases List.mem_append.mp hc with q | q
    · exact sh_kids s1 h' e c q
    · exact sh_kids s2 h' e c q
theorem borrowL_sh {D h l c n : Nat} {kl kc : List Int} {vl vc : List V} {cl cc : List Tree} {k : Int} {v : V} (s1 : Sh D h (.node l kl vl cl)) (s2 : Sh D h (.node c kc vc cc)) (hl : kl.length = n + 1) (hc : kc.length + 1 ≤ 2 * D - 1) :
    Sh D h (.node l (kl.take n) (vl.take n) (cl.take (n + 1))) ∧ Sh D h (.node c (k :: kc) (v :: vc) (cl.drop (n + 1) ++ cc)) := by
  obtain ⟨v1, b1, c1⟩ := kids_cases s1
  obtain ⟨v2, _, c2⟩ := kids_cases s2
  have lk : (kl.take n).length = n := by rw [List.length_take]; (first | lia | omega)
  have lv : (vl.take n).length = n := by rw [List.length_take]; (first | lia | omega)
  refine ⟨sh_make (by rw [lk, lv]) (by (first | lia | omega)) ?_ fun h' e x hx => sh_kids s1 h' e x (List.mem_of_mem_take hx), sh_make (by simp only [List.length_cons]; (first | lia | omega)) (by simp only [List.length_cons]; (first | lia | omega)) ?_ fun h' e x hx => ?_⟩
  · rcases c1 with ⟨q, rfl⟩ | ⟨q, c1⟩
    · exact .inl ⟨q, by simp⟩
    · exact .inr ⟨q, by rw [List.length_take, lk]; (first | lia | omega)⟩
  · rcases c1 with ⟨q, rfl⟩ | ⟨q, c1⟩
    · rcases c2 with ⟨_, rfl⟩ | ⟨q2, _⟩
      · exact .inl ⟨q, by simp⟩
      · (first | lia | omega)
    · rcases c2 with ⟨q2, _⟩ | ⟨_, c2⟩
      · (first | lia | omega)
      · exact .inr ⟨q, by simp only [List.length_append, List.length_drop, List.length_cons]; (first | lia | omega)⟩
  · rcases List.mem_append.mp hx with q | q
    · exact sh_kids s1 h' e x (List.mem_of_mem_drop q)
    · exact sh_kids s2 h' e x q
theorem borrowR_sh {D h r c : Nat} {kr kc : List Int} {vr vc : List V} {cr cc : List Tree} {k : Int} {v : V} (s1 : Sh D h (.node c kc vc cc)) (s2 : Sh D h (.node r kr vr cr)) (hl : 1 ≤ kr.length) (hc : kc.length + 1 ≤ 2 * D - 1) :
    Sh D h (.node c (kc ++ [k]) (vc ++ [v]) (cc ++ cr.take 1)) ∧ Sh D h (.node r (kr.drop 1) (vr.drop 1) (cr.drop 1)) := by
  obtain ⟨v1, b1, c1⟩ := kids_cases s1
  obtain ⟨v2, _, c2⟩ := kids_cases s2
  refine ⟨sh_make (by simp only [List.length_append, List.length_cons, List.length_nil]; (first | lia | omega)) (by simp only [List.length_append, List.length_cons, List.length_nil]; (first | lia | omega)) ?_ fun h' e x hx => ?_, sh_make (by rw [List.length_drop, List.length_drop, v2]) (by rw [List.length_drop]; (first | lia | omega)) ?_ fun h' e x hx => sh_kids s2 h' e x (List.mem_of_mem_drop hx)⟩
  · rcases c1 with ⟨q, rfl⟩ | ⟨q, c1⟩
    · rcases c2 with ⟨_, rfl⟩ | ⟨q2, _⟩
      · exact .inl ⟨q, by simp⟩
      · (first | lia | omega)
    · rcases c2 with ⟨q2, _⟩ | ⟨_, c2⟩
      · (first | lia | omega)
      · exact .inr ⟨q, by simp only [List.length_append, List.length_take, List.length_cons, List.length_nil]; (first | lia | omega)⟩
  · rcases List.mem_append.mp hx with q | q
    · exact sh_kids s1 h' e x q
    · exact sh_kids s2 h' e x (List.mem_of_mem_take q)
  · rcases c2 with ⟨q, rfl⟩ | ⟨q, c2⟩
    · exact .inl ⟨q, by simp⟩
    · exact .inr ⟨q, by rw [List.length_drop, List.length_drop]; (first | lia | omega)⟩
theorem delL_app {a b : List KV} {k : Int} : delL (a ++ b) k = delL a k ++ delL b k := List.filter_append ..
theorem delL_none {l : List KV} {k : Int} (h : ∀ x ∈ l, x.1 ≠ k) : delL l k = l := filt_all fun x hx => decide_eq_true (h x hx)
theorem delL_mid {X M Y : List KV} {k : Int} {w : V} (hs : Srt (X ++ (M ++ Y))) (hm : (k, w) ∈ M) : delL (X ++ (M ++ Y)) k = X ++ (delL M k ++ Y) := by
  have h1 := List.pairwise_append.mp hs
  have h2 := List.pairwise_append.mp h1.2.1
  have e1 : delL X k = X := delL_none fun x hx q => by
    have := h1.2.2 x hx (k, w) (List.mem_append_left _ hm)
    rw [q] at this; exact absurd this (Int.lt_irrefl _)
  have e2 : delL Y k = Y := delL_none fun x hx q => by
    have := h2.2.2 (k, w) hm x hx
    rw [q] at this; exact absurd this (Int.lt_irrefl _)
  rw [delL_app, delL_app, e1, e2]
theorem delL_one {X Y : List KV} {k : Int} {w : V} (hs : Srt (X ++ (k, w) :: Y)) : delL (X ++ (k, w) :: Y) k = X ++ Y := by
  have := delL_mid (X := X) (M := [(k, w)]) (Y := Y) hs (.head _)
  simpa [delL] using this
theorem two_upd {G G' : Heap} {a b e : Nat} {ks ks' kb ke : List Int} {vs vs' vb ve : List V} {C1 C2 cb ce N : List Tree} (h : Holds G (.node a ks vs (C1 ++ .node b kb vb cb :: .node e ke ve ce :: C2))) (n : (Tree.node a ks vs (C1 ++ .node b kb vb cb :: .node e ke ve ce :: C2)).addrs.Nodup)
    (f : Frame [a, b, e] G G') (na : NodeAt G' a ks' vs' (refsOf (C1 ++ (N ++ C2)))) (hN : ∀ t ∈ N, ∃ x k v kids, t = .node x k v kids ∧ NodeAt G' x k v (refsOf kids) ∧ ∀ c ∈ kids, c ∈ cb ∨ c ∈ ce)
    (sub : ∀ x ∈ addrsL N, x ∈ b :: (addrsL cb ++ e :: addrsL ce)) (ndN : (addrsL N).Nodup) : Upd G G' (.node a ks vs (C1 ++ .node b kb vb cb :: .node e ke ve ce :: C2)) (.node a ks' vs' (C1 ++ (N ++ C2))) := by
  obtain ⟨⟨_, _, _, ha, _⟩, h2⟩ := h
  have hk : ∀ t ∈ C1 ++ .node b kb vb cb :: .node e ke ve ce :: C2, Holds G t := HoldsL.iff.mp h2
  obtain ⟨⟨_, _, _, hb, _⟩, hcb⟩ : Holds G (.node b kb vb cb) := hk _ (by simp)
  obtain ⟨⟨_, _, _, he, _⟩, hce⟩ : Holds G (.node e ke ve ce) := hk _ (by simp)
  have e0 : addrsL (C1 ++ .node b kb vb cb :: .node e ke ve ce :: C2) = addrsL C1 ++ ((b :: (addrsL cb ++ e :: addrsL ce)) ++ addrsL C2) := by
    rw [addrsL_app]
    show _ ++ ((b :: addrsL cb) ++ ((e :: addrsL ce) ++ addrsL C2)) = _
    simp
  have e1 : addrsL (C1 ++ (N ++ C2)) = addrsL C1 ++ (addrsL N ++ addrsL C2) := by rw [addrsL_app, addrsL_app]
  rw [addrs_node, e0] at n
  obtain ⟨n1, n2⟩ := List.nodup_cons.mp n
  obtain ⟨nd1, n3, d1⟩ := List.nodup_append.mp n2
  obtain ⟨ndM, nd2, d2⟩ := List.nodup_append.mp n3
  obtain ⟨nb, n4⟩ := List.nodup_cons.mp ndM
  obtain ⟨ndb, n5, d3⟩ := List.nodup_append.mp n4
  obtain ⟨nne, nde⟩ := List.nodup_cons.mp n5
  have iA : Insts [a, b, e] G := fun x hx => by
    simp only [List.mem_cons, List.not_mem_nil, or_false] at hx
    rcases hx with rfl | rfl | rfl
    · exact ⟨_, _, ha⟩
    · exact ⟨_, _, hb⟩
    · exact ⟨_, _, he⟩
  have out : ∀ x, x ≠ a → x ≠ b → x ≠ e → x ∉ [a, b, e] := fun x h1 h2 h3 q => by simp [h1, h2, h3] at q
  have bM : b ∈ b :: (addrsL cb ++ e :: addrsL ce) := .head _
  have eM : e ∈ b :: (addrsL cb ++ e :: addrsL ce) := .tail _ (List.mem_append_right _ (.head _))
  have inA : ∀ x, x ∈ addrsL C1 ++ ((b :: (addrsL cb ++ e :: addrsL ce)) ++ addrsL C2) → x ≠ a := fun x hx q => n1 (q ▸ hx)
  have g1 : HoldsL G' C1 := HoldsL.frame f iA (HoldsL.iff.mpr fun t ht => hk t (List.mem_append_left _ ht)) fun x hx => out x (inA x (List.mem_append_left _ hx)) (d1 x hx b (List.mem_append_left _ bM)) (d1 x hx e (List.mem_append_left _ eM))
  have g2 : HoldsL G' C2 := HoldsL.frame f iA (HoldsL.iff.mpr fun t ht => hk t (List.mem_append_right _ (.tail _ (.tail _ ht)))) fun x hx => out x (inA x (List.mem_append_right _ (List.mem_append_right _ hx))) (fun q => d2 b bM x hx q.symm) (fun q => d2 e eM x hx q.symm)
  have g3 : HoldsL G' cb := HoldsL.frame f iA hcb fun x hx => out x (inA x (List.mem_append_right _ (List.mem_append_left _ (.tail _ (List.mem_append_left _ hx))))) (fun q => nb (List.mem_append_left _ (q ▸ hx))) (fun q => d3 x hx e (.head _) q)
  have g4 : HoldsL G' ce := HoldsL.frame f iA hce fun x hx => out x (inA x (List.mem_append_right _ (List.mem_append_left _ (.tail _ (List.mem_append_right _ (.tail _ hx)))))) (fun q => nb (List.mem_append_right _ (.tail _ (q ▸ hx)))) (fun q => nne (q ▸ hx))
  refine ⟨rfl, ⟨na, HoldsL.iff.mpr fun t ht => ?_⟩, ?_, fun x hx => .inl ?_, fun x o ex hx => f x o ex fun q => hx ?_⟩
  · rcases List.mem_append.mp ht with q | q
    · exact HoldsL.iff.mp g1 t q
    · rcases List.mem_append.mp q with q | q
      · obtain ⟨x, k, v, kids, rfl, hx, hs⟩ := hN t q
        exact ⟨hx, HoldsL.iff.mpr fun c hc => (hs c hc).elim (HoldsL.iff.mp g3 c) (HoldsL.iff.mp g4 c)⟩
      · exact HoldsL.iff.mp g2 t q
  · rw [addrs_node, e1]
    refine List.nodup_cons.mpr ⟨fun q => n1 ?_, List.nodup_append.mpr ⟨nd1, List.nodup_append.mpr ⟨ndN, nd2, fun x hx y hy => d2 x (sub x hx) y hy⟩, fun x hx y hy => d1 x hx y ?_⟩⟩
    · rcases List.mem_append.mp q with q | q
      · exact List.mem_append_left _ q
      · rcases List.mem_append.mp q with q | q
        · exact List.mem_append_right _ (List.mem_append_left _ (sub _ q))
        · exact List.mem_append_right _ (List.mem_append_right _ q)
    · rcases List.mem_append.mp hy with q | q
      · exact List.mem_append_left _ (sub _ q)
      · exact List.mem_append_right _ q
  · rw [addrs_node, e1] at hx
    rw [addrs_node, e0]
    rcases List.mem_cons.mp hx with rfl | q
    · exact .head _
    · rcases List.mem_append.mp q with q | q
      · exact .tail _ (List.mem_append_left _ q)
      · rcases List.mem_append.mp q with q | q
        · exact .tail _ (List.mem_append_right _ (List.mem_append_left _ (sub _ q)))
        · exact .tail _ (List.mem_append_right _ (List.mem_append_right _ q))
  · rw [addrs_node, e0]
    simp only [List.mem_cons, List.not_mem_nil, or_false] at q
    rcases q with rfl | rfl | rfl
    · exact .head _
    · exact .tail _ (List.mem_append_right _ (List.mem_append_left _ bM))
    · exact .tail _ (List.mem_append_right _ (List.mem_append_left _ eM))
theorem parts_of {ks : List Int} {vs : List V} {cs : List Tree} {i : Nat} (hv : vs.length = ks.length) (hc : cs.length = ks.length + 1) (hi : i < ks.length) :
    ∃ K1 k K2 V1 v V2 C1 L R C2, ks = K1 ++ k :: K2 ∧ vs = V1 ++ v :: V2 ∧ cs = C1 ++ L :: R :: C2 ∧ K1.length = i ∧ V1.length = i ∧ C1.length = i := by
  have e1 : ks[i]? = some (ks[i]'hi) := List.getElem?_eq_getElem _
  have e2 : vs[i]? = some (vs[i]'(by (first | lia | omega))) := List.getElem?_eq_getElem _
  have e3 : cs[i]? = some (cs[i]'(by (first | lia | omega))) := List.getElem?_eq_getElem _
  have e4 : cs[i + 1]? = some (cs[i + 1]'(by (first | lia | omega))) := List.getElem?_eq_getElem _
  have e5 := get_split e3
  rw [drop_cons e4] at e5
  exact ⟨ks.take i, _, ks.drop (i + 1), vs.take i, _, vs.drop (i + 1), cs.take i, _, _, _, get_split e1, get_split e2, e5, by rw [List.length_take]; (first | lia | omega), by rw [List.length_take]; (first | lia | omega), by rw [List.length_take]; (first | lia | omega)⟩
theorem del_at {α : Type} {A B : List α} {x : α} {i : Nat} (h : A.length = i) : del (A ++ x :: B) i = A ++ B := by
  subst h; unfold del; simp
theorem set_at {α : Type} {A B : List α} {x y : α} {i : Nat} (h : A.length = i) : (A ++ x :: B).set i y = A ++ y :: B := by
  subst h; simp
theorem get_at {α : Type} {A B : List α} {x : α} {i : Nat} (h : A.length = i) : (A ++ x :: B)[i]? = some x := by
  subst h; simp
theorem get_at1 {α : Type} {A B : List α} {x y : α} {i : Nat} (h : A.length = i) : (A ++ x :: y :: B)[i + 1]? = some y := by
  subst h; simp
end ML
namespace ML
structure Filled (D h : Nat) (G G' : Heap) (t t' c c' : Tree) (i : Nat) : Prop where
  upd : Upd G G' t t'
  sh : Sh D (h + 1) t'
  ino : ino t' = ino t
  len : t.keys.length ≤ t'.keys.length + 1
  kid : t'.kids[i]? = some c'
  full : D ≤ c'.keys.length
  mem : ∀ x ∈ ML.ino c, x ∈ ML.ino c'
theorem node_sizes {D h a : Nat} {ks : List Int} {vs : List V} {cs : List Tree} (s : Sh D h (.node a ks vs cs)) (z : (ino (.node a ks vs cs)).length ≤ 50000) : ks.length ≤ 50000 ∧ vs.length ≤ 50000 ∧ cs.length ≤ 50001 := by
  refine absG fun Cg hCg => ?_
  obtain ⟨h1, _, h2⟩ := kids_cases s
  have := keys_le (t := .node a ks vs cs) h1
  have : ks.length ≤ 50000 := Nat.le_trans this z
  refine hCg ?_; clear hCg
  refine ⟨this, by (first | lia | omega), ?_⟩
  rcases h2 with ⟨_, rfl⟩ | ⟨_, q⟩
  · exact Nat.zero_le _
  · (first | lia | omega)
theorem refs_at {C1 C2 : List Tree} {L : Tree} {i : Nat} (h : C1.length = i) : (refsOf (C1 ++ L :: C2))[i]? = some (.ref L.addr) := by
  unfold refsOf; rw [List.getElem?_map, get_at h]; rfl
theorem refs_at1 {C1 C2 : List Tree} {L R : Tree} {i : Nat} (h : C1.length = i) : (refsOf (C1 ++ L :: R :: C2))[i + 1]? = some (.ref R.addr) := by
  unfold refsOf; rw [List.getElem?_map, get_at1 h]; rfl
section
variable {T : Nat → Option Fn} (S : Sys T)
variable {D h a i : Nat} {K1 K2 : List Int} {V1 V2 : List V} {C1 C2 : List Tree} {k : Int} {v : V} {L R : Tree} {G : Heap}
structure Two (D h : Nat) (G : Heap) (a i : Nat) (K1 K2 : List Int) (V1 V2 : List V) (C1 C2 : List Tree) (k : Int) (v : V) (L R : Tree) : Prop where
  hh : Holds G (.node a (K1 ++ k :: K2) (V1 ++ v :: V2) (C1 ++ L :: R :: C2))
  nd : (Tree.node a (K1 ++ k :: K2) (V1 ++ v :: V2) (C1 ++ L :: R :: C2)).addrs.Nodup
  sh : Sh D (h + 1) (.node a (K1 ++ k :: K2) (V1 ++ v :: V2) (C1 ++ L :: R :: C2))
  lk : K1.length = i
  lv : V1.length = i
  lc : C1.length = i
  z : (ino (.node a (K1 ++ k :: K2) (V1 ++ v :: V2) (C1 ++ L :: R :: C2))).length ≤ 50000
theorem Two.ne (w : Two D h G a i K1 K2 V1 V2 C1 C2 k v L R) : a ≠ L.addr ∧ a ≠ R.addr ∧ L.addr ≠ R.addr := by
  have n := w.nd
  have e : addrsL (C1 ++ L :: R :: C2) = addrsL C1 ++ (L.addrs ++ (R.addrs ++ addrsL C2)) := by rw [addrsL_app]; rfl
  rw [addrs_node, e] at n
  obtain ⟨n1, n2⟩ := List.nodup_cons.mp n
  have h1 : L.addr ∈ L.addrs := addrs_pos
  have h2 : R.addr ∈ R.addrs := addrs_pos
  refine ⟨fun q => n1 (List.mem_append_right _ (List.mem_append_left _ (q ▸ h1))), fun q => n1 (List.mem_append_right _ (List.mem_append_right _ (List.mem_append_left _ (q ▸ h2)))), fun q => ?_⟩
  exact (List.nodup_append.mp (List.nodup_append.mp n2).2.1).2.2 _ h1 _ (List.mem_append_left _ h2) q
theorem Two.kids (w : Two D h G a i K1 K2 V1 V2 C1 C2 k v L R) : Holds G L ∧ Holds G R ∧ KidOk D h L ∧ KidOk D h R ∧ (ino L).length ≤ 50000 ∧ (ino R).length ≤ 50000 := by
  have e := ino_two (a := a) (K2 := K2) (V2 := V2) (C2 := C2) (k := k) (v := v) (L := L) (R := R) (w.lv.trans w.lk.symm) (w.lc.trans w.lk.symm)
  have z := w.z
  rw [e] at z
  simp only [List.length_append, List.length_cons] at z
  exact ⟨HoldsL.iff.mp w.hh.2 L (by simp), HoldsL.iff.mp w.hh.2 R (by simp), w.sh.2.2.2 L (by simp), w.sh.2.2.2 R (by simp), by (first | lia | omega), by (first | lia | omega)⟩
theorem one_sh {M : Tree} (w : Two D h G a i K1 K2 V1 V2 C1 C2 k v L R) (m : KidOk D h M) : Sh D (h + 1) (.node a (K1 ++ K2) (V1 ++ V2) (C1 ++ ([M] ++ C2))) := by
  refine absG fun Cg hCg => ?_
  obtain ⟨s1, s2, s3, s4⟩ := w.sh
  refine hCg ?_; clear hCg
  simp only [List.length_append, List.length_cons] at s1 s2 s3
  refine ⟨by simp only [List.length_append, List.length_cons, List.length_nil]; (first | lia | omega), by simp only [List.length_append]; (first | lia | omega), by simp only [List.length_append]; (first | lia | omega), fun c hc => ?_⟩
  rcases List.mem_append.mp hc with q | q
  · exact s4 c (List.mem_append_left _ q)
  · rcases List.mem_cons.mp q with rfl | q
    · exact m
    · exact s4 c (List.mem_append_right _ (.tail _ (.tail _ q)))
theorem two_sh {k' : Int} {v' : V} {L' R' : Tree} (w : Two D h G a i K1 K2 V1 V2 C1 C2 k v L R) (m : KidOk D h L') (m' : KidOk D h R') : Sh D (h + 1) (.node a (K1 ++ k' :: K2) (V1 ++ v' :: V2) (C1 ++ ([L', R'] ++ C2))) := by
  refine absG fun Cg hCg => ?_
  obtain ⟨s1, s2, s3, s4⟩ := w.sh
  refine hCg ?_; clear hCg
  simp only [List.length_append, List.length_cons] at s1 s2 s3
  refine ⟨by simp only [List.length_append, List.length_cons, List.length_nil]; (first | lia | omega), by simp only [List.length_append, List.length_cons]; (first | lia | omega), by simp only [List.length_append, List.length_cons]; (first | lia | omega), fun c hc => ?_⟩
  rcases List.mem_append.mp hc with q | q
  · exact s4 c (List.mem_append_left _ q)
  · rcases List.mem_cons.mp q with rfl | q
    · exact m
    · rcases List.mem_cons.mp q with rfl | q
      · exact m'
      · exact s4 c (List.mem_append_right _ (.tail _ (.tail _ q)))
theorem zof {n : Nat} (h : n ≤ 50000) : n ≤ 100000 := Nat.le_trans h (by decide)
theorem zof1 {n : Nat} (h : n ≤ 50001) : n ≤ 100001 := Nat.le_trans h (by decide)
theorem tree_merge (h4 : T 4 = some f_lay) (h6 : T 6 = some f_row_without) (h12 : T 12 = some f_merge_children) {self : V} {Q : PV} (hD : 2 ≤ D) (w : Two D h G a i K1 K2 V1 V2 C1 C2 k v L R) (hl : L.keys.length + R.keys.length + 1 ≤ 2 * D - 1)
    (q : ∀ G' t' M, (∀ c, (∀ x ∈ ino c, x ∈ ino M) → Filled D h G G' (.node a (K1 ++ k :: K2) (V1 ++ v :: V2) (C1 ++ L :: R :: C2)) t' c M i) → ino M = ino L ++ (k, v) :: ino R → M.addr = L.addr → Q .none G') : S.Φ 12 [self, .ref a, .int i] G Q := by
  refine absG fun Cg hCg => ?_
  obtain ⟨kL, kR, oL, oR, zL, zR⟩ := w.kids
  obtain ⟨n1, n2, n3⟩ := w.ne
  obtain ⟨b, kb, vb, cb⟩ := L
  obtain ⟨e, ke, ve, ce⟩ := R
  obtain ⟨z1, z2, z3⟩ := node_sizes w.sh w.z
  obtain ⟨y1, y2, y3⟩ := node_sizes oL.1 zL
  obtain ⟨x1, x2, x3⟩ := node_sizes oR.1 zR
  have lr : ∀ {l : List Tree}, l.length ≤ 50001 → (refsOf l).length ≤ 100001 := fun h => by rw [refsOf, List.length_map]; exact zof1 h
  have hi : i ≤ 100000 := by have := w.lk; simp only [List.length_append, List.length_cons] at z1; (first | lia | omega)
  refine hCg ?_; clear hCg
  refine spec_merge S h4 h6 h12 w.hh.1 kL.1 kR.1 (refs_at w.lc) (refs_at1 w.lc) (get_at w.lk) (get_at w.lv) n1 hi (zof z1) (zof z2) (lr z3) (zof y1) (zof y2) (lr y3) (zof x1) (zof x2) (lr x3) fun G' na nb f => ?_
  rw [del_at w.lk, del_at w.lv] at na
  have ec : del (refsOf (C1 ++ .node b kb vb cb :: .node e ke ve ce :: C2)) (i + 1) = refsOf (C1 ++ ([.node b (kb ++ [k] ++ ke) (vb ++ [v] ++ ve) (cb ++ ce)] ++ C2)) := by
    have := del_at (A := refsOf (C1 ++ [.node b kb vb cb])) (x := V.ref e) (B := refsOf C2) (i := i + 1) (by rw [refsOf, List.length_map, List.length_append, w.lc]; rfl)
    simp only [refsOf, List.map_append, List.map_cons, List.map_nil, List.append_assoc, List.cons_append, List.nil_append, Tree.addr] at this ⊢
    exact this
  rw [ec] at na
  have hc : (cb = [] ∧ ce = []) ∨ cb.length = kb.length + 1 := by
    refine absG fun Cg hCg => ?_
    obtain ⟨_, _, c1⟩ := kids_cases oL.1
    obtain ⟨_, _, c2⟩ := kids_cases oR.1
    refine hCg ?_; clear hCg
    rcases c1 with ⟨q1, c1⟩ | ⟨_, c1⟩
    · rcases c2 with ⟨_, c2⟩ | ⟨q2, _⟩
      · exact .inl ⟨c1, c2⟩
      · (first | lia | omega)
    · exact .inr c1
  have hM := merge_kid (b := b) (e := e) (ke := ke) (ve := ve) (k := k) (v := v) (kids_cases oL.1).1 hc
  have okb : D - 1 ≤ kb.length := oL.2
  have oke : D - 1 ≤ ke.length := oR.2
  have lm : D ≤ (kb ++ [k] ++ ke).length := by simp only [List.length_append, List.length_cons, List.length_nil]; (first | lia | omega)
  have shM : KidOk D h (.node b (kb ++ [k] ++ ke) (vb ++ [v] ++ ve) (cb ++ ce)) := ⟨merge_sh oL.1 oR.1 hl, Nat.le_trans (Nat.sub_le _ _) lm⟩
  have ndm : ∀ {X Y Z W : List Nat} {a b e : Nat}, (a :: (X ++ ((b :: (Y ++ e :: Z)) ++ W))).Nodup → (b :: (Y ++ Z)).Nodup := fun n => by
    have := (List.nodup_append.mp (List.nodup_append.mp (List.nodup_cons.mp n).2).2.1).1
    exact this.sublist (.cons_cons _ (List.Sublist.append_left (List.sublist_cons_self _ _) _))
  have up := two_upd (N := [.node b (kb ++ [k] ++ ke) (vb ++ [v] ++ ve) (cb ++ ce)]) w.hh w.nd (fun x o ex hx => f x o ex fun q => hx (by
    rcases List.mem_cons.mp q with rfl | q
    · exact .head _
    · rw [List.mem_singleton.mp q]; exact .tail _ (.head _))) na (fun t ht => ⟨_, _, _, _, List.mem_singleton.mp ht, by rw [refsOf_app]; exact nb, fun c hc => List.mem_append.mp hc⟩) (fun x hx => by
      have e0 : addrsL [Tree.node b (kb ++ [k] ++ ke) (vb ++ [v] ++ ve) (cb ++ ce)] = b :: (addrsL cb ++ addrsL ce) := by
        show (b :: addrsL (cb ++ ce)) ++ [] = _
        rw [addrsL_app]; simp
      rw [e0] at hx
      rcases List.mem_cons.mp hx with rfl | q
      · exact .head _
      · rcases List.mem_append.mp q with q | q
        · exact .tail _ (List.mem_append_left _ q)
        · exact .tail _ (List.mem_append_right _ (.tail _ q))) (by
      have e0 : addrsL [Tree.node b (kb ++ [k] ++ ke) (vb ++ [v] ++ ve) (cb ++ ce)] = b :: (addrsL cb ++ addrsL ce) := by
        show (b :: addrsL (cb ++ ce)) ++ [] = _
        rw [addrsL_app]; simp
      rw [e0]
      have n := w.nd
      have e1 : addrsL (C1 ++ .node b kb vb cb :: .node e ke ve ce :: C2) = addrsL C1 ++ ((b :: (addrsL cb ++ e :: addrsL ce)) ++ addrsL C2) := by
        rw [addrsL_app]
        show _ ++ ((b :: addrsL cb) ++ ((e :: addrsL ce) ++ addrsL C2)) = _
        simp
      rw [addrs_node, e1] at n
      exact ndm n)
  have l1 := w.lv.trans w.lk.symm
  have l2 := w.lc.trans w.lk.symm
  refine q G' _ (.node b (kb ++ [k] ++ ke) (vb ++ [v] ++ ve) (cb ++ ce)) (fun c hm => ⟨up, one_sh w shM, ?_, ?_, ?_, lm, hm⟩) hM rfl
  · rw [ino_two l1 l2]
    show ino (.node a (K1 ++ K2) (V1 ++ V2) (C1 ++ _ :: C2)) = _
    rw [ino_one l1 l2, hM]; simp
  · show (K1 ++ k :: K2).length ≤ (K1 ++ K2).length + 1
    simp only [List.length_append, List.length_cons]; (first | lia | omega)
  · exact get_at w.lc
theorem tree_borrowL (h4 : T 4 = some f_lay) (h5 : T 5 = some f_row_with) (h13 : T 13 = some f_borrow_from_left) {self : V} {Q : PV} (hD : 2 ≤ D) (w : Two D h G a i K1 K2 V1 V2 C1 C2 k v L R) (hl : D ≤ L.keys.length) (hr : R.keys.length + 1 = D)
    (q : ∀ G' t' c', Filled D h G G' (.node a (K1 ++ k :: K2) (V1 ++ v :: V2) (C1 ++ L :: R :: C2)) t' R c' (i + 1) → Q .none G') : S.Φ 13 [self, .ref a, .int ((i : Int) + 1)] G Q := by
  refine absG fun Cg hCg => ?_
  obtain ⟨kL, kR, oL, oR, zL, zR⟩ := w.kids
  obtain ⟨n1, n2, n3⟩ := w.ne
  obtain ⟨l, kl, vl, cl⟩ := L
  obtain ⟨c, kc, vc, cc⟩ := R
  have hl : D ≤ kl.length := hl
  have hr : kc.length + 1 = D := hr
  obtain ⟨z1, z2, z3⟩ := node_sizes w.sh w.z
  obtain ⟨y1, y2, y3⟩ := node_sizes oL.1 zL
  obtain ⟨x1, x2, x3⟩ := node_sizes oR.1 zR
  have lr : ∀ {l : List Tree}, l.length ≤ 50001 → (refsOf l).length ≤ 100001 := fun h => by rw [refsOf, List.length_map]; exact zof1 h
  obtain ⟨v1, b1, c1⟩ := kids_cases oL.1
  obtain ⟨v2, b2, c2⟩ := kids_cases oR.1
  refine hCg ?_; clear hCg
  obtain ⟨n, hn⟩ : ∃ n, kl.length = n + 1 := ⟨kl.length - 1, by (first | lia | omega)⟩
  have hmk : kl[n]? = some (kl[n]'(by (first | lia | omega))) := List.getElem?_eq_getElem _
  have hmv : vl[n]? = some (vl[n]'(by (first | lia | omega))) := List.getElem?_eq_getElem _
  generalize kl[n]'(by (first | lia | omega)) = mk at hmk
  generalize vl[n]'(by (first | lia | omega)) = mv at hmv
  refine spec_borrowL S h4 h5 h13 w.hh.1 kL.1 kR.1 (refs_at w.lc) (refs_at1 w.lc) (get_at w.lk) (get_at w.lv) hn hmk hmv n1 n2 n3 (zof z1) (zof z2) (lr z3) (zof y1) (zof y2) (lr y3) (zof x1) (zof x2) (lr x3) fun G' na nl nc f => ?_
  rw [set_at w.lk, set_at w.lv] at na
  have hc : (cl = [] ∧ cc = []) ∨ cl.length = kl.length + 1 := by
    rcases c1 with ⟨q1, c1⟩ | ⟨_, c1⟩
    · rcases c2 with ⟨_, c2⟩ | ⟨q2, _⟩
      · exact .inl ⟨c1, c2⟩
      · (first | lia | omega)
    · exact .inr c1
  have hI := borrowL_kids (l := l) (c := c) (kc := kc) (vc := vc) (k := k) (v := v) v1 hn hmk hmv hc
  obtain ⟨sL, sC⟩ := borrowL_sh (k := k) (v := v) oL.1 oR.1 hn (by (first | lia | omega))
  have okL : KidOk D h (.node l (kl.take n) (vl.take n) (cl.take (n + 1))) := ⟨sL, by show D - 1 ≤ (kl.take n).length; rw [List.length_take]; (first | lia | omega)⟩
  have okC : KidOk D h (.node c (k :: kc) (v :: vc) (cl.drop (n + 1) ++ cc)) := ⟨sC, by show D - 1 ≤ (k :: kc).length; rw [List.length_cons]; (first | lia | omega)⟩
  have ecl : addrsL cl = addrsL (cl.take (n + 1)) ++ addrsL (cl.drop (n + 1)) := by rw [← addrsL_app, List.take_append_drop]
  have eN : addrsL [Tree.node l (kl.take n) (vl.take n) (cl.take (n + 1)), .node c (k :: kc) (v :: vc) (cl.drop (n + 1) ++ cc)] = l :: (addrsL (cl.take (n + 1)) ++ c :: (addrsL (cl.drop (n + 1)) ++ addrsL cc)) := by
    show (l :: addrsL (cl.take (n + 1))) ++ ((c :: addrsL (cl.drop (n + 1) ++ cc)) ++ []) = _
    rw [addrsL_app]; simp
  have perm : List.Perm (l :: (addrsL (cl.take (n + 1)) ++ c :: (addrsL (cl.drop (n + 1)) ++ addrsL cc))) (l :: (addrsL cl ++ c :: addrsL cc)) := by
    rw [ecl, List.append_assoc]
    exact List.Perm.cons _ (List.Perm.append_left _ List.perm_middle.symm)
  have up := two_upd (N := [.node l (kl.take n) (vl.take n) (cl.take (n + 1)), .node c (k :: kc) (v :: vc) (cl.drop (n + 1) ++ cc)]) w.hh w.nd f (by
      have : refsOf (C1 ++ ([.node l (kl.take n) (vl.take n) (cl.take (n + 1)), .node c (k :: kc) (v :: vc) (cl.drop (n + 1) ++ cc)] ++ C2)) = refsOf (C1 ++ .node l kl vl cl :: .node c kc vc cc :: C2) := by simp [refsOf, Tree.addr]
      rw [this]; exact na) (fun t ht => by
      rcases List.mem_cons.mp ht with rfl | ht
      · exact ⟨_, _, _, _, rfl, by unfold refsOf at nl ⊢; rw [List.map_take]; exact nl, fun x hx => .inl (List.mem_of_mem_take hx)⟩
      · rw [List.mem_singleton.mp ht]
        exact ⟨_, _, _, _, rfl, by unfold refsOf at nc ⊢; rw [List.map_append, List.map_drop]; exact nc, fun x hx => (List.mem_append.mp hx).imp List.mem_of_mem_drop id⟩)
    (fun x hx => by rw [eN] at hx; exact perm.mem_iff.mp hx) (by
      rw [eN]
      refine perm.nodup_iff.mpr ?_
      have n := w.nd
      have e1 : addrsL (C1 ++ .node l kl vl cl :: .node c kc vc cc :: C2) = addrsL C1 ++ ((l :: (addrsL cl ++ c :: addrsL cc)) ++ addrsL C2) := by
        rw [addrsL_app]
        show _ ++ ((l :: addrsL cl) ++ ((c :: addrsL cc) ++ addrsL C2)) = _
        simp
      rw [addrs_node, e1] at n
      exact (List.nodup_append.mp (List.nodup_append.mp (List.nodup_cons.mp n).2).2.1).1)
  have l1 := w.lv.trans w.lk.symm
  have l2 := w.lc.trans w.lk.symm
  refine q G' _ _ ⟨up, two_sh w okL okC, ?_, ?_, get_at1 w.lc, ?_, fun x hx => ?_⟩
  · rw [ino_two l1 l2]
    show ino (.node a (K1 ++ mk :: K2) (V1 ++ mv :: V2) (C1 ++ _ :: _ :: C2)) = _
    rw [ino_two l1 l2]
    have := congrArg (fun z => lpart K1 V1 C1 ++ (z ++ rpart K2 V2 C2)) hI
    simp only [List.append_assoc, List.cons_append] at this
    simpa using this
  · show (K1 ++ k :: K2).length ≤ (K1 ++ mk :: K2).length + 1
    simp only [List.length_append, List.length_cons]; (first | lia | omega)
  · show D ≤ (k :: kc).length
    rw [List.length_cons]; (first | lia | omega)
  · rcases c1 with ⟨q1, c1⟩ | ⟨q1, c1⟩
    · subst c1
      have c3 : cc = [] := by rcases c2 with ⟨_, q⟩ | ⟨q, _⟩; exact q; (first | lia | omega)
      subst c3
      exact .tail _ hx
    · have ed : ∃ g, cl.drop (n + 1) = [g] := by
        have hg : cl[n + 1]? = some (cl[n + 1]'(by (first | lia | omega))) := List.getElem?_eq_getElem _
        exact ⟨_, by rw [drop_cons hg, List.drop_of_length_le (by (first | lia | omega))]⟩
      obtain ⟨g, eg⟩ := ed
      rw [eg]
      exact List.mem_append_right _ (.tail _ hx)
theorem tree_borrowR (h4 : T 4 = some f_lay) (h5 : T 5 = some f_row_with) (h14 : T 14 = some f_borrow_from_right) {self : V} {Q : PV} (hD : 2 ≤ D) (w : Two D h G a i K1 K2 V1 V2 C1 C2 k v L R) (hr : D ≤ R.keys.length) (hl : L.keys.length + 1 = D)
    (q : ∀ G' t' c', Filled D h G G' (.node a (K1 ++ k :: K2) (V1 ++ v :: V2) (C1 ++ L :: R :: C2)) t' L c' i → Q .none G') : S.Φ 14 [self, .ref a, .int i] G Q := by
  refine absG fun Cg hCg => ?_
  obtain ⟨kL, kR, oL, oR, zL, zR⟩ := w.kids
  obtain ⟨n1, n2, n3⟩ := w.ne
  obtain ⟨c, kc, vc, cc⟩ := L
  obtain ⟨r, kr, vr, cr⟩ := R
  have hr : D ≤ kr.length := hr
  have hl : kc.length + 1 = D := hl
  obtain ⟨z1, z2, z3⟩ := node_sizes w.sh w.z
  obtain ⟨y1, y2, y3⟩ := node_sizes oL.1 zL
  obtain ⟨x1, x2, x3⟩ := node_sizes oR.1 zR
  have lr : ∀ {l : List Tree}, l.length ≤ 50001 → (refsOf l).length ≤ 100001 := fun h => by rw [refsOf, List.length_map]; exact zof1 h
  obtain ⟨v1, b1, c1⟩ := kids_cases oL.1
  obtain ⟨v2, b2, c2⟩ := kids_cases oR.1
  have hmk : kr[0]? = some (kr[0]'(by (first | lia | omega))) := List.getElem?_eq_getElem _
  have hmv : vr[0]? = some (vr[0]'(by (first | lia | omega))) := List.getElem?_eq_getElem _
  refine hCg ?_; clear hCg
  generalize kr[0]'(by (first | lia | omega)) = mk at hmk
  generalize vr[0]'(by (first | lia | omega)) = mv at hmv
  refine spec_borrowR S h4 h5 h14 w.hh.1 kL.1 kR.1 (refs_at w.lc) (refs_at1 w.lc) (get_at w.lk) (get_at w.lv) hmk hmv n1 n2 n3 (zof z1) (zof z2) (lr z3) (zof x1) (zof x2) (lr x3) (zof y1) (zof y2) (lr y3) fun G' na nc nr f => ?_
  rw [set_at w.lk, set_at w.lv] at na
  have hc : (cr = [] ∧ cc = []) ∨ (cc.length = kc.length + 1 ∧ cr ≠ []) := by
    rcases c1 with ⟨q1, c1⟩ | ⟨q1, c1⟩
    · rcases c2 with ⟨_, c2⟩ | ⟨q2, _⟩
      · exact .inl ⟨c2, c1⟩
      · (first | lia | omega)
    · rcases c2 with ⟨q2, _⟩ | ⟨_, c2⟩
      · (first | lia | omega)
      · exact .inr ⟨c1, fun q => by rw [q] at c2; simp at c2⟩
  have hI := borrowR_kids (r := r) (c := c) (k := k) (v := v) v1 hmk hmv hc
  obtain ⟨sC, sR⟩ := borrowR_sh (k := k) (v := v) oL.1 oR.1 (by (first | lia | omega)) (by (first | lia | omega))
  have okC : KidOk D h (.node c (kc ++ [k]) (vc ++ [v]) (cc ++ cr.take 1)) := ⟨sC, by show D - 1 ≤ (kc ++ [k]).length; rw [List.length_append, List.length_cons, List.length_nil]; (first | lia | omega)⟩
  have okR : KidOk D h (.node r (kr.drop 1) (vr.drop 1) (cr.drop 1)) := ⟨sR, by show D - 1 ≤ (kr.drop 1).length; rw [List.length_drop]; (first | lia | omega)⟩
  have ecr : addrsL cr = addrsL (cr.take 1) ++ addrsL (cr.drop 1) := by rw [← addrsL_app, List.take_append_drop]
  have eN : addrsL [Tree.node c (kc ++ [k]) (vc ++ [v]) (cc ++ cr.take 1), .node r (kr.drop 1) (vr.drop 1) (cr.drop 1)] = c :: (addrsL cc ++ (addrsL (cr.take 1) ++ r :: addrsL (cr.drop 1))) := by
    show (c :: addrsL (cc ++ cr.take 1)) ++ ((r :: addrsL (cr.drop 1)) ++ []) = _
    rw [addrsL_app]; simp
  have perm : List.Perm (c :: (addrsL cc ++ (addrsL (cr.take 1) ++ r :: addrsL (cr.drop 1)))) (c :: (addrsL cc ++ r :: addrsL cr)) := by
    rw [ecr]
    exact List.Perm.cons _ (List.Perm.append_left _ List.perm_middle)
  have up := two_upd (N := [.node c (kc ++ [k]) (vc ++ [v]) (cc ++ cr.take 1), .node r (kr.drop 1) (vr.drop 1) (cr.drop 1)]) w.hh w.nd f (by
      have : refsOf (C1 ++ ([.node c (kc ++ [k]) (vc ++ [v]) (cc ++ cr.take 1), .node r (kr.drop 1) (vr.drop 1) (cr.drop 1)] ++ C2)) = refsOf (C1 ++ .node c kc vc cc :: .node r kr vr cr :: C2) := by simp [refsOf, Tree.addr]
      rw [this]; exact na) (fun t ht => by
      rcases List.mem_cons.mp ht with rfl | ht
      · exact ⟨_, _, _, _, rfl, by unfold refsOf at nc ⊢; rw [List.map_append, List.map_take]; exact nc, fun x hx => (List.mem_append.mp hx).imp id List.mem_of_mem_take⟩
      · rw [List.mem_singleton.mp ht]
        exact ⟨_, _, _, _, rfl, by unfold refsOf at nr ⊢; rw [List.map_drop]; exact nr, fun x hx => .inr (List.mem_of_mem_drop hx)⟩)
    (fun x hx => by rw [eN] at hx; exact perm.mem_iff.mp hx) (by
      rw [eN]
      refine perm.nodup_iff.mpr ?_
      have n := w.nd
      have e1 : addrsL (C1 ++ .node c kc vc cc :: .node r kr vr cr :: C2) = addrsL C1 ++ ((c :: (addrsL cc ++ r :: addrsL cr)) ++ addrsL C2) := by
        rw [addrsL_app]
        show _ ++ ((c :: addrsL cc) ++ ((r :: addrsL cr) ++ addrsL C2)) = _
        simp
      rw [addrs_node, e1] at n
      exact (List.nodup_append.mp (List.nodup_append.mp (List.nodup_cons.mp n).2).2.1).1)
  have l1 := w.lv.trans w.lk.symm
  have l2 := w.lc.trans w.lk.symm
  refine q G' _ _ ⟨up, two_sh w okC okR, ?_, ?_, get_at w.lc, ?_, fun x hx => ?_⟩
  · rw [ino_two l1 l2]
    show ino (.node a (K1 ++ mk :: K2) (V1 ++ mv :: V2) (C1 ++ _ :: _ :: C2)) = _
    rw [ino_two l1 l2]
    have := congrArg (fun z => lpart K1 V1 C1 ++ (z ++ rpart K2 V2 C2)) hI
    simp only [List.append_assoc, List.cons_append] at this
    simpa using this
  · show (K1 ++ k :: K2).length ≤ (K1 ++ mk :: K2).length + 1
    simp only [List.length_append, List.length_cons]; (first | lia | omega)
  · show D ≤ (kc ++ [k]).length
    rw [List.length_append, List.length_cons, List.length_nil]; (first | lia | omega)
  · show x ∈ weave (inoL (cc ++ cr.take 1)) ((kc ++ [k]).zip (vc ++ [v]))
    rw [List.zip_append v1.symm]
    rcases hc with ⟨rfl, rfl⟩ | ⟨hc, _⟩
    · exact List.mem_append_left _ hx
    · rw [inoL_app]
      show x ∈ weave _ (_ ++ (k, v) :: [])
      rw [weave_cat (by rw [inoL_len, zip_len v1, hc])]
      exact List.mem_append_left _ hx
noncomputable def fillT : List ML.S := [
  .ite (.cmp .gt (.var 2) (.lit (.int 0))) [
    .expr (.meth 12 (.var 0) [(.var 1), (.bop .sub (.var 2) (.lit (.int 1)))]),
    .ret (some (.bop .sub (.var 2) (.lit (.int 1))))] [],
  .expr (.meth 12 (.var 0) [(.var 1), (.var 2)]),
  .ret (some (.var 2))]
noncomputable def fillR : List ML.S :=
  .ite (.and (.cmp .lt (.var 2) (.bop .sub (.prim .len [(.attr (.var 1) 2)]) (.lit (.int 1)))) (.cmp .ge (.prim .len [(.attr (.idx (.attr (.var 1) 2) (.bop .add (.var 2) (.lit (.int 1)))) 0)]) (.var 3))) [
    .expr (.meth 14 (.var 0) [(.var 1), (.var 2)]),
    .ret (some (.var 2))] [] :: fillT
noncomputable def fillL : List ML.S :=
  .ite (.and (.cmp .gt (.var 2) (.lit (.int 0))) (.cmp .ge (.prim .len [(.attr (.idx (.attr (.var 1) 2) (.bop .sub (.var 2) (.lit (.int 1)))) 0)]) (.var 3))) [
    .expr (.meth 13 (.var 0) [(.var 1), (.var 2)]),
    .ret (some (.var 2))] [] :: fillR
theorem f_fill_eq : f_fill_child = ⟨3, 4,
  .assign 3 (.attr (.var 0) 3) ::
  .ite (.or (.cmp .ge (.prim .len [(.attr (.idx (.attr (.var 1) 2) (.var 2)) 0)]) (.var 3)) (.cmp .lt (.prim .len [(.attr (.var 1) 2)]) (.lit (.int 2)))) [
    .ret (some (.var 2))] [] :: fillL⟩ := rfl
structure Fc (D h : Nat) (G : Heap) (cn a : Nat) (y z : V) (ks : List Int) (vs : List V) (cs : List Tree) : Prop where
  hD : 2 ≤ D
  hc : G cn = some (.inst 1 [(3, .int D), (4, y), (5, z)])
  hh : Holds G (.node a ks vs cs)
  nd : (Tree.node a ks vs cs).addrs.Nodup
  sh : Sh D (h + 1) (.node a ks vs cs)
  zz : (ino (.node a ks vs cs)).length ≤ 50000
  hk : 1 ≤ ks.length
section
variable {cn : Nat} {y z : V} {ks : List Int} {vs : List V} {cs : List Tree}
theorem Fc.lens (F : Fc D h G cn a y z ks vs cs) : cs.length ≤ 50001 ∧ cs.length = ks.length + 1 := ⟨(node_sizes F.sh F.zz).2.2, F.sh.1⟩
theorem Fc.kid (F : Fc D h G cn a y z ks vs cs) {j : Nat} {x : Tree} {K : V → Prop} (e : cs[j]? = some x) (k : ∀ p, G p = some (.list (x.keys.map V.int)) → K (.ref p)) : attrW (.ref a) 2 G fun v => idxW v (.int j) G fun v => attrW v 0 G K := by
  refine at_c F.hh.1 fun p hp => v_idxN hp rfl ?_ ?_ (at_k (HoldsL.iff.mp F.hh.2 x (List.mem_of_getElem? e)).at fun p2 hp2 => k p2 hp2)
  · have := lt_of_get e; have := F.lens; (first | lia | omega)
  · unfold refsOf; rw [List.getElem?_map, e]; rfl
theorem Fc.two (F : Fc D h G cn a y z ks vs cs) {j : Nat} {L R : Tree} (e1 : cs[j]? = some L) (e2 : cs[j + 1]? = some R) : ∃ K1 k K2 V1 v V2 C1 C2, ks = K1 ++ k :: K2 ∧ vs = V1 ++ v :: V2 ∧ cs = C1 ++ L :: R :: C2 ∧ Two D h G a j K1 K2 V1 V2 C1 C2 k v L R := by
  refine absG fun Cg hCg => ?_
  obtain ⟨K1, k, K2, V1, v, V2, C1, L', R', C2, rfl, rfl, rfl, l1, l2, l3⟩ := parts_of (i := j) F.sh.2.1 F.sh.1 (by have := lt_of_get e2; have := F.sh.1; (first | lia | omega))
  refine hCg ?_; clear hCg
  rw [get_at l3] at e1
  rw [get_at1 l3] at e2
  cases e1; cases e2
  exact ⟨K1, k, K2, V1, v, V2, C1, C2, rfl, rfl, rfl, F.hh, F.nd, F.sh, l1, l2, l3, F.zz⟩
theorem fillT_ok (h4 : T 4 = some f_lay) (h6 : T 6 = some f_row_without) (h12 : T 12 = some f_merge_children) {c : Tree} {Q : PV} (F : Fc D h G cn a y z ks vs cs) (ci : cs[i]? = some c) (hcD : c.keys.length + 1 = D) (hL : ∀ j L, i = j + 1 → cs[j]? = some L → L.keys.length < D) (hR : ∀ R, i = 0 → cs[1]? = some R → R.keys.length < D)
    (q : ∀ G' t' c' i', Filled D h G G' (.node a ks vs cs) t' c c' i' → Q (.int i') G') : wpSs S.Φ fillT [some (.ref cn), some (.ref a), some (.int i), some (.int D)] G (fun fl _ H' => ∃ H'' : Heap, H''.le H' ∧ Q fl.val H'') := by
  have hi := lt_of_get ci
  have hD := F.hD
  unfold fillT
  walk_at "n"
  cases i with
  | zero =>
    have er : cs[0 + 1]? = some (cs[0 + 1]'(by have := F.lens; have := F.hk; (first | lia | omega))) := List.getElem?_eq_getElem _
    have hlt : 0 + 1 < cs.length := by have := F.lens; have := F.hk; (first | lia | omega)
    generalize cs[0 + 1]'hlt = R at er
    have hR := hR _ rfl er
    refine absG fun Cg hCg => ?_
    obtain ⟨K1, k1, K2, V1, v1, V2, C1, C2, rfl, rfl, rfl, w⟩ := F.two ci er
    refine hCg ?_; clear hCg
    refine v_ifF (decide_eq_false (by (first | lia | omega))) ?_
    refine n_nil (n_then ?_)
    walk_at "n"
    refine v_isInst F.hc ?_
    refine tree_merge S h4 h6 h12 hD w (by (first | lia | omega)) fun G' t' M f eM aM => ?_
    walk_at "m"
    walk_at "n"
    exact end_ret rfl (q G' t' M 0 (f c (fun x hx => by rw [eM]; exact List.mem_append_left _ hx)))
  | succ j =>
    have el : cs[j]? = some (cs[j]'(by (first | lia | omega))) := List.getElem?_eq_getElem _
    generalize cs[j]'(by (first | lia | omega)) = L at el
    have hL := hL j _ rfl el
    refine absG fun Cg hCg => ?_
    obtain ⟨K1, k1, K2, V1, v1, V2, C1, C2, rfl, rfl, rfl, w⟩ := F.two el ci
    refine hCg ?_; clear hCg
    refine v_ifT (decide_eq_true (by (first | lia | omega))) ?_
    walk_at "n"
    refine v_isInst F.hc ?_
    have ej : (((j + 1 : Nat) : Int) - 1) = j := by (first | lia | omega)
    rw [ej]
    refine tree_merge S h4 h6 h12 hD w (by (first | lia | omega)) fun G' t' M f eM aM => ?_
    walk_at "m"
    walk_at "n"
    rw [ej]
    exact end_ret rfl (q G' t' M j (f c (fun x hx => by rw [eM]; exact List.mem_append_right _ (.tail _ hx))))
theorem fillR_ok (h4 : T 4 = some f_lay) (h5 : T 5 = some f_row_with) (h6 : T 6 = some f_row_without) (h12 : T 12 = some f_merge_children) (h14 : T 14 = some f_borrow_from_right) {c : Tree} {Q : PV} (F : Fc D h G cn a y z ks vs cs) (ci : cs[i]? = some c) (hcD : c.keys.length + 1 = D) (hL : ∀ j L, i = j + 1 → cs[j]? = some L → L.keys.length < D)
    (q : ∀ G' t' c' i', Filled D h G G' (.node a ks vs cs) t' c c' i' → Q (.int i') G') : wpSs S.Φ fillR [some (.ref cn), some (.ref a), some (.int i), some (.int D)] G (fun fl _ H' => ∃ H'' : Heap, H''.le H' ∧ Q fl.val H'') := by
  have hi := lt_of_get ci
  have hD := F.hD
  unfold fillR
  walk_at "n"
  refine at_c F.hh.1 fun p hp => v_len hp rfl ?_
  walk_at "m"
  rw [refsOf, List.length_map]
  refine v_if (fun e3 => ?_) fun e3 => ?_
  · have e3 := of_decide_eq_true e3
    have er : cs[i + 1]? = some (cs[i + 1]'(by (first | lia | omega))) := List.getElem?_eq_getElem _
    generalize cs[i + 1]'(by (first | lia | omega)) = R at er
    refine F.kid (j := i + 1) er fun p2 hp2 => v_len hp2 rfl ?_
    rw [List.length_map]
    walk_at "m"
    refine v_if (fun e4 => ?_) fun e4 => ?_
    · have e4 := of_decide_eq_true e4
      refine absG fun Cg hCg => ?_
      obtain ⟨K1, k1, K2, V1, v1, V2, C1, C2, rfl, rfl, rfl, w⟩ := F.two ci er
      refine hCg ?_; clear hCg
      walk_at "n"
      refine v_isInst F.hc ?_
      refine tree_borrowR S h4 h5 h14 hD w (by (first | lia | omega)) hcD fun G' t' c' f => ?_
      walk_at "m"
      walk_at "n"
      exact end_ret rfl (q G' t' c' i f)
    · have e4 := of_decide_eq_false e4
      refine n_nil (n_then (fillT_ok S h4 h6 h12 F ci hcD hL (fun R' e0 e1 => ?_) q))
      subst e0
      rw [show cs[0 + 1]? = cs[1]? from rfl, e1] at er
      cases er; (first | lia | omega)
  · have e3 := of_decide_eq_false e3
    refine n_nil (n_then (fillT_ok S h4 h6 h12 F ci hcD hL (fun R' e0 e1 => ?_) q))
    have := lt_of_get e1
    (first | lia | omega)
theorem spec_fill (h4 : T 4 = some f_lay) (h5 : T 5 = some f_row_with) (h6 : T 6 = some f_row_without) (h12 : T 12 = some f_merge_children) (h13 : T 13 = some f_borrow_from_left) (h14 : T 14 = some f_borrow_from_right) (h15 : T 15 = some f_fill_child) {c : Tree} {Q : PV} (F : Fc D h G cn a y z ks vs cs) (ci : cs[i]? = some c)
    (q : ∀ G' t' c' i', Filled D h G G' (.node a ks vs cs) t' c c' i' → Q (.int i') G') : S.Φ 15 [.ref cn, .ref a, .int i] G Q := by
  have hi := lt_of_get ci
  have hD := F.hD
  rw [f_fill_eq] at h15
  refine S.call h15 rfl ?_
  dsimp only
  walk_at "m"
  walk_at "n"
  refine v_attr F.hc rfl ?_
  walk_at "n"
  refine F.kid ci fun p2 hp2 => v_len hp2 rfl ?_
  rw [List.length_map]
  walk_at "m"
  have okc := F.sh.2.2.2 c (List.mem_of_getElem? ci)
  refine v_if (fun e => ?_) fun e => ?_
  · have e := of_decide_eq_true e
    walk_at "m"
    exact end_ret rfl (q G _ c i ⟨Upd.refl F.hh F.nd, F.sh, rfl, Nat.le_succ _, ci, by (first | lia | omega), fun x hx => hx⟩)
  have e := of_decide_eq_false e
  have hcD : c.keys.length + 1 = D := by have := okc.2; (first | lia | omega)
  refine at_c F.hh.1 fun p hp => v_len hp rfl ?_
  walk_at "m"
  refine v_ifF (decide_eq_false (by rw [refsOf, List.length_map]; have := F.lens; have := F.hk; (first | lia | omega))) ?_
  unfold fillL
  walk_at "n"
  cases i with
  | zero =>
    refine v_ifF (decide_eq_false (by (first | lia | omega))) ?_
    walk_at "m"
    exact n_nil (n_then (fillR_ok S h4 h5 h6 h12 h14 F ci hcD (fun j L e => by cases e) q))
  | succ j =>
    refine v_ifT (decide_eq_true (by (first | lia | omega))) ?_
    have ej : (((j + 1 : Nat) : Int) - 1) = j := by (first | lia | omega)
    rw [ej]
    have el : cs[j]? = some (cs[j]'(by (first | lia | omega))) := List.getElem?_eq_getElem _
    generalize cs[j]'(by (first | lia | omega)) = L at el
    refine F.kid el fun p2 hp2 => v_len hp2 rfl ?_
    rw [List.length_map]
    walk_at "m"
    refine v_if (fun e2 => ?_) fun e2 => ?_
    · have e2 := of_decide_eq_true e2
      refine absG fun Cg hCg => ?_
      obtain ⟨K1, k1, K2, V1, v1, V2, C1, C2, rfl, rfl, rfl, w⟩ := F.two el ci
      refine hCg ?_; clear hCg
      walk_at "n"
      refine v_isInst F.hc ?_
      refine tree_borrowL S h4 h5 h13 hD w (by (first | lia | omega)) hcD fun G' t' c' f => ?_
      walk_at "m"
      walk_at "n"
      exact end_ret rfl (q G' t' c' (j + 1) f)
    · have e2 := of_decide_eq_false e2
      refine n_nil (n_then (fillR_ok S h4 h5 h6 h12 h14 F ci hcD (fun j' L' e e' => ?_) q))
      cases e
      rw [el] at e'; cases e'; (first | lia | omega)
end
end
end ML
namespace ML
noncomputable def CloD (K : Heap → Prop) (D : Nat) (G : Heap) (t : Tree) (h : Nat) (key : Int) : Prop := ∀ t' G', Upd G G' t t' → Sh D h t' → t.keys.length ≤ t'.keys.length + 1 → ino t' = delL (ino t) key → K G'
theorem srt_mid {X M Y : List KV} (h : Srt (X ++ (M ++ Y))) : Srt M := h.right.left
theorem CloD.fill {K : Heap → Prop} {D h i : Nat} {G G1 : Heap} {t t1 c c' : Tree} {key : Int} {w : V} (f : Filled D h G G1 t t1 c c' i) (srt : Srt (ino t)) (hm : (key, w) ∈ ino c') (k : CloD K D G t (h + 1) key) : CloD K D G1 c' h key := by
  refine absG fun Cg hCg => ?_
  obtain ⟨a, ks, vs, cs⟩ := t1
  have hc : cs[i]? = some c' := f.kid
  have hcs := get_split hc
  have hlt := lt_of_get hc
  obtain ⟨s1, s2, s3, s4⟩ := f.sh
  refine hCg ?_; clear hCg
  intro c'' G2 u s' hl e
  have hD : D - 1 ≤ c''.keys.length := by have := f.full; (first | lia | omega)
  have u2 := Upd.child (L := cs.take i) (R := cs.drop (i + 1)) (hcs ▸ f.upd.holds) (hcs ▸ f.upd.nodup) u
  rw [← hcs, ← set_split hlt] at u2
  have e1 : ino (.node a ks vs cs) = ino t := f.ino
  refine k _ G2 (f.upd.trans u2) ⟨by rw [List.length_set]; exact s1, s2, s3, fun d hd => ?_⟩ f.len ?_
  · rcases mem_set hd with rfl | q
    · exact ⟨s', hD⟩
    · exact s4 d q
  · rw [← e1] at srt ⊢
    rw [ino_at s2 (by (first | lia | omega)) hc] at srt ⊢
    rw [ino_set s2 (by (first | lia | omega)) hc, delL_mid srt hm, e]
section
variable {D h a i : Nat} {K1 K2 : List Int} {V1 V2 : List V} {C1 C2 : List Tree} {k pk : Int} {v pv : V} {L R : Tree} {G G1 : Heap} {K : Heap → Prop}
theorem CloD.pred (w : Two D h G a i K1 K2 V1 V2 C1 C2 k v L R) (srt : Srt (ino (.node a (K1 ++ k :: K2) (V1 ++ v :: V2) (C1 ++ L :: R :: C2)))) (hL : D ≤ L.keys.length) {Z : List KV} (eZ : ino L = Z ++ [(pk, pv)])
    (u : Upd G G1 (.node a (K1 ++ k :: K2) (V1 ++ v :: V2) (C1 ++ L :: R :: C2)) (.node a (K1 ++ pk :: K2) (V1 ++ pv :: V2) (C1 ++ L :: R :: C2))) (c : CloD K D G (.node a (K1 ++ k :: K2) (V1 ++ v :: V2) (C1 ++ L :: R :: C2)) (h + 1) k) : CloD K D G1 L h pk := by
  have l1 := w.lv.trans w.lk.symm
  have l2 := w.lc.trans w.lk.symm
  intro L' G2 x s' hl e
  have u2 := Upd.child (L := C1) (R := R :: C2) u.holds u.nodup x
  rw [ino_two l1 l2] at srt
  have sL : Srt (Z ++ (pk, pv) :: []) := eZ ▸ srt_mid srt
  have eL : ino L' = Z := by rw [e, eZ, delL_one sL, List.append_nil]
  refine absG fun Cg hCg => ?_
  obtain ⟨_, _, oL, oR, _, _⟩ := w.kids
  refine hCg ?_; clear hCg
  refine c _ G2 (u.trans u2) ?_ ?_ ?_
  · have := two_sh (k' := pk) (v' := pv) w (L' := L') (R' := R) ⟨s', by (first | lia | omega)⟩ oR
    exact this
  · show (K1 ++ k :: K2).length ≤ (K1 ++ pk :: K2).length + 1
    simp only [List.length_append, List.length_cons]; (first | lia | omega)
  · rw [ino_two l1 l2, ino_two l1 l2, eL]
    rw [← List.append_assoc] at srt
    have d := delL_one srt
    rw [List.append_assoc] at d
    rw [d, eZ]; simp
theorem CloD.succ (w : Two D h G a i K1 K2 V1 V2 C1 C2 k v L R) (srt : Srt (ino (.node a (K1 ++ k :: K2) (V1 ++ v :: V2) (C1 ++ L :: R :: C2)))) (hR : D ≤ R.keys.length) {Z : List KV} (eZ : ino R = (pk, pv) :: Z)
    (u : Upd G G1 (.node a (K1 ++ k :: K2) (V1 ++ v :: V2) (C1 ++ L :: R :: C2)) (.node a (K1 ++ pk :: K2) (V1 ++ pv :: V2) (C1 ++ L :: R :: C2))) (c : CloD K D G (.node a (K1 ++ k :: K2) (V1 ++ v :: V2) (C1 ++ L :: R :: C2)) (h + 1) k) : CloD K D G1 R h pk := by
  have l1 := w.lv.trans w.lk.symm
  have l2 := w.lc.trans w.lk.symm
  intro R' G2 x s' hl e
  have ec : ∀ X : Tree, C1 ++ L :: X :: C2 = (C1 ++ [L]) ++ X :: C2 := fun X => by simp
  have u2 := Upd.child (L := C1 ++ [L]) (R := C2) (ec R ▸ u.holds) (ec R ▸ u.nodup) x
  rw [← ec, ← ec] at u2
  rw [ino_two l1 l2] at srt
  have sR : Srt ([] ++ (pk, pv) :: Z) := by
    have h1 := (List.pairwise_cons.mp srt.right.right).2
    have h2 : Srt (ino R ++ rpart K2 V2 C2) := h1
    exact eZ ▸ h2.left
  have eR : ino R' = Z := by
    have := delL_one sR
    rw [e, eZ]; exact this
  refine absG fun Cg hCg => ?_
  obtain ⟨_, _, oL, oR, _, _⟩ := w.kids
  refine hCg ?_; clear hCg
  refine c _ G2 (u.trans u2) ?_ ?_ ?_
  · have := two_sh (k' := pk) (v' := pv) w (L' := L) (R' := R') oL ⟨s', by (first | lia | omega)⟩
    exact this
  · show (K1 ++ k :: K2).length ≤ (K1 ++ pk :: K2).length + 1
    simp only [List.length_append, List.length_cons]; (first | lia | omega)
  · rw [ino_two l1 l2, ino_two l1 l2, eR]
    rw [← List.append_assoc] at srt
    have d := delL_one srt
    rw [List.append_assoc] at d
    rw [d, eZ]; simp
end
section
variable {T : Nat → Option Fn} (S : Sys T) {D h : Nat} {G : Heap}
theorem spec_greatest (h2 : T 2 = some f_is_leaf) (h17 : T 17 = some f_greatest_below) {self : V} {t : Tree} {Q : PV} (hD : 2 ≤ D) (hh : Holds G t) (sh : Sh D h t) (hk : 1 ≤ t.keys.length) (zz : (ino t).length ≤ 50000)
    (k : ∀ p G' pk pv Z, G.le G' → G' p = some (.tup [.int pk, pv]) → ino t = Z ++ [(pk, pv)] → Q (.ref p) G') : S.Φ 17 [self, .ref t.addr] G Q := by
  refine S.call h17 rfl ?_
  dsimp only [f_greatest_below]
  walk_at "m"
  refine n_whl ?_
  refine ⟨fun n m G' => ∃ c Z, m = [some self, some (.ref (c : Tree).addr), none] ∧ G' = G ∧ Holds G c ∧ Sh D n c ∧ 1 ≤ c.keys.length ∧ ino t = Z ++ ino c, h, ⟨t, [], rfl, rfl, hh, sh, hk, rfl⟩, ?_⟩
  intro n m G' hIw
  refine hideK fun Kw hKw => absG fun Cg hCg => ?_
  obtain ⟨c, Z, rfl, rfl, g1, g2, g3, g4⟩ := hIw
  obtain ⟨a, ks, vs, cs⟩ := c
  have na := g1.1
  have g3 : 1 ≤ ks.length := g3
  have zc : (ino (.node a ks vs cs)).length ≤ 50000 := by have := congrArg List.length g4; rw [List.length_append] at this; (first | lia | omega)
  obtain ⟨z1, z2, z3⟩ := node_sizes g2 zc
  obtain ⟨v1, _, c1⟩ := kids_cases g2
  refine hCg ?_; clear hCg
  rw [t_not, t_meth, w_meth]
  walk_at "m"
  refine absG fun Cg hCg => ?_
  obtain ⟨pk', pv', pc', ha, hpk, hpv, hpc⟩ := na
  refine hCg ?_; clear hCg
  refine v_isInst ha (spec_is_leaf S h2 ha hpc ?_)
  walk_at "m"
  rcases c1 with ⟨rfl, rfl⟩ | ⟨q, c1⟩
  · refine v_ifF rfl ?_
    refine n_then ?_
    obtain ⟨l, hl⟩ : ∃ l, ks.length = l + 1 := ⟨ks.length - 1, by (first | lia | omega)⟩
    have e1 : ks[l]? = some (ks[l]'(by (first | lia | omega))) := List.getElem?_eq_getElem _
    have e2 : vs[l]? = some (vs[l]'(by (first | lia | omega))) := List.getElem?_eq_getElem _
    generalize ks[l]'(by (first | lia | omega)) = gk at e1
    generalize vs[l]'(by (first | lia | omega)) = gv at e2
    have el : ((l + 1 : Nat) : Int) - 1 = l := by (first | lia | omega)
    walk_at "n"
    refine v_attr ha rfl (v_len hpk rfl ?_)
    walk_at "m"
    rw [List.length_map, hl, el]
    walk_at "n"
    refine v_attr ha rfl (v_idxN hpk rfl (by (first | lia | omega)) (by rw [List.getElem?_map, e1]; rfl) ?_)
    refine v_attr ha rfl (v_idxN hpv rfl (by (first | lia | omega)) e2 ?_)
    refine v_allocL fun p G2 L2 _ hp => ?_
    refine end_ret rfl (k p G2 _ _ (Z ++ (ks.take l).zip (vs.take l)) L2 hp ?_)
    rw [g4]
    show Z ++ ks.zip vs = _
    conv => lhs; rw [take_last hl e1, take_last (v1.trans hl) e2]
    rw [List.zip_append (by rw [List.length_take, List.length_take, v1])]; simp
  · refine absG fun Cg hCg => ?_
    obtain ⟨n, rfl⟩ : ∃ n', n = n' + 1 := ⟨n - 1, by (first | lia | omega)⟩
    refine hCg ?_; clear hCg
    refine v_ifT (by simp [refsOf]; intro q; rw [q] at c1; simp at c1) ?_
    have e1 : cs[ks.length]? = some (cs[ks.length]'(by (first | lia | omega))) := List.getElem?_eq_getElem _
    generalize cs[ks.length]'(by (first | lia | omega)) = c at e1
    have ek : ((ks.length + 1 : Nat) : Int) - 1 = ks.length := by (first | lia | omega)
    walk_at "n"
    refine v_attr ha rfl (v_attr ha rfl (v_len hpc rfl ?_))
    walk_at "m"
    rw [show (refsOf cs).length = ks.length + 1 by rw [refsOf, List.length_map, c1], ek]
    refine v_idxN (v := .ref c.addr) hpc rfl (by (first | lia | omega)) (by unfold refsOf; rw [List.getElem?_map, e1]; rfl) ?_
    have hm := List.mem_of_getElem? e1
    obtain ⟨o1, o2⟩ := g2.2.2.2 c hm
    refine n_nil (turn_next (hKw _ _ ⟨n, Nat.lt_succ_self n, c, Z ++ inL ks vs cs ks.length, rfl, rfl, HoldsL.iff.mp g1.2 c hm, o1, by (first | lia | omega), ?_⟩))
    rw [g4, ino_at v1 (Nat.le_refl _) e1]
    have : inR ks vs cs ks.length = [] := by
      unfold inR
      rw [List.drop_of_length_le (by rw [zip_len v1]; exact Nat.le_refl _), List.drop_of_length_le (by (first | lia | omega))]; rfl
    rw [this]; simp
theorem spec_least (h2 : T 2 = some f_is_leaf) (h16 : T 16 = some f_least_below) {self : V} {t : Tree} {Q : PV} (hD : 2 ≤ D) (hh : Holds G t) (sh : Sh D h t) (hk : 1 ≤ t.keys.length) (zz : (ino t).length ≤ 50000)
    (k : ∀ p G' pk pv Z, G.le G' → G' p = some (.tup [.int pk, pv]) → ino t = (pk, pv) :: Z → Q (.ref p) G') : S.Φ 16 [self, .ref t.addr] G Q := by
  refine S.call h16 rfl ?_
  dsimp only [f_least_below]
  walk_at "m"
  refine n_whl ?_
  refine ⟨fun n m G' => ∃ c Z, m = [some self, some (.ref (c : Tree).addr)] ∧ G' = G ∧ Holds G c ∧ Sh D n c ∧ 1 ≤ c.keys.length ∧ ino t = ino c ++ Z, h, ⟨t, [], rfl, rfl, hh, sh, hk, by simp⟩, ?_⟩
  intro n m G' hIw
  refine hideK fun Kw hKw => absG fun Cg hCg => ?_
  obtain ⟨c, Z, rfl, rfl, g1, g2, g3, g4⟩ := hIw
  obtain ⟨a, ks, vs, cs⟩ := c
  have na := g1.1
  have g3 : 1 ≤ ks.length := g3
  obtain ⟨v1, _, c1⟩ := kids_cases g2
  refine hCg ?_; clear hCg
  rw [t_not, t_meth, w_meth]
  walk_at "m"
  refine absG fun Cg hCg => ?_
  obtain ⟨pk', pv', pc', ha, hpk, hpv, hpc⟩ := na
  refine hCg ?_; clear hCg
  refine v_isInst ha (spec_is_leaf S h2 ha hpc ?_)
  walk_at "m"
  rcases c1 with ⟨rfl, rfl⟩ | ⟨q, c1⟩
  · refine v_ifF rfl ?_
    refine n_then ?_
    match ks, vs, g3, v1 with
    | x :: ks, y :: vs, _, _ =>
      walk_at "n"
      refine v_attr ha rfl (v_idxN (k := 0) hpk rfl (by decide) rfl ?_)
      refine v_attr ha rfl (v_idxN (k := 0) hpv rfl (by decide) rfl ?_)
      refine v_allocL fun p G2 L2 _ hp => ?_
      exact end_ret rfl (k p G2 x y (ks.zip vs ++ Z) L2 hp (by rw [g4]; rfl))
  · refine absG fun Cg hCg => ?_
    obtain ⟨n, rfl⟩ : ∃ n', n = n' + 1 := ⟨n - 1, by (first | lia | omega)⟩
    refine hCg ?_; clear hCg
    refine v_ifT (by simp [refsOf]; intro q; rw [q] at c1; simp at c1) ?_
    have e1 : cs[0]? = some (cs[0]'(by (first | lia | omega))) := List.getElem?_eq_getElem _
    generalize cs[0]'(by (first | lia | omega)) = c at e1
    walk_at "n"
    refine v_attr ha rfl (v_idxN (k := 0) (v := .ref c.addr) hpc rfl (by decide) (by unfold refsOf; rw [List.getElem?_map, e1]; rfl) ?_)
    have hm := List.mem_of_getElem? e1
    obtain ⟨o1, o2⟩ := g2.2.2.2 c hm
    refine n_nil (turn_next (hKw _ _ ⟨n, Nat.lt_succ_self n, c, inR ks vs cs 0 ++ Z, rfl, rfl, HoldsL.iff.mp g1.2 c hm, o1, by (first | lia | omega), ?_⟩))
    rw [g4, ino_at v1 (Nat.zero_le _) e1]
    have : inL ks vs cs 0 = [] := by unfold inL; simp [inoL, weaveL]
    rw [this]; simp
end
end ML
namespace ML
noncomputable def delEnd : List ML.S := [
  .setAttr (.var 0) 5 (.bop .sub (.attr (.var 0) 5) (.lit (.int 1))),
  .ite (.and (.cmp .eq (.prim .len [(.attr (.attr (.var 0) 4) 0)]) (.lit (.int 0))) (.not (.meth 2 (.attr (.var 0) 4) []))) [
    .setAttr (.var 0) 4 (.idx (.attr (.attr (.var 0) 4) 2) (.lit (.int 0)))] [],
  .ret (some (.lit (.bool true)))]
noncomputable def delLeaf : List ML.S :=
  .assign 4 (.meth 3 (.var 3) [(.var 1)]) ::
  .expr (.meth 4 (.var 3) [(.call 6 [(.attr (.var 3) 0), (.var 4)]), (.call 6 [(.attr (.var 3) 1), (.var 4)]), (.list [])]) :: delEnd
noncomputable def delPred : List ML.S := [
        .assign 7 (.meth 17 (.var 0) [(.var 5)]),
        .expr (.meth 4 (.var 3) [(.call 5 [(.attr (.var 3) 0), (.var 4), (.idx (.var 7) (.lit (.int 0)))]), (.call 5 [(.attr (.var 3) 1), (.var 4), (.idx (.var 7) (.lit (.int 1)))]), (.slice (.attr (.var 3) 2) none none)]),
        .assign 1 (.idx (.var 7) (.lit (.int 0))),
        .assign 3 (.var 5)]
noncomputable def delSucc : List ML.S := [
          .assign 7 (.meth 16 (.var 0) [(.var 6)]),
          .expr (.meth 4 (.var 3) [(.call 5 [(.attr (.var 3) 0), (.var 4), (.idx (.var 7) (.lit (.int 0)))]), (.call 5 [(.attr (.var 3) 1), (.var 4), (.idx (.var 7) (.lit (.int 1)))]), (.slice (.attr (.var 3) 2) none none)]),
          .assign 1 (.idx (.var 7) (.lit (.int 0))),
          .assign 3 (.var 6)]
noncomputable def delIn : List ML.S := [
      .assign 5 (.idx (.attr (.var 3) 2) (.var 4)),
      .assign 6 (.idx (.attr (.var 3) 2) (.bop .add (.var 4) (.lit (.int 1)))),
      .ite (.cmp .ge (.prim .len [(.attr (.var 5) 0)]) (.var 2)) delPred [
        .ite (.cmp .ge (.prim .len [(.attr (.var 6) 0)]) (.var 2)) delSucc [
          .expr (.meth 12 (.var 0) [(.var 3), (.var 4)]),
          .assign 3 (.var 5)]]]
noncomputable def delDown : List ML.S := [
      .assign 4 (.meth 15 (.var 0) [(.var 3), (.var 4)]),
      .assign 3 (.idx (.attr (.var 3) 2) (.var 4))]
noncomputable def delBody : List ML.S := [
    .assign 4 (.meth 3 (.var 3) [(.var 1)]),
    .ite (.and (.cmp .lt (.var 4) (.prim .len [(.attr (.var 3) 0)])) (.cmp .eq (.idx (.attr (.var 3) 0) (.var 4)) (.var 1))) delIn delDown]
theorem f_delete_eq : f_delete = ⟨2, 8,
  .ite (.cmp .is (.meth 8 (.var 0) [(.var 1)]) (.lit .none)) [
    .ret (some (.lit (.bool false)))] [] ::
  .assign 2 (.attr (.var 0) 3) ::
  .assign 3 (.attr (.var 0) 4) ::
  .whl (.not (.meth 2 (.var 3) [])) delBody :: delLeaf⟩ := rfl
structure Dst (K : Heap → Prop) (tv : V) (D cn : Nat) (y z : V) (G : Heap) (t : Tree) (n : Nat) (key : Int) : Prop where
  hD : 2 ≤ D
  hh : Holds G t
  nd : t.addrs.Nodup
  sh : Sh D n t
  srt : Srt (ino t)
  zz : (ino t).length ≤ 50000
  hk : n = 0 ∨ 1 ≤ t.keys.length
  mem : ∃ w, (key, w) ∈ ino t
  obj : G cn = some (.inst 1 [(3, tv), (4, y), (5, z)])
  ap : cn ∉ t.addrs
  clo : CloD K D G t n key
section
variable {T : Nat → Option Fn} (S : Sys T) {K : Heap → Prop} {D cn n a i : Nat} {y z : V} {G : Heap} {ks : List Int} {vs : List V} {cs : List Tree} {key : Int} {x4 x5 x6 x7 : Option V} {R : PS}
theorem Dst.fc (s : Dst K (.int D) D cn y z G (.node a ks vs cs) (n + 1) key) : Fc D n G cn a y z ks vs cs := ⟨s.hD, s.obj, s.hh, s.nd, s.sh, s.zz, s.hk.elim (fun q => by cases q) id⟩
theorem Dst.fill {t t1 c c' : Tree} {G1 : Heap} {w : V} (s : Dst K (.int D) D cn y z G t (n + 1) key) (f : Filled D n G G1 t t1 c c' i) (hm : (key, w) ∈ ino c) : Dst K (.int D) D cn y z G1 c' n key := by
  have hm := f.mem _ hm
  have clo := s.clo.fill f s.srt hm
  have srt1 : Srt (ino t1) := by rw [f.ino]; exact s.srt
  obtain ⟨o1, o2⟩ := frame_of f.upd s.obj s.ap
  refine absG fun Cg hCg => ?_
  obtain ⟨a, ks, vs, cs⟩ := t1
  refine hCg ?_; clear hCg
  have hi : i ≤ ks.length := by
    have := lt_of_get f.kid
    have e : cs.length = ks.length + 1 := f.sh.1
    have e2 : i < cs.length := this
    (first | lia | omega)
  refine absG fun Cg hCg => ?_
  obtain ⟨h1, h2, h3, h4, h5, h6, h7⟩ := child_of f.upd.holds f.upd.nodup f.sh srt1 f.kid hi
  have zz := s.zz
  refine hCg ?_; clear hCg
  rw [← f.ino] at zz
  exact ⟨s.hD, h1, h2, h6, h3, Nat.le_trans h4 zz, .inr (by have := f.full; have := s.hD; (first | lia | omega)), ⟨_, hm⟩, o1, fun q => o2 (h5 _ q), clo⟩
theorem del_down (h4 : T 4 = some f_lay) (h5 : T 5 = some f_row_with) (h6 : T 6 = some f_row_without) (h12 : T 12 = some f_merge_children) (h13 : T 13 = some f_borrow_from_left) (h14 : T 14 = some f_borrow_from_right) (h15 : T 15 = some f_fill_child) (s : Dst K (.int D) D cn y z G (.node a ks vs cs) (n + 1) key) (u : Under ks i key) (hi : i ≤ ks.length)
    (k : ∀ G1 c key' x4 x5 x6 x7, Dst K (.int D) D cn y z G1 c n key' → R .next [some (.ref cn), some (.int key'), some (.int D), some (.ref c.addr), x4, x5, x6, x7] G1) :
    wpSs S.Φ delDown [some (.ref cn), some (.int key), some (.int D), some (.ref a), some (.int i), x5, x6, x7] G R := by
  have s1 := s.sh.1
  have ci : cs[i]? = some (cs[i]'(by (first | lia | omega))) := List.getElem?_eq_getElem _
  generalize cs[i]'(by (first | lia | omega)) = c at ci
  obtain ⟨w, hw⟩ := s.mem
  obtain ⟨hl, hr⟩ := under_sides s.sh.2.1 s1 hi ci s.srt u
  have hm : (key, w) ∈ ino c := by
    rw [ino_at s.sh.2.1 hi ci] at hw
    rcases List.mem_append.mp hw with q | q
    · exact absurd (hl _ q) (Int.lt_irrefl _)
    · rcases List.mem_append.mp q with q | q
      · exact q
      · exact absurd (hr _ q) (Int.lt_irrefl _)
  unfold delDown
  walk_at "n"
  refine v_isInst s.obj ?_
  refine spec_fill S h4 h5 h6 h12 h13 h14 h15 s.fc ci fun G1 t' c' i' f => ?_
  have d := s.fill f hm
  have na := f.upd.holds.at
  have ea : t'.addr = a := f.upd.addr
  rw [ea] at na
  walk_at "n"
  refine at_c na fun p hp => v_idxN (v := .ref c'.addr) hp rfl ?_ (by unfold refsOf; rw [List.getElem?_map, f.kid]; rfl) ?_
  · have e1 := lt_of_get f.kid
    have e2 : t'.kids.length = t'.keys.length + 1 := by
      have := f.sh
      cases t' with | node _ _ _ _ => exact this.1
    have e3 := keys_le (t := t') f.sh.len.1
    have e4 := s.zz
    rw [f.ino] at e3
    (first | lia | omega)
  exact n_nil (k G1 c' key _ _ _ _ d)
end
section
variable {T : Nat → Option Fn} (S : Sys T) {K : Heap → Prop} {D cn n a i : Nat} {y z : V} {G : Heap} {K1 K2 : List Int} {V1 V2 : List V} {C1 C2 : List Tree} {k : Int} {v : V} {L R : Tree} {x4 x5 x6 x7 : Option V} {P : PS}
theorem Dst.two (s : Dst K (.int D) D cn y z G (.node a (K1 ++ k :: K2) (V1 ++ v :: V2) (C1 ++ L :: R :: C2)) (n + 1) k) (l1 : K1.length = i) (l2 : V1.length = i) (l3 : C1.length = i) : Two D n G a i K1 K2 V1 V2 C1 C2 k v L R := ⟨s.hh, s.nd, s.sh, l1, l2, l3, s.zz⟩
theorem lay_pair (h4 : T 4 = some f_lay) (h5 : T 5 = some f_row_with) {Q : PS} {r : List ML.S} {pk : Int} {pv : V} {p : Nat} {Gp : Heap} (s : Dst K (.int D) D cn y z G (.node a (K1 ++ k :: K2) (V1 ++ v :: V2) (C1 ++ L :: R :: C2)) (n + 1) k) (w : Two D n G a i K1 K2 V1 V2 C1 C2 k v L R) (lp : G.le Gp) (hp : Gp p = some (.tup [.int pk, pv]))
    (q : ∀ G1, Upd G G1 (.node a (K1 ++ k :: K2) (V1 ++ v :: V2) (C1 ++ L :: R :: C2)) (.node a (K1 ++ pk :: K2) (V1 ++ pv :: V2) (C1 ++ L :: R :: C2)) → G1 p = some (.tup [.int pk, pv]) → wpSs S.Φ r [some (.ref cn), some (.int k), some (.int D), some (.ref a), some (.int i), x5, x6, some (.ref p)] G1 Q) :
    wpSs S.Φ (.expr (.meth 4 (.var 3) [(.call 5 [(.attr (.var 3) 0), (.var 4), (.idx (.var 7) (.lit (.int 0)))]), (.call 5 [(.attr (.var 3) 1), (.var 4), (.idx (.var 7) (.lit (.int 1)))]), (.slice (.attr (.var 3) 2) none none)]) :: r) [some (.ref cn), some (.int k), some (.int D), some (.ref a), some (.int i), x5, x6, some (.ref p)] Gp Q := by
  refine absG fun Cg hCg => ?_
  obtain ⟨z1, z2, z3⟩ := node_sizes s.sh s.zz
  have na := s.hh.1.le lp
  refine hCg ?_; clear hCg
  walk_at "n"
  refine at_inst na rfl (at_k na fun p1 e1 => ?_)
  refine v_idx hp rfl (by decide) (by decide) rfl ?_
  refine row_with2 S h5 (i := i) e1 (by rw [List.length_map, List.length_append, List.length_cons, w.lk]; (first | lia | omega)) (by rw [List.length_map]; exact zof z1) fun y1 Y1 m1 g1 => ?_
  refine at_v (na.le m1) fun p2 e2 => ?_
  refine v_idx (m1 _ _ hp) rfl (by decide) (by decide) rfl ?_
  refine row_with2 S h5 (i := i) e2 (by rw [List.length_append, List.length_cons, w.lv]; (first | lia | omega)) (zof z2) fun y2 Y2 m2 g2 => ?_
  have M2 := Heap.le_trans m1 m2
  refine at_c (na.le M2) fun p3 e3 => ?_
  refine v_sliceL e3 rfl rfl rfl trivial trivial (lim1 (by rw [refsOf, List.length_map]; exact zof1 z3)) fun y3 Y3 m3 _ g3 => ?_
  have M3 := Heap.le_trans M2 m3
  have LL := Heap.le_trans lp M3
  walk_at "m"
  refine absG fun Cg hCg => ?_
  obtain ⟨_, _, _, ha, _⟩ := na.le M3
  refine hCg ?_; clear hCg
  refine spec_lay S h4 ha ?_
  walk_at "m"
  have u := upd_lay (k := y1) (v := y2) (c := y3) (ks' := K1 ++ pk :: K2) (vs' := V1 ++ pv :: V2) s.hh s.nd LL (by rw [m3 _ _ (m2 _ _ g1), ← set_at (y := pk) w.lk, List.map_set]) (by rw [m3 _ _ g2, set_at w.lv]) g3
  refine q _ u ?_
  rw [upd_ne (fun e => by rw [e] at hp; have := M3 _ _ hp; rw [ha] at this; cases this)]
  exact M3 _ _ hp
theorem del_pred (h2 : T 2 = some f_is_leaf) (h4 : T 4 = some f_lay) (h5 : T 5 = some f_row_with) (h17 : T 17 = some f_greatest_below) (s : Dst K (.int D) D cn y z G (.node a (K1 ++ k :: K2) (V1 ++ v :: V2) (C1 ++ L :: R :: C2)) (n + 1) k) (w : Two D n G a i K1 K2 V1 V2 C1 C2 k v L R) (hL : D ≤ L.keys.length)
    (q : ∀ G1 c key' x4 x5 x6 x7, Dst K (.int D) D cn y z G1 c n key' → P .next [some (.ref cn), some (.int key'), some (.int D), some (.ref c.addr), x4, x5, x6, x7] G1) :
    wpSs S.Φ delPred [some (.ref cn), some (.int k), some (.int D), some (.ref a), some (.int i), some (.ref L.addr), x6, x7] G P := by
  refine absG fun Cg hCg => ?_
  obtain ⟨kL, kR, oL, oR, zL, zR⟩ := w.kids
  have hD := s.hD
  have hi : i ≤ (K1 ++ k :: K2).length := by rw [List.length_append, w.lk]; (first | lia | omega)
  obtain ⟨c1, c2, c3, c4, c5, c6, c7⟩ := child_of s.hh s.nd s.sh s.srt (get_at w.lc) hi
  refine hCg ?_; clear hCg
  unfold delPred
  walk_at "n"
  refine v_isInst s.obj ?_
  refine spec_greatest S h2 h17 hD kL oL.1 (by (first | lia | omega)) zL fun p Gp pk pv Z lp hp eZ => ?_
  refine lay_pair S h4 h5 s w lp hp fun G1 u hp1 => ?_
  obtain ⟨o1, o2⟩ := frame_of u s.obj s.ap
  walk_at "n"
  refine v_idx hp1 rfl (by decide) (by decide) rfl ?_
  walk_at "n"
  refine n_nil (q G1 L pk _ _ _ _ ⟨hD, HoldsL.iff.mp u.holds.2 L (by simp), c2, c6, c3, zL, .inr (by (first | lia | omega)), ⟨pv, by rw [eZ]; simp⟩, o1, fun q => s.ap (c5 _ q), s.clo.pred w s.srt hL eZ u⟩)
theorem del_succ (h2 : T 2 = some f_is_leaf) (h4 : T 4 = some f_lay) (h5 : T 5 = some f_row_with) (h16 : T 16 = some f_least_below) (s : Dst K (.int D) D cn y z G (.node a (K1 ++ k :: K2) (V1 ++ v :: V2) (C1 ++ L :: R :: C2)) (n + 1) k) (w : Two D n G a i K1 K2 V1 V2 C1 C2 k v L R) (hR : D ≤ R.keys.length)
    (q : ∀ G1 c key' x4 x5 x6 x7, Dst K (.int D) D cn y z G1 c n key' → P .next [some (.ref cn), some (.int key'), some (.int D), some (.ref c.addr), x4, x5, x6, x7] G1) :
    wpSs S.Φ delSucc [some (.ref cn), some (.int k), some (.int D), some (.ref a), some (.int i), x5, some (.ref R.addr), x7] G P := by
  refine absG fun Cg hCg => ?_
  obtain ⟨kL, kR, oL, oR, zL, zR⟩ := w.kids
  have hD := s.hD
  have hi : i + 1 ≤ (K1 ++ k :: K2).length := by rw [List.length_append, List.length_cons, w.lk]; (first | lia | omega)
  obtain ⟨c1, c2, c3, c4, c5, c6, c7⟩ := child_of s.hh s.nd s.sh s.srt (get_at1 w.lc) hi
  refine hCg ?_; clear hCg
  unfold delSucc
  walk_at "n"
  refine v_isInst s.obj ?_
  refine spec_least S h2 h16 hD kR oR.1 (by (first | lia | omega)) zR fun p Gp pk pv Z lp hp eZ => ?_
  refine lay_pair S h4 h5 s w lp hp fun G1 u hp1 => ?_
  obtain ⟨o1, o2⟩ := frame_of u s.obj s.ap
  walk_at "n"
  refine v_idx hp1 rfl (by decide) (by decide) rfl ?_
  walk_at "n"
  refine n_nil (q G1 R pk _ _ _ _ ⟨hD, HoldsL.iff.mp u.holds.2 R (by simp), c2, c6, c3, zR, .inr (by (first | lia | omega)), ⟨pv, by rw [eZ]; simp⟩, o1, fun q => s.ap (c5 _ q), s.clo.succ w s.srt hR eZ u⟩)
theorem del_in (h2 : T 2 = some f_is_leaf) (h4 : T 4 = some f_lay) (h5 : T 5 = some f_row_with) (h6 : T 6 = some f_row_without) (h12 : T 12 = some f_merge_children) (h16 : T 16 = some f_least_below) (h17 : T 17 = some f_greatest_below) (s : Dst K (.int D) D cn y z G (.node a (K1 ++ k :: K2) (V1 ++ v :: V2) (C1 ++ L :: R :: C2)) (n + 1) k) (w : Two D n G a i K1 K2 V1 V2 C1 C2 k v L R)
    (q : ∀ G1 c key' x4 x5 x6 x7, Dst K (.int D) D cn y z G1 c n key' → P .next [some (.ref cn), some (.int key'), some (.int D), some (.ref c.addr), x4, x5, x6, x7] G1) :
    wpSs S.Φ delIn [some (.ref cn), some (.int k), some (.int D), some (.ref a), some (.int i), x5, x6, x7] G P := by
  refine absG fun Cg hCg => ?_
  obtain ⟨kL, kR, oL, oR, zL, zR⟩ := w.kids
  have hD := s.hD
  obtain ⟨z1, z2, z3⟩ := node_sizes s.sh s.zz
  have hi : i ≤ 50000 := by rw [List.length_append, List.length_cons, w.lk] at z1; (first | lia | omega)
  have na := s.hh.1
  refine hCg ?_; clear hCg
  unfold delIn
  walk_at "n"
  refine at_c na fun p hp => v_idxN hp rfl (Nat.le_trans hi (by decide)) (refs_at w.lc) ?_
  walk_at "n"
  refine at_c na fun p hp => v_idxN (k := i + 1) hp rfl (Nat.le_trans (Nat.succ_le_succ hi) (by decide)) (refs_at1 w.lc) ?_
  walk_at "n"
  refine at_k kL.at fun p hp => v_len hp rfl ?_
  walk_at "m"
  rw [List.length_map]
  refine v_if (fun e1 => ?_) fun e1 => ?_
  · have e1 := of_decide_eq_true e1
    exact del_pred S h2 h4 h5 h17 s w (by (first | lia | omega)) fun G1 c key' x4 x5 x6 x7 d => n_then (n_nil (q G1 c key' x4 x5 x6 x7 d))
  have e1 := of_decide_eq_false e1
  walk_at "n"
  refine at_k kR.at fun p hp => v_len hp rfl ?_
  walk_at "m"
  rw [List.length_map]
  refine v_if (fun e2 => ?_) fun e2 => ?_
  · have e2 := of_decide_eq_true e2
    exact del_succ S h2 h4 h5 h16 s w (by (first | lia | omega)) fun G1 c key' x4 x5 x6 x7 d => n_then (n_nil (n_then (n_nil (q G1 c key' x4 x5 x6 x7 d))))
  have e2 := of_decide_eq_false e2
  walk_at "n"
  refine v_isInst s.obj ?_
  refine tree_merge S h4 h6 h12 hD w (by (first | lia | omega)) fun G' t' M f eM aM => ?_
  have hm : (k, v) ∈ ino M := by rw [eM]; simp
  have d := s.fill (f M fun x hx => hx) hm
  walk_at "m"
  walk_at "n"
  rw [← aM]
  exact n_nil (n_then (n_nil (n_then (n_nil (q G' M k _ _ _ _ d)))))
end
end ML
namespace ML
section
variable {T : Nat → Option Fn} (S : Sys T) {K : Heap → Prop} {D cn n a : Nat} {y z : V} {G : Heap} {ks : List Int} {vs : List V} {cs : List Tree} {key : Int} {x4 x5 x6 x7 : Option V} {R : PS}
theorem del_turn (h2 : T 2 = some f_is_leaf) (h3 : T 3 = some f_slot) (h4 : T 4 = some f_lay) (h5 : T 5 = some f_row_with) (h6 : T 6 = some f_row_without) (h12 : T 12 = some f_merge_children) (h13 : T 13 = some f_borrow_from_left) (h14 : T 14 = some f_borrow_from_right) (h15 : T 15 = some f_fill_child) (h16 : T 16 = some f_least_below) (h17 : T 17 = some f_greatest_below)
    (s : Dst K (.int D) D cn y z G (.node a ks vs cs) (n + 1) key)
    (k : ∀ G1 c key' x4 x5 x6 x7, Dst K (.int D) D cn y z G1 c n key' → R .next [some (.ref cn), some (.int key'), some (.int D), some (.ref c.addr), x4, x5, x6, x7] G1) :
    wpSs S.Φ delBody [some (.ref cn), some (.int key), some (.int D), some (.ref a), x4, x5, x6, x7] G R := by
  refine absG fun Cg hCg => ?_
  obtain ⟨z1, z2, z3⟩ := node_sizes s.sh s.zz
  have s2 := s.sh.2.1
  have hs := keys_srt s.srt s2
  obtain ⟨pk, pv, pc, ha, hpk, hpv, hpc⟩ := s.hh.1
  refine hCg ?_; clear hCg
  unfold delBody
  walk_at "n"
  refine v_isInst ha (spec_slot S h3 ha hpk hs (zof z1) ?_)
  have hb : below ks key ≤ ks.length := below_le
  walk_at "n"
  refine v_attr ha rfl (v_len hpk rfl ?_)
  walk_at "m"
  rw [List.length_map]
  have down : ks[below ks key]? ≠ some key → wpSs S.Φ delDown [some (.ref cn), some (.int key), some (.int D), some (.ref a), some (.int (below ks key)), x5, x6, x7] G (thenW (fun m H => wpSs S.Φ [] m H R) R) := fun hne =>
    del_down S h4 h5 h6 h12 h13 h14 h15 s (under_of hs hne) hb fun G1 c key' x4 x5 x6 x7 d => n_then (n_nil (k G1 c key' x4 x5 x6 x7 d))
  refine v_if (fun e1 => ?_) fun e1 => ?_
  · have e1 := of_decide_eq_true e1
    have e1 : below ks key < ks.length := by (first | lia | omega)
    have ek : ks[below ks key]? = some (ks[below ks key]'e1) := List.getElem?_eq_getElem _
    generalize ks[below ks key]'e1 = kk at ek
    refine v_attr ha rfl (v_idxN (v := .int kk) hpk rfl (by (first | lia | omega)) (by rw [List.getElem?_map, ek]; rfl) ?_)
    walk_at "m"
    refine v_if (fun e2 => ?_) fun e2 => ?_
    · have e2 := of_decide_eq_true e2
      subst e2
      refine absG fun Cg hCg => ?_
      obtain ⟨K1, k', K2, V1, v, V2, C1, L, R', C2, rfl, rfl, rfl, l1, l2, l3⟩ := parts_of (i := below ks kk) s2 s.sh.1 e1
      refine hCg ?_; clear hCg
      rw [get_at l1] at ek
      cases ek
      exact del_in S h2 h4 h5 h6 h12 h16 h17 s (s.two l1 l2 l3) fun G1 c key' x4 x5 x6 x7 d => n_then (n_nil (k G1 c key' x4 x5 x6 x7 d))
    · have e2 := of_decide_eq_false e2
      exact down fun q => by rw [ek] at q; cases q; exact e2 rfl
  · have e1 := of_decide_eq_false e1
    walk_at "m"
    exact down fun q => by have := lt_of_get q; (first | lia | omega)
theorem del_leaf (h3 : T 3 = some f_slot) (h4 : T 4 = some f_lay) (h6 : T 6 = some f_row_without) {tv : V} {x2 : Option V} (s : Dst K tv D cn y z G (.node a ks vs []) 0 key)
    (k : ∀ G1 m, K G1 → m[0]? = some (some (.ref cn)) → wpSs S.Φ delEnd m G1 R) :
    wpSs S.Φ delLeaf [some (.ref cn), some (.int key), x2, some (.ref a), x4, x5, x6, x7] G R := by
  refine absG fun Cg hCg => ?_
  obtain ⟨z1, z2, z3⟩ := node_sizes s.sh s.zz
  obtain ⟨_, s2, s3⟩ := s.sh
  have hs := keys_srt s.srt s2
  have na := s.hh.1
  obtain ⟨pk, pv, pc, ha, hpk, hpv, hpc⟩ := s.hh.1
  obtain ⟨w, hw⟩ := s.mem
  refine hCg ?_; clear hCg
  have ek : ks[below ks key]? = some key := by
    by_cases q : ks[below ks key]? = some key
    · exact q
    · exfalso
      have u := under_of hs q
      obtain ⟨j, hj⟩ := List.mem_iff_getElem?.mp (show (key, w) ∈ ks.zip vs from hw)
      have hk := (List.getElem?_zip_eq_some.mp hj).1
      by_cases e : j < below ks key
      · exact Int.lt_irrefl _ (u.lt j _ e hk)
      · exact Int.lt_irrefl _ (u.gt j _ (Nat.le_of_not_lt e) hk)
  unfold delLeaf
  walk_at "n"
  refine v_isInst ha (spec_slot S h3 ha hpk hs (zof z1) ?_)
  generalize below ks key = i at ek
  have hi := lt_of_get ek
  walk_at "n"
  refine at_inst na rfl (at_k na fun p1 e1 => ?_)
  refine spec_row_without S h6 e1 (by rw [List.length_map]; exact le1 (zof z1)) fun y1 Y1 m1 _ g1 => ?_
  refine at_v (na.le m1) fun p2 e2 => ?_
  refine spec_row_without S h6 e2 (le1 (zof z2)) fun y2 Y2 m2 _ g2 => ?_
  have M2 := Heap.le_trans m1 m2
  refine v_allocL fun y3 Y3 m3 _ g3 => ?_
  have M3 := Heap.le_trans M2 m3
  walk_at "m"
  refine absG fun Cg hCg => ?_
  obtain ⟨_, _, _, ha3, _⟩ := na.le M3
  refine hCg ?_; clear hCg
  refine spec_lay S h4 ha3 ?_
  walk_at "m"
  have hv : vs[i]? = some (vs[i]'(by (first | lia | omega))) := List.getElem?_eq_getElem _
  generalize vs[i]'(by (first | lia | omega)) = vv at hv
  have u := upd_lay (k := y1) (v := y2) (c := y3) (ks' := del ks i) (vs' := del vs i) s.hh s.nd M3 (by rw [m3 _ _ (m2 _ _ g1), del_map]) (m3 _ _ g2) g3
  have lk : (del ks i).length + 1 = ks.length := by unfold del; rw [List.length_append, List.length_take, List.length_drop]; (first | lia | omega)
  have lv : (del vs i).length + 1 = vs.length := by unfold del; rw [List.length_append, List.length_take, List.length_drop]; (first | lia | omega)
  refine k _ _ (s.clo _ _ u ⟨rfl, by (first | lia | omega), by (first | lia | omega)⟩ (by show ks.length ≤ (del ks i).length + 1; (first | lia | omega)) ?_) rfl
  have e1 := get_split ek
  have e2 := get_split hv
  have hz : (ks.take i).length = (vs.take i).length := by rw [List.length_take, List.length_take, s2]
  have ez : ks.zip vs = (ks.take i).zip (vs.take i) ++ (key, vv) :: (ks.drop (i + 1)).zip (vs.drop (i + 1)) := by
    conv => lhs; rw [e1, e2]
    rw [List.zip_append hz]; rfl
  have srt : Srt (ks.zip vs) := s.srt
  show (del ks i).zip (del vs i) = delL (ks.zip vs) key
  rw [ez] at srt ⊢
  rw [delL_one srt]
  unfold del
  rw [List.zip_append hz]
theorem del_end (h2 : T 2 = some f_is_leaf) {tv : V} {m : Loc} {root : Tree} {size : Int} {Q : PV} (hD : 2 ≤ D) (hm : m[0]? = some (some (.ref cn))) (im : IsMapT tv G cn D n root size)
    (k1 : ∀ G', IsMapT tv G' cn D n root (size - 1) → (n = 0 ∨ 1 ≤ root.keys.length) → (∀ b o, G b = some o → b ≠ cn → G' b = some o) → Q (.bool true) G')
    (k2 : ∀ G' n' c, n = n' + 1 → root.keys.length = 0 → IsMapT tv G' cn D n' c (size - 1) → ino c = ino root → (n' = 0 ∨ 1 ≤ c.keys.length) → (∀ b ∈ c.addrs, b ∈ root.addrs) → (∀ b o, G b = some o → b ≠ cn → G' b = some o) → Q (.bool true) G') :
    wpSs S.Φ delEnd m G (fin Q) := by
  unfold delEnd
  refine n_setAttr (r_bop (r_attr (r_var hm (v_attr im.obj rfl (r_lit (v_subI (r_var hm ?_)))))))
  refine v_setAttr (fs' := [(3, tv), (4, .ref root.addr), (5, .int (size - 1))]) im.obj (by simp) rfl ?_
  have o1 : (G.upd cn (.inst 1 [(3, tv), (4, .ref root.addr), (5, .int (size - 1))])) cn = some (.inst 1 [(3, tv), (4, .ref root.addr), (5, .int (size - 1))]) := upd_self
  have hh := Holds.upd (o := .inst 1 [(3, tv), (4, .ref root.addr), (5, .int (size - 1))]) im.obj im.holds im.apart
  have fr : ∀ b o, G b = some o → b ≠ cn → (G.upd cn (.inst 1 [(3, tv), (4, .ref root.addr), (5, .int (size - 1))])) b = some o := fun b o e nb => by rw [upd_ne nb]; exact e
  generalize G.upd cn (.inst 1 [(3, tv), (4, .ref root.addr), (5, .int (size - 1))]) = G1 at o1 hh fr
  refine absG fun Cg hCg => ?_
  obtain ⟨pk, pv, pc, ha, hpk, hpv, hpc⟩ := hh.at
  have stay : IsMapT tv G1 cn D n root (size - 1) := ⟨o1, hh, im.nodup, im.sh, im.srt, im.deg⟩
  refine hCg ?_; clear hCg
  refine n_ite (q_and (q_cmp (r_prim (r_econs (r_attr (r_attr (r_var hm (v_attr o1 rfl (v_attr ha rfl (r_enil (v_len hpk rfl (r_lit (v_eqI ?_)))))))))))))
  rw [List.length_map]
  have fin1 : (n = 0 ∨ 1 ≤ root.keys.length) → wpSs S.Φ [] m G1 (thenW (fun m H => wpSs S.Φ [.ret (some (.lit (.bool true)))] m H (fin Q)) (fin Q)) := fun hr => n_nil (n_then (n_ret (r_lit (end_ret rfl (k1 G1 stay hr fr)))))
  refine v_if (fun e => ?_) fun e => ?_
  · have e := of_decide_eq_true e
    have e : root.keys.length = 0 := by (first | lia | omega)
    refine q_not (q_meth ?_)
    rw [w_meth]
    refine r_attr (r_var hm (v_attr o1 rfl (v_isInst ha (r_enil (spec_is_leaf S h2 ha hpc (v_tB ?_))))))
    cases n with
    | zero =>
      have ek : root.kids = [] := by
        have := im.sh
        cases root with | node _ _ _ _ => exact this.1
      rw [ek]
      exact v_ifF rfl (fin1 (.inl rfl))
    | succ n' =>
      have ek : root.kids.length = 1 := by
        have := im.sh
        cases root with | node _ _ _ _ => have h1 := this.1; have e : _ = 0 := e; simp only [Tree.keys] at e; simp only [Tree.kids]; (first | lia | omega)
      refine v_ifT (by rw [refsOf, List.length_map, ek]; rfl) ?_
      refine absG fun Cg hCg => ?_
      obtain ⟨a, ks, vs, cs⟩ := root
      refine hCg ?_; clear hCg
      obtain ⟨c, rfl⟩ := List.length_eq_one_iff.mp (show cs.length = 1 from ek)
      have ek : ks = [] := List.length_eq_zero_iff.mp e
      subst ek
      have ei : ino (.node a [] vs [c]) = ino c := by simp [ino, inoL, weave]
      have eaL : addrsL [c] = c.addrs := by simp [addrsL]
      refine n_setAttr (r_idx (r_attr (r_attr (r_var hm (v_attr o1 rfl (v_attr ha rfl (r_lit (v_idx (v := .ref c.addr) hpc rfl (by decide) (by decide) rfl (r_var hm ?_)))))))))
      refine v_setAttr (fs' := [(3, tv), (4, .ref c.addr), (5, .int (size - 1))]) o1 (by simp) rfl ?_
      refine n_nil (n_then (n_ret (r_lit (end_ret rfl ?_))))
      have nc : c.addrs.Nodup := by have := (List.nodup_cons.mp im.nodup).2; rwa [eaL] at this
      have sub : ∀ b ∈ c.addrs, b ∈ (Tree.node a [] vs [c]).addrs := fun b hb => .tail _ (by rw [eaL]; exact hb)
      have okc := im.sh.2.2.2 c (.head _)
      refine k2 _ n' c rfl rfl ⟨upd_self, Holds.upd o1 hh.2.1 fun q => im.apart (sub _ q), nc, okc.1, by rw [← ei]; exact im.srt, .inl (im.deg.resolve_right fun q => Nat.succ_ne_zero _ q.1)⟩ ei.symm (.inr (by have := okc.2; (first | lia | omega))) sub fun b o e nb => ?_
      rw [upd_ne nb]; exact fr b o e nb
  · have e := of_decide_eq_false e
    refine v_ifF rfl (fin1 (.inr (by (first | lia | omega))))
theorem isW_none {v : V} {B : Bool → Prop} (h1 : v = .none → B true) (h2 : v ≠ .none → B false) : isW v .none G B := by
  cases v with
  | none => exact h1 rfl
  | _ => exact h2 (by intro q; cases q)
theorem getL_mem {l : List KV} (h : getL l key ≠ .none) : ∃ w, (key, w) ∈ l := by
  unfold getL at h
  split at h
  · rename_i p hp
    have h1 := List.mem_of_find?_eq_some hp
    have h2 := List.find?_some hp
    exact ⟨p.2, by rw [← beq_iff_eq.mp h2]; exact h1⟩
  · exact absurd rfl h
theorem spec_delete (h2 : T 2 = some f_is_leaf) (h3 : T 3 = some f_slot) (h4 : T 4 = some f_lay) (h5 : T 5 = some f_row_with) (h6 : T 6 = some f_row_without) (h8 : T 8 = some f_lookup) (h12 : T 12 = some f_merge_children) (h13 : T 13 = some f_borrow_from_left) (h14 : T 14 = some f_borrow_from_right) (h15 : T 15 = some f_fill_child) (h16 : T 16 = some f_least_below) (h17 : T 17 = some f_greatest_below) (h18 : T 18 = some f_delete)
    {tv : V} {h : Nat} {root : Tree} {size : Int} {Q : PV} (hD : 2 ≤ D) (im : IsMapT tv G cn D h root size) (hr : h = 0 ∨ 1 ≤ root.keys.length) (zz : (ino root).length ≤ 50000) (kf : getL (ino root) key = .none → Q (.bool false) G)
    (kt : getL (ino root) key ≠ .none → ∀ root' h' G', IsMapT tv G' cn D h' root' (size - 1) → (h' = 0 ∨ 1 ≤ root'.keys.length) → ino root' = delL (ino root) key → (∀ b o, G b = some o → b ≠ cn → b ∉ root.addrs → G' b = some o) → (∀ b ∈ root'.addrs, b ∈ root.addrs ∨ G b = none) → Q (.bool true) G') : S.Φ 18 [.ref cn, .int key] G Q := by
  rw [f_delete_eq] at h18
  refine S.call h18 rfl ?_
  dsimp only
  walk_at "m"
  walk_at "n"
  refine v_isInst im.obj ?_
  refine spec_lookup S h2 h3 h8 im zz ?_
  refine isW_none (fun e => ?_) fun hne => ?_
  · walk_at "m"
    exact end_ret rfl (kf e)
  have kt := kt hne
  walk_at "m"
  walk_at "n"
  refine v_attr im.obj rfl ?_
  walk_at "n"
  refine v_attr im.obj rfl ?_
  walk_at "m"
  refine n_whl ?_
  refine ⟨fun n m' Gx => ∃ (t : Tree) (key' : Int) (x4 x5 x6 x7 : Option V), (tv = .int D ∨ n = 0) ∧ m' = [some (.ref cn), some (.int key'), some tv, some (.ref t.addr), x4, x5, x6, x7] ∧ Dst (fun G1 => ∃ root1, Upd G G1 root root1 ∧ Sh D h root1 ∧ ino root1 = delL (ino root) key) tv D cn (.ref root.addr) (.int size) Gx t n key',
    h, ⟨root, key, none, none, none, none, im.deg.imp id (·.1), rfl, hD, im.holds, im.nodup, im.sh, im.srt, zz, hr, getL_mem hne, im.obj, im.apart, fun t' G' u s _ e => ⟨t', u, s, e⟩⟩, ?_⟩
  intro n m' Gx hIw
  refine hideK fun Kw hKw => absG fun Cg hCg => ?_
  obtain ⟨t, key', x4, x5, x6, x7, d0, rfl, d⟩ := hIw
  obtain ⟨a, ks, vs, cs⟩ := t
  obtain ⟨pk, pv, pc, ha, hpk, hpv, hpc⟩ := d.hh.1
  refine hCg ?_; clear hCg
  rw [t_not, t_meth, w_meth]
  walk_at "m"
  refine v_isInst ha (spec_is_leaf S h2 ha hpc ?_)
  walk_at "m"
  cases n with
  | zero =>
    have hcs : cs = [] := d.sh.1
    subst hcs
    refine v_ifF rfl (n_then ?_)
    refine del_leaf S h3 h4 h6 d fun G1 m ⟨root1, u, s1, e1⟩ hm => ?_
    obtain ⟨o1, o2⟩ := frame_of u im.obj im.apart
    have im1 : IsMapT tv G1 cn D h root1 size := ⟨by rw [u.addr]; exact o1, u.holds, u.nodup, s1, by rw [e1]; exact delL_srt im.srt, im.deg⟩
    refine del_end S h2 hD hm im1 (fun G2 m2 r2 f2 => ?_) fun G2 n' c en ek m2 ei r2 sub f2 => ?_
    · exact kt root1 h G2 m2 r2 e1 (fun b o e nb nr => f2 b o (u.frame b o e nr) nb) u.new
    · exact kt c n' G2 m2 r2 (ei.trans e1) (fun b o e nb nr => f2 b o (u.frame b o e nr) nb) fun b hb => u.new b (sub b hb)
  | succ n =>
    have s1 := d.sh.1
    refine v_ifT (by simp [refsOf]; intro q; rw [q] at s1; simp at s1) ?_
    obtain rfl := d0.resolve_right (Nat.succ_ne_zero n)
    exact del_turn S h2 h3 h4 h5 h6 h12 h13 h14 h15 h16 h17 d fun G1 c key'' y4 y5 y6 y7 d' => turn_next (hKw _ _ ⟨n, Nat.lt_succ_self n, c, key'', y4, y5, y6, y7, .inl rfl, rfl, d'⟩)
end
end ML
namespace ML
noncomputable def isN : V → Bool
  | .none => true
  | _ => false
theorem isN_iff {v : V} : isN v = true ↔ v = .none := by cases v <;> simp [isN]
noncomputable def stepC (l : List KV) (d : Deed) : List KV := if d.1 then putL l d.2.1 d.2.2 else if isN (getL l d.2.1) then l else delL l d.2.1
noncomputable def runC (ds : List Deed) : List KV := ds.foldl stepC []
theorem delL_len {l : List KV} {k : Int} {w : V} (hs : Srt l) (h : (k, w) ∈ l) : (delL l k).length + 1 = l.length := by
  obtain ⟨X, Y, rfl⟩ := List.append_of_mem h
  rw [delL_one hs]
  simp only [List.length_append, List.length_cons]; (first | lia | omega)
theorem stepC_eq {l : List KV} {d : Deed} (hs : Srt l) (hl : ∀ kv ∈ l, kv.2 ≠ .none) : stepC l d = stepL l d := by
  unfold stepC stepL
  split
  · rfl
  · split
    · rename_i e
      have e := isN_iff.mp e
      refine (delL_none fun x hx q => ?_).symm
      have : getL l d.2.1 = x.2 := getL_in hs (by rw [← q]; exact hx)
      rw [e] at this
      exact hl x hx this.symm
    · rfl
theorem foldC_eq : ∀ (ds : List Deed) (l : List KV), Srt l → (∀ kv ∈ l, kv.2 ≠ .none) → (∀ d ∈ ds, d.2.2 ≠ .none) → ds.foldl stepC l = ds.foldl stepL l
  | [], _, _, _, _ => rfl
  | d :: ds, l, hs, hl, hd => by
    show ds.foldl stepC (stepC l d) = ds.foldl stepL (stepL l d)
    rw [stepC_eq hs hl]
    exact foldC_eq ds _ (stepL_srt hs) (step_all (P := fun v => v ≠ .none) hl (hd d (.head _))) fun d' h' => hd d' (.tail _ h')
theorem runC_eq {ds : List Deed} (h : ∀ d ∈ ds, d.2.2 ≠ .none) : runC ds = runL ds := foldC_eq ds [] .nil (fun _ h => nomatch h) h
theorem runC_snoc {ds : List Deed} {d : Deed} : runC (ds ++ [d]) = stepC (runC ds) d := by simp [runC]
theorem stepC_len {l : List KV} {d : Deed} : (stepC l d).length ≤ l.length + 1 := by
  unfold stepC; split
  · exact putL_len
  · split
    · exact Nat.le_succ _
    · exact Nat.le_succ_of_le (List.length_filter_le _ _)
theorem runC_len (ds : List Deed) : (runC ds).length ≤ ds.length := by
  have key : ∀ (ds : List Deed) (l : List KV), (ds.foldl stepC l).length ≤ l.length + ds.length := by
    intro ds
    induction ds with
    | nil => intro l; exact Nat.le_refl _
    | cons d r ih =>
      intro l
      have h1 := ih (stepC l d)
      have h2 := stepC_len (l := l) (d := d)
      simp only [List.foldl_cons, List.length_cons]; (first | lia | omega)
  have := key ds []
  rwa [List.length_nil, Nat.zero_add] at this
structure OwnT (tv : V) (H G : Heap) (cn D h : Nat) (root : Tree) : Prop where
  le : H.le G
  map : IsMapT tv G cn D h root (ino root).length
  rt : h = 0 ∨ 1 ≤ root.keys.length
  new : ∀ b, b = cn ∨ b ∈ root.addrs → H b = none
noncomputable abbrev Own (H G : Heap) (cn D h : Nat) (root : Tree) : Prop := OwnT (.int D) H G cn D h root
theorem OwnT.frame {tv : V} {H G G' : Heap} {cn D h : Nat} {root : Tree} (o : OwnT tv H G cn D h root) (f : ∀ b x, G b = some x → b ≠ cn → b ∉ root.addrs → G' b = some x) : H.le G' := fun b x e => by
  refine f b x (o.le _ _ e) (fun q => ?_) fun q => ?_
  · rw [o.new b (.inl q)] at e; cases e
  · rw [o.new b (.inr q)] at e; cases e
theorem OwnT.grow {tv : V} {H G G' : Heap} {cn D h : Nat} {root : Tree} (o : OwnT tv H G cn D h root) (l : G.le G') : OwnT tv H G' cn D h root :=
  ⟨Heap.le_trans o.le l, ⟨l _ _ o.map.obj, o.map.holds.le l, o.map.nodup, o.map.sh, o.map.srt, o.map.deg⟩, o.rt, o.new⟩
structure Core (T : Nat → Option Fn) : Prop where
  h0 : T 0 = some f_Node_init
  h1 : T 1 = some f_Canopy_init
  h2 : T 2 = some f_is_leaf
  h3 : T 3 = some f_slot
  h4 : T 4 = some f_lay
  h5 : T 5 = some f_row_with
  h6 : T 6 = some f_row_without
  h8 : T 8 = some f_lookup
  h10 : T 10 = some f_split_child
  h11 : T 11 = some f_put
  h12 : T 12 = some f_merge_children
  h13 : T 13 = some f_borrow_from_left
  h14 : T 14 = some f_borrow_from_right
  h15 : T 15 = some f_fill_child
  h16 : T 16 = some f_least_below
  h17 : T 17 = some f_greatest_below
  h18 : T 18 = some f_delete
section
variable {T : Nat → Option Fn} (S : Sys T) {tv : V} {H G : Heap} {cn D h : Nat} {root : Tree} {key : Int} {v : V} {Q : PV}
theorem own_put (C : Core T) (hD : 2 ≤ D) (o : OwnT tv H G cn D h root) (z : (ino root).length ≤ 50000) (k : ∀ G' h' root', OwnT tv H G' cn D h' root' → ino root' = putL (ino root) key v → Q .none G') : S.Φ 11 [.ref cn, .int key, v] G Q := by
  refine spec_put S C.h0 C.h2 C.h3 C.h4 C.h5 C.h10 C.h11 hD o.map o.rt z fun root' h' size' G' m' e' es f' n' r' => ?_
  have : size' = (ino root').length := by (first | lia | omega)
  subst this
  refine k G' h' root' ⟨o.frame f', m', r', fun b hb => ?_⟩ e'
  rcases hb with q | q
  · exact o.new b (.inl q)
  · rcases n' b q with q | q
    · exact o.new b (.inr q)
    · exact fresh_le o.le q
theorem own_delete (C : Core T) (hD : 2 ≤ D) (o : OwnT tv H G cn D h root) (z : (ino root).length ≤ 50000) (kf : getL (ino root) key = .none → Q (.bool false) G) (kt : getL (ino root) key ≠ .none → ∀ G' h' root', OwnT tv H G' cn D h' root' → ino root' = delL (ino root) key → Q (.bool true) G') : S.Φ 18 [.ref cn, .int key] G Q := by
  refine spec_delete S C.h2 C.h3 C.h4 C.h5 C.h6 C.h8 C.h12 C.h13 C.h14 C.h15 C.h16 C.h17 C.h18 hD o.map o.rt z kf fun hne root' h' G' m' r' e' f' n' => ?_
  obtain ⟨w, hw⟩ := getL_mem hne
  have hl := delL_len o.map.srt hw
  rw [← e'] at hl
  have : ((ino root).length : Int) - 1 = (ino root').length := by (first | lia | omega)
  rw [this] at m'
  refine kt hne G' h' root' ⟨o.frame f', m', r', fun b hb => ?_⟩ e'
  rcases hb with q | q
  · exact o.new b (.inl q)
  · rcases n' b q with q | q
    · exact o.new b (.inr q)
    · exact fresh_le o.le q
theorem run_any (C : Core T) (h34 : T 34 = some f_run_on_canopy) {a : Nat} {o : O} {xs : List V} {ds : List Deed} (hD : 2 ≤ D) (dg : tv = .int D ∨ (OddT tv ∧ 50000 ≤ D)) (ha : H a = some o) (ho : o.lst? = some xs) (hp : Deeds H xs ds) (hz : ds.length ≤ 500)
    (k : ∀ cn G h root, OwnT tv H G cn D h root → ino root = runC ds → Q (.ref cn) G) : S.Φ 34 [.ref a, tv] H Q := by
  refine S.call h34 rfl ?_
  dsimp only [f_run_on_canopy]
  walk_at "m"
  walk_at "n"
  refine new_map S C.h0 C.h1 dg fun cn root G0 L0 nc m0 e0 n0 => ?_
  walk_at "n"
  refine v_of (L0 _ _ ha) ho ?_
  refine for_inv (fun j m G => ∃ x3 h root, m = [some (.ref a), some tv, some (.ref cn), x3] ∧ OwnT tv H G cn D h root ∧ ino root = runC (ds.take j))
    ⟨none, 0, root, rfl, ⟨L0, by rw [e0]; exact m0, .inl rfl, fun b hb => by rcases hb with q | q; rw [q]; exact nc; exact n0 b q⟩, by rw [e0]; rfl⟩ (fun j x m G K hx hI hK => ?_) fun m G hI => ?_
  · obtain ⟨x3, h, root, rfl, ow, er⟩ := hI
    obtain ⟨d, hd, r, rfl, hr⟩ := hp.at' hx
    have hl := runC_len (ds.take j)
    have hl2 : (ds.take j).length ≤ 500 := Nat.le_trans (by rw [List.length_take]; exact Nat.min_le_right _ _) hz
    have z : (ino root).length ≤ 50000 := by rw [er]; (first | lia | omega)
    have e : runC (ds.take (j + 1)) = stepC (runC (ds.take j)) d := by rw [List.take_add_one, hd]; exact runC_snoc
    have hr := ow.le _ _ hr
    refine ⟨ow.le _ _ ha, ?_⟩
    walk_at "m"
    walk_at "n"
    refine v_idx hr rfl (by decide) (by decide) rfl ?_
    cases hb : d.1 with
    | true =>
      simp only [if_true]
      walk_at "m"
      refine v_ifT rfl ?_
      walk_at "n"
      refine v_isInst ow.map.obj ?_
      refine v_idx hr rfl (by decide) (by decide) rfl ?_
      refine v_idx hr rfl (by decide) (by decide) rfl ?_
      refine own_put S C hD ow z fun G' h' root' ow' e' => ?_
      walk_at "m"
      refine n_nil (n_then (n_nil (turn_next (hK _ _ ⟨_, h', root', rfl, ow', ?_⟩))))
      rw [e, e', er, stepC, hb, if_pos rfl]
    | false =>
      simp only [Bool.false_eq_true, if_false]
      walk_at "m"
      refine v_ifF rfl ?_
      walk_at "n"
      refine v_isInst ow.map.obj ?_
      refine v_idx hr rfl (by decide) (by decide) rfl ?_
      refine own_delete S C hD ow z (fun hg => ?_) fun hg G' h' root' ow' e' => ?_
      · walk_at "m"
        refine n_nil (n_then (n_nil (turn_next (hK _ _ ⟨_, h, root, rfl, ow, ?_⟩))))
        rw [e, er, stepC, hb, if_neg (by decide), if_pos (isN_iff.mpr (by rw [← er]; exact hg))]
      · walk_at "m"
        refine n_nil (n_then (n_nil (turn_next (hK _ _ ⟨_, h', root', rfl, ow', ?_⟩))))
        rw [e, e', er, stepC, hb, if_neg (by decide), if_neg (fun q => hg (by rw [er]; exact isN_iff.mp q))]
  · obtain ⟨x3, h, root, rfl, ow, er⟩ := hI
    refine ⟨ow.le _ _ ha, n_then ?_⟩
    walk_at "n"
    rw [hp.len, List.take_length] at er
    exact end_ret rfl (k cn G h root ow er)
theorem spec_run_canopy (C : Core T) (h34 : T 34 = some f_run_on_canopy) {a : Nat} {o : O} {xs : List V} {ds : List Deed} (hD : 2 ≤ D) (ha : H a = some o) (ho : o.lst? = some xs) (hp : Deeds H xs ds) (hz : ds.length ≤ 500)
    (k : ∀ cn G h root, Own H G cn D h root → ino root = runC ds → Q (.ref cn) G) : S.Φ 34 [.ref a, .int D] H Q := run_any S C h34 hD (.inl rfl) ha ho hp hz k
end
end ML
namespace ML
structure Ops (B G : Heap) (b : Nat) (ds : List Deed) (P : V → Prop) (n : Nat) : Prop where
  le : B.le G
  nb : B b = none
  ex : ∃ xs, G b = some (.list xs) ∧ Deeds G xs ds
  all : ∀ d ∈ ds, P d.2.2
  len : ds.length ≤ n
section
variable {B G G' : Heap} {b t n : Nat} {ds : List Deed} {d : Deed} {P : V → Prop}
theorem Ops.new (nb : B b = none) : Ops B (B.upd b (.list [])) b [] P n := ⟨Heap.le_upd nb, nb, ⟨[], upd_self, .nil⟩, (fun _ h => nomatch h), Nat.zero_le _⟩
theorem Ops.app (o : Ops B G b ds P n) {K : Heap → Prop} (L : G.le G') (ht : G' t = some (.tup [.str (if d.1 then 0 else 1), .int d.2.1, d.2.2])) (hp : P d.2.2) (hn : n ≤ 400) (k : ∀ G'', Ops B G'' b (ds ++ [d]) P (n + 1) → K G'') : appendW (.ref b) (.ref t) G' K := by
  obtain ⟨xs, gb, hD⟩ := o.ex
  have gb' := L _ _ gb
  have hl := hD.len
  have := o.len
  have hlim : lim = 1000000 := rfl
  refine v_append gb' (by (first | lia | omega)) (k _ ⟨fun p x e => ?_, o.nb, ⟨_, upd_self, (Deeds.lst (hD.le L) gb').app (.cons (DeedIs.lst gb' ⟨t, rfl, ht⟩) .nil)⟩, fun x hx => ?_, ?_⟩)
  · rw [upd_ne (fun q => by rw [q, o.nb] at e; cases e)]
    exact L _ _ (o.le _ _ e)
  · rcases List.mem_append.mp hx with hx | hx
    · exact o.all x hx
    · cases List.mem_singleton.mp hx; exact hp
  · rw [List.length_append]; exact Nat.succ_le_succ o.len
theorem Ops.grow (o : Ops B G b ds P n) (L : G.le G') : Ops B G' b ds P n := ⟨Heap.le_trans o.le L, o.nb, let ⟨xs, h1, h2⟩ := o.ex; ⟨xs, L _ _ h1, h2.le L⟩, o.all, o.len⟩
end
noncomputable def Heap.hole (G : Heap) (A : List Nat) : Heap := fun b => if b ∈ A then none else G b
theorem hole_le {G : Heap} {A : List Nat} : (G.hole A).le G := fun b o e => by
  unfold Heap.hole at e
  split at e
  · cases e
  · exact e
theorem hole_get {G : Heap} {A : List Nat} {b : Nat} {o : O} (i : Insts A G) (h : G b = some o) (hn : ∀ c fs, o ≠ .inst c fs) : (G.hole A) b = some o := by
  unfold Heap.hole
  rw [if_neg fun q => ?_]
  · exact h
  · obtain ⟨c, fs, e⟩ := i b q
    rw [h] at e
    exact hn c fs (Option.some.inj e)
section
variable {tv : V} {H G : Heap} {cn D h : Nat} {root : Tree}
theorem OwnT.insts (o : OwnT tv H G cn D h root) : Insts (cn :: root.addrs) G := fun b hb => by
  rcases List.mem_cons.mp hb with rfl | hb
  · exact ⟨_, _, o.map.obj⟩
  · obtain ⟨fs, e⟩ := addrs_inst o.map.holds b hb
    exact ⟨_, fs, e⟩
theorem OwnT.base (o : OwnT tv H G cn D h root) : OwnT tv (G.hole (cn :: root.addrs)) G cn D h root := by
  refine ⟨hole_le, o.map, o.rt, fun b hb => ?_⟩
  unfold Heap.hole
  rw [if_pos (by rcases hb with rfl | hb; exact .head _; exact .tail _ hb)]
theorem OwnT.pairs (o : OwnT tv H G cn D h root) {xs : List V} {kvs : List KV} (hp : PairsV G xs kvs) : PairsV (G.hole (cn :: root.addrs)) xs kvs := All2.mono (fun x kv ⟨r, e, hr⟩ => ⟨r, e, hole_get o.insts hr (fun _ _ q => by cases q)⟩) hp
theorem OwnT.lst (o : OwnT tv H G cn D h root) {p : Nat} {xs : List V} (hp : G p = some (.list xs)) : (G.hole (cn :: root.addrs)) p = some (.list xs) := hole_get o.insts hp (fun _ _ q => by cases q)
end
end ML
namespace ML
noncomputable def dput {α : Type} (L : List (Int × α)) (k : Int) (v : α) : List (Int × α) := match L with
  | [] => [(k, v)]
  | (j, w) :: r => if j = k then (j, v) :: r else (j, w) :: dput r k v
noncomputable def putD (L : List (Int × Deed)) (d : Deed) : List (Int × Deed) := dput L d.2.1 d
noncomputable def lastD (ds : List Deed) : List (Int × Deed) := ds.foldl putD []
theorem lastD_take {ds : List Deed} {k : Nat} {d : Deed} (h : ds[k]? = some d) : lastD (ds.take (k + 1)) = putD (lastD (ds.take k)) d := by
  rw [List.take_add_one, h]; simp [lastD]
noncomputable def EntIs (H : Heap) (e : Int × V) (l : Int × Deed) : Prop := e.1 = l.1 ∧ DeedIs H e.2 l.2
theorem ents_put {H : Heap} {v : V} {d : Deed} {k : Int} (hv : DeedIs H v d) {es : List (Int × V)} {L : List (Int × Deed)} (h : All2 (EntIs H) es L) : All2 (EntIs H) (dset es k v) (dput L k d) := by
  induction h with
  | nil => exact .cons ⟨rfl, hv⟩ .nil
  | @cons a b es L h r ih =>
    obtain ⟨i, w⟩ := a
    obtain ⟨j, u⟩ := b
    obtain ⟨e, h⟩ := h
    replace e : i = j := e
    rw [e]
    show All2 (EntIs H) (if j = k then (j, v) :: es else (j, w) :: dset es k v) (if j = k then (j, d) :: L else (j, u) :: dput L k d)
    by_cases q : j = k
    · rw [if_pos q, if_pos q]; exact .cons ⟨rfl, hv⟩ r
    · rw [if_neg q, if_neg q]; exact .cons ⟨rfl, h⟩ ih
theorem look_cons {α : Type} {j k : Int} {w : α} {r : List (Int × α)} : ((j, w) :: r).lookup k = if k = j then some w else r.lookup k := by
  rw [List.lookup_cons]
  by_cases h : k = j
  · rw [if_pos h, beq_iff_eq.mpr h]
  · rw [if_neg h, beq_eq_false_iff_ne.mpr h]
theorem ents_look {H : Heap} {d : Deed} {k : Int} {es : List (Int × V)} {L : List (Int × Deed)} (h : All2 (EntIs H) es L) : L.lookup k = some d → ∃ v, es.lookup k = some v ∧ DeedIs H v d := by
  induction h with
  | nil => exact fun q => nomatch q
  | @cons a b es L h r ih =>
    obtain ⟨i, w⟩ := a
    obtain ⟨j, u⟩ := b
    obtain ⟨e, h⟩ := h
    replace e : i = j := e
    rw [e, look_cons, look_cons]
    intro q
    by_cases e' : k = j
    · rw [if_pos e'] at q ⊢; cases q; exact ⟨w, rfl, h⟩
    · rw [if_neg e'] at q ⊢; exact ih q
theorem ents_keys {H : Heap} {es : List (Int × V)} {L : List (Int × Deed)} (h : All2 (EntIs H) es L) : es.map (fun e => V.int e.1) = (L.map (·.1)).map V.int := by
  induction h with
  | nil => rfl
  | cons h r ih => rw [List.map_cons, List.map_cons, List.map_cons, ih, h.1]
theorem look_dput {α : Type} {k k' : Int} {d : α} : ∀ {L : List (Int × α)}, (dput L k d).lookup k' = if k' = k then some d else L.lookup k'
  | [] => by show ([(k, d)] : List (Int × α)).lookup k' = _; rw [look_cons]
  | (j, w) :: r => by
    show (if j = k then (j, d) :: r else (j, w) :: dput r k d).lookup k' = _
    split
    · rename_i e; subst e; rw [look_cons, look_cons]; split <;> rfl
    · rename_i e
      rw [look_cons, look_cons, look_dput]
      by_cases q : k' = j
      · subst q; simp [e]
      · simp [q]
theorem look_mem {α : Type} {k : Int} : ∀ {L : List (Int × α)}, k ∈ L.map (·.1) ↔ ∃ d, L.lookup k = some d
  | [] => by simp
  | (j, w) :: r => by
    rw [look_cons, List.map_cons, List.mem_cons, look_mem]
    by_cases q : k = j
    · simp [q]
    · simp [q]
theorem keys_dput {α : Type} {k : Int} {d : α} : ∀ {L : List (Int × α)}, (L.map (·.1)).Nodup → ((dput L k d).map (·.1)).Nodup
  | [], _ => by simp [dput]
  | (j, w) :: r, h => by
    rw [List.map_cons, List.nodup_cons] at h
    show ((if j = k then (j, d) :: r else (j, w) :: dput r k d).map (·.1)).Nodup
    split
    · exact List.nodup_cons.mpr h
    · rename_i e
      rw [List.map_cons, List.nodup_cons]
      refine ⟨fun q => ?_, keys_dput h.2⟩
      obtain ⟨x, hx⟩ := look_mem.mp q
      rw [look_dput, if_neg e] at hx
      exact h.1 (look_mem.mpr ⟨x, hx⟩)
theorem dput_len {α : Type} {k : Int} {d : α} : ∀ {L : List (Int × α)}, (dput L k d).length ≤ L.length + 1
  | [] => Nat.le_refl _
  | (j, w) :: r => by
    show (if j = k then (j, d) :: r else (j, w) :: dput r k d).length ≤ _
    split
    · exact Nat.le_succ _
    · exact Nat.succ_le_succ dput_len
structure Left (l : List KV) (L : List (Int × Deed)) : Prop where
  mem : ∀ k v, (k, v) ∈ l ↔ ∃ d, L.lookup k = some d ∧ d.1 = true ∧ d.2.2 = v
  nd : (L.map (·.1)).Nodup
theorem mem_putL {l : List KV} {k : Int} {v : V} {x : KV} : x ∈ putL l k v ↔ x = (k, v) ∨ (x ∈ l ∧ x.1 ≠ k) := by
  unfold putL
  rw [List.mem_append, List.mem_cons, List.mem_filter, List.mem_filter, decide_eq_true_iff, decide_eq_true_iff]
  constructor
  · rintro (⟨h1, h2⟩ | h | ⟨h1, h2⟩)
    · exact .inr ⟨h1, by (first | lia | omega)⟩
    · exact .inl h
    · exact .inr ⟨h1, by (first | lia | omega)⟩
  · rintro (h | ⟨h1, h2⟩)
    · exact .inr (.inl h)
    · rcases Int.lt_or_gt_of_ne h2 with q | q
      · exact .inl ⟨h1, q⟩
      · exact .inr (.inr ⟨h1, q⟩)
theorem mem_delL {l : List KV} {k : Int} {x : KV} : x ∈ delL l k ↔ x ∈ l ∧ x.1 ≠ k := by
  unfold delL; rw [List.mem_filter, decide_eq_true_iff]
theorem Left.step {l : List KV} {L : List (Int × Deed)} (h : Left l L) (d : Deed) : Left (stepL l d) (putD L d) := by
  refine ⟨fun k v => ?_, keys_dput h.nd⟩
  unfold putD
  rw [look_dput]
  unfold stepL
  by_cases q : k = d.2.1
  · rw [if_pos q]
    cases hb : d.1 with
    | true =>
      rw [if_pos rfl, mem_putL]
      constructor
      · rintro (e | ⟨_, e⟩)
        · cases e; exact ⟨d, rfl, hb, rfl⟩
        · exact absurd q e
      · rintro ⟨d', e, _, e2⟩
        cases e; exact .inl (by rw [q, e2])
    | false =>
      rw [if_neg (by decide), mem_delL]
      constructor
      · rintro ⟨_, e⟩; exact absurd q e
      · rintro ⟨d', e, e1, _⟩
        cases e; rw [hb] at e1; cases e1
  · rw [if_neg q, ← h.mem]
    split
    · rw [mem_putL]
      constructor
      · rintro (e | ⟨e, _⟩)
        · cases e; exact absurd rfl q
        · exact e
      · exact fun e => .inr ⟨e, q⟩
    · rw [mem_delL]
      exact ⟨fun e => e.1, fun e => ⟨e, q⟩⟩
theorem Left.fold : ∀ (ds : List Deed) {l : List KV} {L : List (Int × Deed)}, Left l L → Left (ds.foldl stepL l) (ds.foldl putD L)
  | [], _, _, h => h
  | d :: ds, _, _, h => Left.fold ds (h.step d)
theorem left_run (ds : List Deed) : Left (runL ds) (lastD ds) := Left.fold ds ⟨fun k v => by simp, by simp⟩
theorem srt_ext : ∀ {a b : List KV}, Srt a → Srt b → (∀ x, x ∈ a ↔ x ∈ b) → a = b
  | [], [], _, _, _ => rfl
  | [], y :: _, _, _, h => absurd ((h y).mpr (.head _)) (by simp)
  | x :: _, [], _, _, h => absurd ((h x).mp (.head _)) (by simp)
  | x :: a, y :: b, ha, hb, h => by
    have ha := List.pairwise_cons.mp ha
    have hb := List.pairwise_cons.mp hb
    have e : x = y := by
      rcases List.mem_cons.mp ((h x).mp (.head _)) with e | e
      · exact e
      · rcases List.mem_cons.mp ((h y).mpr (.head _)) with e' | e'
        · exact e'.symm
        · have := hb.1 x e; have := ha.1 y e'; (first | lia | omega)
    subst e
    rw [srt_ext ha.2 hb.2 fun z => ?_]
    constructor
    · intro hz
      rcases List.mem_cons.mp ((h z).mp (.tail _ hz)) with e | e
      · have := ha.1 z hz; rw [e] at this; (first | lia | omega)
      · exact e
    · intro hz
      rcases List.mem_cons.mp ((h z).mpr (.tail _ hz)) with e | e
      · have := hb.1 z hz; rw [e] at this; (first | lia | omega)
      · exact e
noncomputable def lookD (L : List (Int × Deed)) (k : Int) : Deed := (L.lookup k).getD (false, 0, .none)
noncomputable def keptL (L : List (Int × Deed)) (ks : List Int) : List KV := (ks.filter fun k => (lookD L k).1).map fun k => (k, (lookD L k).2.2)
theorem kept_run {ds : List Deed} {ks : List Int} (hp : ks.Perm ((lastD ds).map (·.1))) (hs : ks.Pairwise (· ≤ ·)) : keptL (lastD ds) ks = runL ds := by
  have L := left_run ds
  have nd : ks.Nodup := hp.nodup_iff.mpr L.nd
  have lt : ks.Pairwise (· < ·) := (hs.and nd).imp fun ⟨h1, h2⟩ => by (first | lia | omega)
  refine srt_ext ?_ (runL_srt ds) fun ⟨k, v⟩ => ?_
  · exact List.pairwise_map.mpr (lt.sublist List.filter_sublist)
  · rw [L.mem]
    unfold keptL
    rw [List.mem_map]
    constructor
    · rintro ⟨k', h1, h2⟩
      obtain ⟨h3, h4⟩ := List.mem_filter.mp h1
      cases h2
      obtain ⟨d, hd⟩ := look_mem.mp (hp.mem_iff.mp h3)
      have e : lookD (lastD ds) k = d := by unfold lookD; rw [hd]; rfl
      rw [e] at h4
      exact ⟨d, hd, h4, by rw [e]⟩
    · rintro ⟨d, hd, h1, h2⟩
      have e : lookD (lastD ds) k = d := by unfold lookD; rw [hd]; rfl
      refine ⟨k, List.mem_filter.mpr ⟨hp.mem_iff.mpr (look_mem.mpr ⟨d, hd⟩), by rw [e]; exact h1⟩, by rw [e, h2]⟩
theorem lastD_len (ds : List Deed) : (lastD ds).length ≤ ds.length := by
  have key : ∀ (ds : List Deed) (L : List (Int × Deed)), (ds.foldl putD L).length ≤ L.length + ds.length := by
    intro ds
    induction ds with
    | nil => intro L; exact Nat.le_refl _
    | cons d r ih =>
      intro L
      have h1 := ih (putD L d)
      have h2 : (putD L d).length ≤ L.length + 1 := dput_len
      simp only [List.foldl_cons, List.length_cons]; (first | lia | omega)
  have := key ds []
  rwa [List.length_nil, Nat.zero_add] at this
section
variable {Φ : Orac} {m : Loc} {H : Heap}
theorem for_last {X Y p dd : Nat} {o : O} {xs : List V} {ds : List Deed} {Q : PS} (hXY : X ≠ Y) (hX : X < m.length) (hm : m[Y]? = some (some (.ref dd))) (hp : H p = some o) (hpd : p ≠ dd) (hd : H dd = some (.dict [])) (hD : Deeds H xs ds) (hz : ds.length ≤ 1000)
    (k : ∀ es m', All2 (EntIs (H.upd dd (.dict es))) es (lastD ds) → (m' = m ∨ ∃ v, m' = m.set X (some v)) → Q .next m' (H.upd dd (.dict es))) :
    forW (wpSs Φ [.setIdx (.var Y) (.idx (.var X) (.lit (.int 1))) (.var X)]) [X] (fun H => H p = some o) xs m H Q := by
  have hlim : lim = 1000000 := rfl
  have frame : ∀ {es : List (Int × V)} {x : V} {d : Deed}, DeedIs H x d → DeedIs (H.upd dd (.dict es)) x d := fun h => h.dic hd
  refine for_inv (fun k m' G => ∃ es, G = H.upd dd (.dict es) ∧ All2 (EntIs (H.upd dd (.dict es))) es (lastD (ds.take k)) ∧ (m' = m ∨ ∃ v, m' = m.set X (some v)) ∧ es.length ≤ k)
    ⟨[], ?_, .nil, .inl rfl, Nat.le_refl _⟩ (fun j x m' G K hx hI hK => ?_) fun m' G hI => ?_
  · funext b
    by_cases q : b = dd
    · rw [q, upd_self, hd]
    · rw [upd_ne q]
  · obtain ⟨es, rfl, hE, hm', hl⟩ := hI
    obtain ⟨d, hdj, hx'⟩ := hD.at' hx
    have hj := lt_of_get hdj
    have e1 : m'.length = m.length := by rcases hm' with rfl | ⟨v, rfl⟩ <;> simp
    have e2 : m'[Y]? = some (some (.ref dd)) := by rcases hm' with rfl | ⟨v, rfl⟩ <;> simp [List.getElem?_set, hXY, hm]
    refine ⟨(upd_ne hpd).trans hp, ?_⟩
    show wpSs Φ _ (m'.set X (some x)) _ _
    refine n_setIdx ?_
    have g1 : (m'.set X (some x))[X]? = some (some x) := by rw [List.getElem?_set]; simp; (first | lia | omega)
    have g2 : (m'.set X (some x))[Y]? = some (some (.ref dd)) := by rw [List.getElem?_set]; simp [hXY, e2]
    refine r_var g1 (r_var g2 (r_idx (r_var g1 (r_lit ?_))))
    have hf := frame (es := es) hx'
    obtain ⟨r, rfl, hr⟩ := hf
    refine v_idx hr rfl (by decide) (by decide) rfl ?_
    refine v_setD upd_self (by (first | lia | omega)) ?_
    refine n_nil (turn_next (hK _ _ ⟨dset es d.2.1 (.ref r), ?_, ?_, .inr ?_, ?_⟩))
    · funext b
      by_cases q : b = dd
      · rw [q, upd_self, upd_self]
      · rw [upd_ne q, upd_ne q, upd_ne q]
    · rw [lastD_take hdj]
      refine ents_put (frame hx') ?_
      refine All2.mono (fun e l h => ⟨h.1, ?_⟩) hE
      have := h.2.dic (o := .dict (dset es d.2.1 (.ref r))) upd_self
      obtain ⟨r', e', h'⟩ := this
      refine ⟨r', e', ?_⟩
      rw [← h']
      by_cases q : r' = dd
      · rw [q, upd_self, upd_self]
      · rw [upd_ne q, upd_ne q, upd_ne q]
    · rcases hm' with rfl | ⟨v, rfl⟩
      · exact ⟨_, rfl⟩
      · exact ⟨.ref r, by rw [List.set_set]⟩
    · have key : ∀ (es : List (Int × V)) (k : Int) (v : V), (dset es k v).length ≤ es.length + 1 := by
        intro es
        induction es with
        | nil => intro k v; exact Nat.le_refl _
        | cons a r ih =>
          intro k v
          show (if a.1 = k then (a.1, v) :: r else (a.1, a.2) :: dset r k v).length ≤ _
          split
          · exact Nat.le_succ _
          · exact Nat.succ_le_succ (ih k v)
      have := key es d.2.1 (.ref r)
      (first | lia | omega)
  · obtain ⟨es, rfl, hE, hm', _⟩ := hI
    rw [hD.len, List.take_length] at hE
    exact ⟨(upd_ne hpd).trans hp, k es m' hE hm'⟩
theorem comp_last {Y dd : Nat} {es : List (Int × V)} {L : List (Int × Deed)} {Q : PV} (hm : m[Y]? = some (some (.ref dd))) (hd : H dd = some (.dict es)) (hE : All2 (EntIs H) es L) (hz : L.length < 64)
    (k : ∀ ks b G ys, ks.Perm (L.map (·.1)) → ks.Pairwise (· ≤ ·) → H.le G → H b = none → G b = some (.list ys) → PairsV G ys (keptL L ks) → Q (.ref b) G) :
    wpE Φ (.comp (.tup [(.var m.length), (.idx (.idx (.var Y) (.var m.length)) (.lit (.int 2)))]) 1 (.of (.prim .sorted [(.var Y)])) (some (.cmp .eq (.idx (.idx (.var Y) (.var m.length)) (.lit (.int 0))) (.lit (.str 0))))) m H Q := by
  have hlim : lim = 1000000 := rfl
  refine r_comp (r_of (r_prim (r_econs (r_var hm (r_enil ?_)))))
  refine v_sort (ns := L.map (·.1)) hd (by show some _ = _; rw [ents_keys hE]) (by simpa using hz) fun ks hp hs a na => ?_
  have L1 : H.le (H.upd a (.list (ks.map V.int))) := Heap.le_upd na
  refine v_of upd_self rfl ?_
  have hkl : ks.length < 64 := by rw [hp.length_eq]; simpa using hz
  have hY : Y < m.length := lt_of_get hm
  have gY : ∀ x : V, (m ++ [some x])[Y]? = some (some (.ref dd)) := fun x => by rw [List.getElem?_append_left hY]; exact hm
  have gK : ∀ x : V, (m ++ [some x])[m.length]? = some (some x) := fun x => by rw [List.getElem?_append_right (Nat.le_refl _), Nat.sub_self]; rfl
  refine comp_inv (fun j acc G => (H.upd a (.list (ks.map V.int))).le G ∧ PairsV G acc (keptL L (ks.take j)) ∧ acc.length ≤ j) ⟨Heap.le_refl _, .nil, Nat.le_refl _⟩ (fun j x acc G K hx hI hK => ?_) fun acc G hI => ?_
  · obtain ⟨LG, hP, hl⟩ := hI
    rw [List.getElem?_map] at hx
    obtain ⟨key, hj, rfl⟩ := Option.map_eq_some_iff.mp hx
    have hjl := lt_of_get hj
    refine ⟨LG _ _ upd_self, by (first | lia | omega), ?_⟩
    obtain ⟨d, hl'⟩ := look_mem.mp (hp.mem_iff.mp (List.mem_of_getElem? hj))
    obtain ⟨v, hv, hd'⟩ := ents_look hE hl'
    have hdG : G dd = some (.dict es) := LG _ _ (L1 _ _ hd)
    have hd' := hd'.le (Heap.le_trans L1 LG)
    obtain ⟨r, rfl, hr⟩ := hd'
    have eD : lookD L key = d := by unfold lookD; rw [hl']; rfl
    have ht : ks.take (j + 1) = ks.take j ++ [key] := by rw [List.take_add_one, hj]; rfl
    show wpC Φ _ (m ++ [some (.int key)]) G _
    refine r_csome (q_cmp (r_idx (r_idx (r_var (gY _) (r_var (gK _) (v_idxD hdG hv (r_lit (v_idx hr rfl (by decide) (by decide) rfl (r_lit (v_eqS ?_))))))))))
    cases hb : d.1 with
    | false =>
      refine v_ifF (by simp) (hK _ _ ⟨LG, ?_, by (first | lia | omega)⟩)
      unfold keptL at hP ⊢
      rw [ht, List.filter_append, List.filter_cons_of_neg (by rw [eD, hb]; decide), List.filter_nil, List.append_nil]
      exact hP
    | true =>
      refine v_ifT (by simp) ?_
      refine r_tup (r_econs (r_var (gK _) (r_econs (r_idx (r_idx (r_var (gY _) (r_var (gK _) (v_idxD hdG hv (r_lit (v_idx hr rfl (by decide) (by decide) rfl (r_enil ?_)))))))))))
      refine v_allocL fun b G' L' nb hb' => ⟨G', Heap.le_refl _, hK _ _ ⟨Heap.le_trans LG L', ?_, by simp; (first | lia | omega)⟩⟩
      unfold keptL at hP ⊢
      rw [ht, List.filter_append, List.filter_cons_of_pos (by rw [eD, hb]), List.filter_nil, List.map_append]
      refine All2.app (PairsV.le hP L') (.cons ⟨b, rfl, ?_⟩ .nil)
      show G' b = some (.tup [.int key, (lookD L key).2.2])
      rw [eD]; exact hb'
  · obtain ⟨LG, hP, hl⟩ := hI
    rw [List.length_map] at hP hl
    rw [List.take_length] at hP
    refine ⟨LG _ _ upd_self, by (first | lia | omega), v_allocL fun b G' L' nb hb' => ?_⟩
    exact k ks b G' acc hp hs (Heap.le_trans L1 (Heap.le_trans LG L')) (fresh_le (Heap.le_trans L1 LG) nb) hb' (hP.le L')
end
end ML
namespace ML
noncomputable def okN (D : Nat) (r : Bool) (nk nv nc : Nat) : Bool := decide (nv = nk) && decide (nk < 2 * D) && (r || decide (D ≤ nk + 1)) && (decide (nc = 0) || decide (nc = nk + 1))
mutual
noncomputable def shp (D : Nat) (r : Bool) : Tree → Bool
  | .node _ ks vs cs => okN D r ks.length vs.length cs.length && shpL D cs
noncomputable def shpL (D : Nat) : List Tree → Bool
  | [] => true
  | t :: r => shp D false t && shpL D r
end
mutual
noncomputable def nsz : Tree → Nat
  | .node _ _ _ cs => 1 + nszL cs
noncomputable def nszL : List Tree → Nat
  | [] => 0
  | t :: r => nsz t + nszL r
end
noncomputable abbrev It := Tree × Bool
noncomputable def IsIt (G : Heap) (x : V) (it : It) : Prop := ∃ p, x = .ref p ∧ G p = some (.tup [.ref it.1.addr, .bool it.2])
theorem IsIt.le {H H' : Heap} {x : V} {it : It} (l : H.le H') (h : IsIt H x it) : IsIt H' x it := let ⟨r, e, h⟩ := h; ⟨r, e, l _ _ h⟩
theorem IsIt.lst {H : Heap} {x : V} {it : It} {p : Nat} {xs : List V} {o : O} (hp : H p = some (.list xs)) (h : IsIt H x it) : IsIt (H.upd p o) x it := by
  refine absG fun Cg hCg => ?_
  obtain ⟨r, e, h⟩ := h
  refine hCg ?_; clear hCg
  refine ⟨r, e, ?_⟩
  rw [upd_ne (fun q => by rw [q, hp] at h; cases h)]; exact h
noncomputable def allI (D : Nat) : List It → Bool
  | [] => true
  | it :: r => shp D it.2 it.1 && allI D r
noncomputable def szI : List It → Nat
  | [] => 0
  | it :: r => nsz it.1 + szI r
theorem nsz_pos {t : Tree} : 1 ≤ nsz t := by cases t; simp [nsz]
theorem szI_len : ∀ {its : List It}, its.length ≤ szI its
  | [] => Nat.le_refl _
  | it :: r => by
    have := szI_len (its := r)
    have := nsz_pos (t := it.1)
    show r.length + 1 ≤ nsz it.1 + szI r
    (first | lia | omega)
noncomputable def pushed (cs : List Tree) (its : List It) : List It := match cs with
  | [] => its
  | c :: r => pushed r ((c, false) :: its)
theorem pushed_all {D : Nat} : ∀ {cs : List Tree} {its : List It}, allI D (pushed cs its) = (shpL D cs && allI D its)
  | [], its => by simp [pushed, shpL]
  | c :: r, its => by
    show allI D (pushed r ((c, false) :: its)) = ((shp D false c && shpL D r) && allI D its)
    rw [pushed_all]
    show (shpL D r && (shp D false c && allI D its)) = _
    cases shpL D r <;> cases shp D false c <;> rfl
theorem pushed_sz : ∀ {cs : List Tree} {its : List It}, szI (pushed cs its) = nszL cs + szI its
  | [], its => by simp [pushed, nszL]
  | c :: r, its => by
    show szI (pushed r ((c, false) :: its)) = _
    rw [pushed_sz]
    simp only [szI, nszL]; (first | lia | omega)
theorem pushed_app {its : List It} {c : Tree} : ∀ {cs : List Tree}, pushed (cs ++ [c]) its = (c, false) :: pushed cs its := by
  intro cs
  induction cs generalizing its with
  | nil => rfl
  | cons x r ih => exact ih
structure ShSt (H G : Heap) (s : Nat) (its : List It) (xs : List V) : Prop where
  le : H.le G
  stk : G s = some (.list xs.reverse)
  stks : All2 (IsIt G) xs its
  ok : ∀ it ∈ its, Holds H it.1
theorem ShSt.push {H G : Heap} {s p : Nat} {its : List It} {xs : List V} {c : Tree} (b : ShSt H G s its xs) (np : G p = none) (ns : H s = none) (hc : Holds H c) :
    ShSt H ((G.upd p (.tup [.ref c.addr, .bool false])).upd s (.list (xs.reverse ++ [.ref p]))) s ((c, false) :: its) (.ref p :: xs) := by
  have l1 : G.le (G.upd p (.tup [.ref c.addr, .bool false])) := Heap.le_upd np
  have hs := upd_fresh (o := .tup [.ref c.addr, .bool false]) np b.stk
  refine ⟨le_updF (Heap.le_trans b.le l1) ns, by rw [upd_self, List.reverse_cons], .cons ⟨p, rfl, ?_⟩ (All2.mono (fun _ _ h => (h.le l1).lst hs) b.stks), fun x hx => ?_⟩
  · rw [upd_ne (fun q => by rw [q, b.stk] at np; cases np)]; exact upd_self
  · rcases List.mem_cons.mp hx with rfl | hx
    · exact hc
    · exact b.ok x hx
theorem HoldsL.mem {H : Heap} : ∀ {ts : List Tree} {t : Tree}, HoldsL H ts → t ∈ ts → Holds H t
  | _ :: _, _, ⟨h1, h2⟩, m => by
    rcases List.mem_cons.mp m with rfl | m
    · exact h1
    · exact HoldsL.mem h2 m
theorem v_and2 {c d : Bool} {A B : Prop} (h1 : (c && d) = true → A) (h2 : (c && d) = false → B) : if c = true then (if d = true then A else B) else B := by
  cases c <;> cases d
  · exact h2 rfl
  · exact h2 rfl
  · exact h2 rfl
  · exact h1 rfl
theorem v_ifDup {c : Bool} {C X B : Prop} (hB : C → B) (h1 : c = false → C) (h2 : c = true → (C → B) → X) : if c = true then X else B := by
  cases c with
  | true => exact h2 rfl hB
  | false => exact hB (h1 rfl)
theorem nszL_take {cs : List Tree} {j : Nat} : nszL (cs.take j) ≤ nszL cs := by
  induction cs generalizing j with
  | nil => simp [nszL]
  | cons c r ih =>
    cases j with
    | zero => simp [nszL]
    | succ j =>
      have := ih (j := j)
      simp only [List.take_succ_cons, nszL]; (first | lia | omega)
noncomputable def shBody : List S := [
    .assign 5 (.idx (.var 4) (.bop .sub (.prim .len [(.var 4)]) (.lit (.int 1)))),
    .delIdx (.var 4) (.bop .sub (.prim .len [(.var 4)]) (.lit (.int 1))),
    .assign 6 (.idx (.var 5) (.lit (.int 0))),
    .assign 7 (.prim .len [(.attr (.var 6) 0)]),
    .ite (.or (.cmp .ne (.prim .len [(.attr (.var 6) 1)]) (.var 7)) (.cmp .gt (.var 7) (.bop .sub (.bop .mul (.lit (.int 2)) (.var 3)) (.lit (.int 1))))) [
      .ret (some (.lit (.bool false)))] [],
    .ite (.and (.not (.idx (.var 5) (.lit (.int 1)))) (.cmp .lt (.var 7) (.bop .sub (.var 3) (.lit (.int 1))))) [
      .ret (some (.lit (.bool false)))] [],
    .ite (.and (.cmp .ne (.prim .len [(.attr (.var 6) 2)]) (.lit (.int 0))) (.cmp .ne (.prim .len [(.attr (.var 6) 2)]) (.bop .add (.var 7) (.lit (.int 1))))) [
      .ret (some (.lit (.bool false)))] [],
    .for1 [8] (.of (.attr (.var 6) 2)) [
      .append (.var 4) (.tup [(.var 8), (.lit (.bool false))])]]
theorem f_shape_ok_eq : f_shape_ok = ⟨3, 9, [
  .assign 3 (.attr (.var 0) 3),
  .assign 4 (.list [(.tup [(.var 1), (.var 2)])]),
  .whl (.cmp .gt (.prim .len [(.var 4)]) (.lit (.int 0))) shBody,
  .ret (some (.lit (.bool true)))]⟩ := rfl
section
variable {T : Nat → Option Fn} (S : Sys T)
theorem spec_shape (h21 : T 21 = some f_shape_ok) {H : Heap} {cn D : Nat} {y z : V} {t : Tree} {r : Bool} {Q : PV} (hc : H cn = some (.inst 1 [(3, .int D), (4, y), (5, z)])) (ht : Holds H t) (hz : nsz t ≤ 10000) (hD : 1 ≤ D)
    (k : Q (.bool (shp D r t)) H) : S.Φ 21 [.ref cn, .ref t.addr, .bool r] H Q := by
  have hlim : lim = 1000000 := rfl
  rw [f_shape_ok_eq] at h21
  refine S.call h21 rfl ?_
  dsimp only
  walk_at "m"
  walk_at "n"
  refine v_attr hc rfl ?_
  walk_at "n"
  refine v_alloc fun p np => ?_
  walk_at "m"
  refine v_alloc fun s ns => ?_
  obtain ⟨ns0, nsp⟩ := upd_none_of ns
  walk_at "m"
  refine n_whl ?_
  refine ⟨fun n m G => ∃ its xs x5 x6 x7 x8, m = [some (.ref cn), some (.ref t.addr), some (.bool r), some (.int D), some (.ref s), x5, x6, x7, x8] ∧ ShSt H G s its xs ∧ allI D its = shp D r t ∧ n = szI its ∧ n ≤ 10000, nsz t,
    ⟨[(t, r)], [.ref p], none, none, none, none, rfl, ⟨le_updF (le_updF (Heap.le_refl _) np) ns0, upd_self, .cons ⟨p, rfl, (upd_ne nsp.symm).trans upd_self⟩ .nil, fun it hit => by rw [List.mem_singleton.mp hit]; exact ht⟩, by simp [allI], by simp [szI], hz⟩, ?_⟩
  intro n m G hIw
  refine hideK fun Kw hKw => absG fun Cg hCg => ?_
  obtain ⟨its, xs, x5, x6, x7, x8, rfl, b, hall, rfl, hw⟩ := hIw
  have hxl := b.stks.len
  have hil := szI_len (its := its)
  refine hCg ?_; clear hCg
  rw [t_cmp]
  walk_at "m"
  refine v_len b.stk rfl ?_
  walk_at "m"
  rw [List.length_reverse, hxl]
  cases its with
  | nil =>
    refine v_ifF rfl ?_
    refine n_then ?_
    walk_at "n"
    have : shp D r t = true := hall.symm
    exact end_old rfl b.le (this ▸ k)
  | cons it rest =>
    cases hxs : b.stks with
    | @cons x _ xs' _ hx hrest =>
    refine absG fun Cg hCg => ?_
    obtain ⟨q, rfl, hq⟩ := hx
    have hxl' := hrest.len
    refine hCg ?_; clear hCg
    refine v_ifT (by simp) ?_
    have hstk := b.stk
    rw [List.reverse_cons] at hstk
    have hsl : (xs'.reverse ++ [V.ref q]).length = rest.length + 1 := by simp [hxl']
    have el : ((((rest.length + 1 : Nat) : Int) - 1)).toNat = xs'.reverse.length := by simp [hxl']
    have hr1 : rest.length + 1 ≤ 10000 := Nat.le_trans hil hw
    unfold shBody
    walk_at "n"
    refine v_len hstk rfl ?_
    walk_at "m"
    rw [hsl]
    refine v_idx (v := .ref q) hstk rfl (by (first | lia | omega)) (by (first | lia | omega)) (by rw [el, List.getElem?_append_right (Nat.le_refl _)]; simp) ?_
    walk_at "n"
    refine v_len hstk rfl ?_
    walk_at "m"
    rw [hsl]
    refine v_del hstk (by (first | lia | omega)) (by rw [hsl]; (first | lia | omega)) (by rw [hsl]; (first | lia | omega)) ?_
    have ed : (xs'.reverse ++ [V.ref q]).eraseIdx ((((rest.length + 1 : Nat) : Int) - 1)).toNat = xs'.reverse := by
      rw [el, List.eraseIdx_append_of_length_le (Nat.le_refl _)]; simp
    rw [ed]
    have b1 : ShSt H (G.upd s (.list xs'.reverse)) s rest xs' := ⟨le_updF b.le ns0, upd_self, All2.mono (fun _ _ h => h.lst b.stk) hrest, fun x hx => b.ok x (.tail _ hx)⟩
    have hq1 : (G.upd s (.list xs'.reverse)) q = some (.tup [.ref it.1.addr, .bool it.2]) := by
      rw [upd_ne (fun e => by rw [e, b.stk] at hq; cases hq)]; exact hq
    generalize G.upd s (.list xs'.reverse) = G1 at b1 hq1 ⊢
    have hh := b.ok it (.head _)
    have hall' : (shp D it.2 it.1 && allI D rest) = shp D r t := hall
    have hw' : nsz it.1 + szI rest ≤ 10000 := hw
    clear hall hw hstk hsl el ed hxl hil hxs
    obtain ⟨tt, rr⟩ := it
    refine absG fun Cg hCg => ?_
    obtain ⟨a, ks, vs, cs⟩ := tt
    obtain ⟨⟨pk, pv, pc, ha, hpk, hpv, hpc⟩, hcs⟩ := hh
    have ha1 := b1.le _ _ ha
    have hk1 := b1.le _ _ hpk
    have hv1 := b1.le _ _ hpv
    have hc1 := b1.le _ _ hpc
    have hrl : (refsOf cs).length = cs.length := by simp [refsOf]
    have hsp : shp D rr (.node a ks vs cs) = (okN D rr ks.length vs.length cs.length && shpL D cs) := rfl
    have hall'' : (okN D rr ks.length vs.length cs.length && shpL D cs && allI D rest) = shp D r t := by rw [← hsp]; exact hall'
    have bad : okN D rr ks.length vs.length cs.length = false → shp D r t = false := fun e => by rw [← hall'', e]; rfl
    refine hCg ?_; clear hCg
    walk_at "n"
    refine v_idx (v := .ref a) hq1 rfl (by decide) (by decide) rfl ?_
    walk_at "m"
    walk_at "n"
    refine v_attr ha1 rfl ?_
    refine v_len hk1 rfl ?_
    rw [List.length_map]
    have rfalse : okN D rr ks.length vs.length cs.length = false → ∀ {m : Loc} {K : Loc → Heap → Prop}, turnW K (thenW (fun m H => wpSs S.Φ [.ret (some (.lit (.bool true)))] m H fun fl _ H' => ∃ H'' : Heap, H''.le H' ∧ Q fl.val H'') fun fl _ H' => ∃ H'' : Heap, H''.le H' ∧ Q fl.val H'') (.ret (.bool false)) m G1 := fun e {m K} =>
      turn_ret (n_thenR (end_old rfl b1.le (bad e ▸ k)))
    walk_at "n"
    refine v_attr ha1 rfl ?_
    refine v_len hv1 rfl ?_
    walk_at "m"
    by_cases q1 : vs.length = ks.length
    · refine v_ifF (by simp; (first | lia | omega)) ?_
      refine v_mulI (.inl mid_2) ?_
      walk_at "m"
      by_cases q2 : ks.length < 2 * D
      · refine v_ifF (by simp; (first | lia | omega)) ?_
        walk_at "n"
        refine v_idx (v := .bool rr) hq1 rfl (by decide) (by decide) rfl ?_
        walk_at "m"
        refine v_and2 (fun q3 => ?_) fun q3 => ?_
        · refine rfalse ?_
          unfold okN
          obtain ⟨h1, h2⟩ := Bool.and_eq_true_iff.mp q3
          have h1 : rr = false := by simpa using h1
          have h2 : ¬ D ≤ ks.length + 1 := by have := of_decide_eq_true h2; (first | lia | omega)
          rw [h1, decide_eq_false h2]; simp
        · have q3' : (rr || decide (D ≤ ks.length + 1)) = true := by
            cases rr with
            | true => rfl
            | false =>
              have : ¬ ((ks.length : Int) < D - 1) := by simpa using q3
              simp; (first | lia | omega)
          walk_at "n"
          refine v_attr ha1 rfl ?_
          refine v_len hc1 rfl ?_
          walk_at "m"
          rw [hrl]
          refine v_ifDup (C := cs.length = 0 ∨ cs.length = ks.length + 1) (fun q6 => ?_) (fun e => .inl (by simpa using e)) fun e hB => ?_
          · skip
            have hok : okN D rr ks.length vs.length cs.length = true := by
              unfold okN
              rw [decide_eq_true q1, decide_eq_true q2, q3']
              rcases q6 with q6 | q6
              · rw [decide_eq_true q6]; rfl
              · rw [decide_eq_true q6]; simp
            have hall3 : (shpL D cs && allI D rest) = shp D r t := by rw [← hall'', hok]; rfl
            have hsz : nsz (.node a ks vs cs) = 1 + nszL cs := rfl
            have hw2 : 1 + nszL cs + szI rest ≤ 10000 := hw'
            walk_at "n"
            refine v_attr ha1 rfl ?_
            refine v_of hc1 rfl ?_
            refine for_inv (fun j m G2 => ∃ x8 xs2, m = [some (.ref cn), some (.ref t.addr), some (.bool r), some (.int D), some (.ref s), some (.ref q), some (.ref a), some (.int ks.length), x8] ∧ ShSt H G2 s (pushed (cs.take j) rest) xs2) ⟨x8, xs', rfl, b1⟩ (fun j x m G2 K hx hI hK => ?_) fun m G2 hI => ?_
            · refine absG fun Cg hCg => ?_
              obtain ⟨x8, xs2, rfl, b2⟩ := hI
              refine hCg ?_; clear hCg
              unfold refsOf at hx
              rw [List.getElem?_map] at hx
              refine absG fun Cg hCg => ?_
              obtain ⟨c, hc', rfl⟩ := Option.map_eq_some_iff.mp hx
              refine hCg ?_; clear hCg
              refine ⟨b2.le _ _ hpc, ?_⟩
              have hx2 := b2.stks.len
              have hps : (pushed (cs.take j) rest).length ≤ 10000 := by
                have h1 := szI_len (its := pushed (cs.take j) rest)
                rw [pushed_sz] at h1
                have h2 := nszL_take (cs := cs) (j := j)
                (first | lia | omega)
              walk_at "m"
              walk_at "n"
              refine v_isLst b2.stk ?_
              refine v_alloc fun p np => ?_
              refine v_append (upd_fresh np b2.stk) (by rw [List.length_reverse, hx2]; exact Nat.le_trans hps (by decide)) ?_
              have b3 := b2.push np ns0 (HoldsL.mem hcs (List.mem_of_getElem? hc'))
              refine n_nil (turn_next (hK _ _ ⟨_, .ref p :: xs2, rfl, ?_⟩))
              rw [List.take_add_one, hc']
              show ShSt _ _ _ (pushed (cs.take j ++ [c]) rest) _
              rw [pushed_app]
              exact b3
            · refine absG fun Cg hCg => ?_
              obtain ⟨x8, xs2, rfl, b2⟩ := hI
              refine hCg ?_; clear hCg
              refine ⟨b2.le _ _ hpc, ?_⟩
              rw [hrl, List.take_length] at b2
              refine n_then (n_nil (turn_next (hKw _ _ ⟨szI (pushed cs rest), ?_, _, _, _, _, _, _, rfl, b2, ?_, rfl, ?_⟩)))
              · rw [pushed_sz]; show _ < nsz _ + szI rest; rw [hsz]; (first | lia | omega)
              · rw [pushed_all]; exact hall3
              · rw [pushed_sz]; (first | lia | omega)
          · have q4 : cs.length ≠ 0 := by intro q4; rw [q4] at e; simp at e
            refine v_attr ha1 rfl ?_
            refine v_len hc1 rfl ?_
            walk_at "m"
            rw [hrl]
            by_cases q5 : cs.length = ks.length + 1
            · refine v_ifF (by simp; (first | lia | omega)) ?_
              exact hB (.inr q5)
            · refine v_ifT (by simp; (first | lia | omega)) ?_
              refine rfalse ?_
              unfold okN
              rw [decide_eq_false q4, decide_eq_false q5]; simp
      · refine v_ifT (by simp; (first | lia | omega)) ?_
        refine rfalse ?_
        unfold okN
        rw [decide_eq_false q2]; simp
    · refine v_ifT (by simp; (first | lia | omega)) ?_
      refine rfalse ?_
      unfold okN
      rw [decide_eq_false q1]; simp
end
end ML
namespace ML
mutual
noncomputable def lv (d : Nat) : Tree → List Nat
  | .node _ _ _ cs => match cs with
    | [] => [d]
    | c :: r => lvL (d + 1) (c :: r)
noncomputable def lvL (d : Nat) : List Tree → List Nat
  | [] => []
  | t :: r => lv d t ++ lvL d r
end
theorem lv_leaf {d a : Nat} {ks : List Int} {vs : List V} : lv d (.node a ks vs []) = [d] := by simp [lv]
theorem lv_inner {d a : Nat} {ks : List Int} {vs : List V} {cs : List Tree} (h : cs ≠ []) : lv d (.node a ks vs cs) = lvL (d + 1) cs := by
  cases cs with
  | nil => exact absurd rfl h
  | cons c r => simp [lv]
mutual
theorem lv_ne : ∀ (t : Tree) (d : Nat), lv d t ≠ []
  | .node a ks vs cs, d => by
    cases cs with
    | nil => rw [lv_leaf]; simp
    | cons c r =>
      rw [lv_inner (by simp)]
      exact lvL_ne (c :: r) (d + 1) (by simp)
theorem lvL_ne : ∀ (l : List Tree) (d : Nat), l ≠ [] → lvL d l ≠ []
  | t :: r, d, _ => fun e => lv_ne t d (List.append_eq_nil_iff.mp (show lv d t ++ lvL d r = [] from e)).1
  | [], _, h => absurd rfl h
end
noncomputable abbrev LIt := Tree × Nat
noncomputable def IsLIt (G : Heap) (x : V) (it : LIt) : Prop := ∃ p, x = .ref p ∧ G p = some (.tup [.ref it.1.addr, .int it.2])
theorem IsLIt.le {H H' : Heap} {x : V} {it : LIt} (l : H.le H') (h : IsLIt H x it) : IsLIt H' x it := let ⟨r, e, h⟩ := h; ⟨r, e, l _ _ h⟩
theorem IsLIt.lst {H : Heap} {x : V} {it : LIt} {p : Nat} {xs : List V} {o : O} (hp : H p = some (.list xs)) (h : IsLIt H x it) : IsLIt (H.upd p o) x it := by
  refine absG fun Cg hCg => ?_
  obtain ⟨r, e, h⟩ := h
  refine hCg ?_; clear hCg
  refine ⟨r, e, ?_⟩
  rw [upd_ne (fun q => by rw [q, hp] at h; cases h)]; exact h
noncomputable def lvI : List LIt → List Nat
  | [] => []
  | it :: r => lv it.2 it.1 ++ lvI r
noncomputable def szL : List LIt → Nat
  | [] => 0
  | it :: r => nsz it.1 + szL r
theorem szL_len : ∀ {its : List LIt}, its.length ≤ szL its
  | [] => Nat.le_refl _
  | it :: r => by
    have := szL_len (its := r)
    have := nsz_pos (t := it.1)
    show r.length + 1 ≤ nsz it.1 + szL r
    (first | lia | omega)
noncomputable def pushL (d : Nat) (cs : List Tree) (its : List LIt) : List LIt := match cs with
  | [] => its
  | c :: r => pushL d r ((c, d) :: its)
theorem pushL_mem {d x : Nat} : ∀ {cs : List Tree} {its : List LIt}, x ∈ lvI (pushL d cs its) ↔ x ∈ lvL d cs ∨ x ∈ lvI its
  | [], its => by simp [pushL, lvL]
  | c :: r, its => by
    show x ∈ lvI (pushL d r ((c, d) :: its)) ↔ x ∈ lv d c ++ lvL d r ∨ _
    rw [pushL_mem]
    show x ∈ lvL d r ∨ x ∈ lv d c ++ lvI its ↔ _
    simp only [List.mem_append]
    constructor
    · rintro (h | h | h)
      · exact .inl (.inr h)
      · exact .inl (.inl h)
      · exact .inr h
    · rintro ((h | h) | h)
      · exact .inr (.inl h)
      · exact .inl h
      · exact .inr (.inr h)
theorem pushL_sz {d : Nat} : ∀ {cs : List Tree} {its : List LIt}, szL (pushL d cs its) = nszL cs + szL its
  | [], its => by simp [pushL, nszL]
  | c :: r, its => by
    show szL (pushL d r ((c, d) :: its)) = _
    rw [pushL_sz]
    simp only [szL, nszL]; (first | lia | omega)
theorem pushL_app {d : Nat} {its : List LIt} {c : Tree} : ∀ {cs : List Tree}, pushL d (cs ++ [c]) its = (c, d) :: pushL d cs its := by
  intro cs
  induction cs generalizing its with
  | nil => rfl
  | cons x r ih => exact ih
structure LSt (H G : Heap) (s : Nat) (its : List LIt) (xs : List V) : Prop where
  le : H.le G
  stk : G s = some (.list xs.reverse)
  stks : All2 (IsLIt G) xs its
  ok : ∀ it ∈ its, Holds H it.1
theorem LSt.push {H G : Heap} {s p : Nat} {its : List LIt} {xs : List V} {it : LIt} (b : LSt H G s its xs) (np : G p = none) (ns : H s = none) (hc : Holds H it.1) :
    LSt H ((G.upd p (.tup [.ref it.1.addr, .int it.2])).upd s (.list (xs.reverse ++ [.ref p]))) s (it :: its) (.ref p :: xs) := by
  have l1 : G.le (G.upd p (.tup [.ref it.1.addr, .int it.2])) := Heap.le_upd np
  have hs := upd_fresh (o := .tup [.ref it.1.addr, .int it.2]) np b.stk
  refine ⟨le_updF (Heap.le_trans b.le l1) ns, by rw [upd_self, List.reverse_cons], .cons ⟨p, rfl, ?_⟩ (All2.mono (fun _ _ h => (h.le l1).lst hs) b.stks), fun x hx => ?_⟩
  · rw [upd_ne (fun q => by rw [q, b.stk] at np; cases np)]; exact upd_self
  · rcases List.mem_cons.mp hx with rfl | hx
    · exact hc
    · exact b.ok x hx
noncomputable def Seen (all left : List Nat) (level : Int) : Prop := (level = -1 ∧ ∀ x, x ∈ left ↔ x ∈ all) ∨ ∃ e : Nat, level = e ∧ e ∈ all ∧ (∀ x, x ∈ all → x = e ∨ x ∈ left) ∧ ∀ x, x ∈ left → x ∈ all
noncomputable def llLeaf : List S := [
      .ite (.cmp .eq (.var 2) (.neg (.lit (.int 1)))) [
        .assign 2 (.idx (.var 4) (.lit (.int 1)))] [
        .ite (.cmp .ne (.var 2) (.idx (.var 4) (.lit (.int 1)))) [
          .ret (some (.neg (.lit (.int 1))))] []]]
noncomputable def llFor : S := .for1 [6] (.of (.attr (.var 5) 2)) [
      .append (.var 3) (.tup [(.var 6), (.bop .add (.idx (.var 4) (.lit (.int 1))) (.lit (.int 1)))])]
noncomputable def llBody : List S := [
    .assign 4 (.idx (.var 3) (.bop .sub (.prim .len [(.var 3)]) (.lit (.int 1)))),
    .delIdx (.var 3) (.bop .sub (.prim .len [(.var 3)]) (.lit (.int 1))),
    .assign 5 (.idx (.var 4) (.lit (.int 0))),
    .ite (.meth 2 (.var 5) []) llLeaf [],
    llFor]
theorem f_leaf_level_eq : f_leaf_level = ⟨2, 7, [
  .assign 2 (.neg (.lit (.int 1))),
  .assign 3 (.list [(.tup [(.var 1), (.lit (.int 0))])]),
  .whl (.cmp .gt (.prim .len [(.var 3)]) (.lit (.int 0))) llBody,
  .ret (some (.var 2))]⟩ := rfl
section
variable {T : Nat → Option Fn} (S : Sys T)
theorem spec_leaf_level (h2 : T 2 = some f_is_leaf) (h23 : T 23 = some f_leaf_level) {H : Heap} {self : V} {t : Tree} {Q : PV} (ht : Holds H t) (hz : nsz t ≤ 10000)
    (k : ∀ r : Int, ((∃ e : Nat, (∀ x ∈ lv 0 t, x = e) ∧ r = e) ∨ ((∀ e : Nat, ∃ x ∈ lv 0 t, x ≠ e) ∧ r = -1)) → Q (.int r) H) : S.Φ 23 [self, .ref t.addr] H Q := by
  have hlim : lim = 1000000 := rfl
  rw [f_leaf_level_eq] at h23
  refine S.call h23 rfl ?_
  dsimp only
  walk_at "m"
  walk_at "n"
  walk_at "n"
  refine v_alloc fun p np => ?_
  walk_at "m"
  refine v_alloc fun s ns => ?_
  obtain ⟨ns0, nsp⟩ := upd_none_of ns
  walk_at "m"
  refine n_whl ?_
  refine ⟨fun n m G => ∃ its xs level x4 x5 x6, m = [some self, some (.ref t.addr), some (.int level), some (.ref s), x4, x5, x6] ∧ LSt H G s its xs ∧ Seen (lv 0 t) (lvI its) level ∧ n = szL its ∧ n ≤ 10000, nsz t,
    ⟨[(t, 0)], [.ref p], -1, none, none, none, rfl, ⟨le_updF (le_updF (Heap.le_refl _) np) ns0, upd_self, .cons ⟨p, rfl, (upd_ne nsp.symm).trans upd_self⟩ .nil, fun it hit => by rw [List.mem_singleton.mp hit]; exact ht⟩, .inl ⟨rfl, fun x => by simp [lvI]⟩, by simp [szL], hz⟩, ?_⟩
  intro n m G hIw
  refine hideK fun Kw hKw => absG fun Cg hCg => ?_
  obtain ⟨its, xs, level, x4, x5, x6, rfl, b, hseen, rfl, hw⟩ := hIw
  have hxl := b.stks.len
  have hil := szL_len (its := its)
  refine hCg ?_; clear hCg
  rw [t_cmp]
  walk_at "m"
  refine v_len b.stk rfl ?_
  walk_at "m"
  rw [List.length_reverse, hxl]
  cases its with
  | nil =>
    refine v_ifF rfl ?_
    refine n_then ?_
    walk_at "n"
    refine end_old rfl b.le (k level ?_)
    rcases hseen with ⟨_, hs⟩ | ⟨e, rfl, _, hs, _⟩
    · exfalso
      cases q : lv 0 t with
      | nil => exact lv_ne t 0 q
      | cons y r =>
        have := (hs y).mpr (by rw [q]; exact .head _)
        cases this
    · exact .inl ⟨e, fun x hx => (hs x hx).resolve_right (fun q => by cases q), rfl⟩
  | cons it rest =>
    cases hxs : b.stks with
    | @cons x _ xs' _ hx hrest =>
    refine absG fun Cg hCg => ?_
    obtain ⟨q, rfl, hq⟩ := hx
    have hxl' := hrest.len
    refine hCg ?_; clear hCg
    refine v_ifT (by simp) ?_
    have hstk := b.stk
    rw [List.reverse_cons] at hstk
    have hsl : (xs'.reverse ++ [V.ref q]).length = rest.length + 1 := by simp [hxl']
    have el : ((((rest.length + 1 : Nat) : Int) - 1)).toNat = xs'.reverse.length := by simp [hxl']
    have hr1 : rest.length + 1 ≤ 10000 := Nat.le_trans hil hw
    unfold llBody
    walk_at "n"
    refine v_len hstk rfl ?_
    walk_at "m"
    rw [hsl]
    refine v_idx (v := .ref q) hstk rfl (by (first | lia | omega)) (by (first | lia | omega)) (by rw [el, List.getElem?_append_right (Nat.le_refl _)]; simp) ?_
    walk_at "n"
    refine v_len hstk rfl ?_
    walk_at "m"
    rw [hsl]
    refine v_del hstk (by (first | lia | omega)) (by rw [hsl]; (first | lia | omega)) (by rw [hsl]; (first | lia | omega)) ?_
    have ed : (xs'.reverse ++ [V.ref q]).eraseIdx ((((rest.length + 1 : Nat) : Int) - 1)).toNat = xs'.reverse := by
      rw [el, List.eraseIdx_append_of_length_le (Nat.le_refl _)]; simp
    rw [ed]
    have b1 : LSt H (G.upd s (.list xs'.reverse)) s rest xs' := ⟨le_updF b.le ns0, upd_self, All2.mono (fun _ _ h => h.lst b.stk) hrest, fun x hx => b.ok x (.tail _ hx)⟩
    have hq1 : (G.upd s (.list xs'.reverse)) q = some (.tup [.ref it.1.addr, .int it.2]) := by
      rw [upd_ne (fun e => by rw [e, b.stk] at hq; cases hq)]; exact hq
    generalize G.upd s (.list xs'.reverse) = G1 at b1 hq1 ⊢
    have hh := b.ok it (.head _)
    have hw' : nsz it.1 + szL rest ≤ 10000 := hw
    clear hw hstk hsl el ed hxl hil hxs
    obtain ⟨tt, d⟩ := it
    refine absG fun Cg hCg => ?_
    obtain ⟨a, ks, vs, cs⟩ := tt
    obtain ⟨⟨pk, pv, pc, ha, hpk, hpv, hpc⟩, hcs⟩ := hh
    have ha1 := b1.le _ _ ha
    have hc1 := b1.le _ _ hpc
    have hrl : (refsOf cs).length = cs.length := by simp [refsOf]
    have hw2 : 1 + nszL cs + szL rest ≤ 10000 := hw'
    refine hCg ?_; clear hCg
    walk_at "n"
    refine v_idx (v := .ref a) hq1 rfl (by decide) (by decide) rfl ?_
    walk_at "m"
    have down : ∀ (level' : Int) {R : PS} {K : Loc → Heap → Prop}, (∀ G2 xs2 x6, LSt H G2 s (pushL (d + 1) cs rest) xs2 → K [some self, some (.ref t.addr), some (.int level'), some (.ref s), some (.ref q), some (.ref a), x6] G2) → wpSs S.Φ [llFor] [some self, some (.ref t.addr), some (.int level'), some (.ref s), some (.ref q), some (.ref a), x6] G1 (turnW K R) := by
      intro level' R K go
      unfold llFor
      walk_at "n"
      refine v_attr ha1 rfl ?_
      refine v_of hc1 rfl ?_
      refine for_inv (fun j m G2 => ∃ x6 xs2, m = [some self, some (.ref t.addr), some (.int level'), some (.ref s), some (.ref q), some (.ref a), x6] ∧ LSt H G2 s (pushL (d + 1) (cs.take j) rest) xs2 ∧ G2 q = some (.tup [.ref a, .int d])) ⟨x6, xs', rfl, b1, hq1⟩ (fun j x m G2 K' hx hI hK => ?_) fun m G2 hI => ?_
      · refine absG fun Cg hCg => ?_
        obtain ⟨x6, xs2, rfl, b2, hq2⟩ := hI
        refine hCg ?_; clear hCg
        unfold refsOf at hx
        rw [List.getElem?_map] at hx
        refine absG fun Cg hCg => ?_
        obtain ⟨c, hc', rfl⟩ := Option.map_eq_some_iff.mp hx
        refine hCg ?_; clear hCg
        refine ⟨b2.le _ _ hpc, ?_⟩
        have hx2 := b2.stks.len
        have hps : (pushL (d + 1) (cs.take j) rest).length ≤ 10000 := by
          have g1 := szL_len (its := pushL (d + 1) (cs.take j) rest)
          rw [pushL_sz] at g1
          have g2 := nszL_take (cs := cs) (j := j)
          (first | lia | omega)
        walk_at "m"
        walk_at "n"
        refine v_isLst b2.stk ?_
        refine v_idx (v := .int d) hq2 rfl (by decide) (by decide) rfl ?_
        walk_at "m"
        have ed : (d : Int) + 1 = ((d + 1 : Nat) : Int) := by (first | lia | omega)
        rw [ed]
        refine v_alloc fun p np => ?_
        refine v_append (upd_fresh np b2.stk) (by rw [List.length_reverse, hx2]; exact Nat.le_trans hps (by decide)) ?_
        have b3 := b2.push (it := (c, d + 1)) np ns0 (HoldsL.mem hcs (List.mem_of_getElem? hc'))
        refine n_nil (turn_next (hK _ _ ⟨_, .ref p :: xs2, rfl, ?_, ?_⟩))
        · rw [List.take_add_one, hc']
          show LSt _ _ _ (pushL (d + 1) (cs.take j ++ [c]) rest) _
          rw [pushL_app]
          exact b3
        · rw [upd_ne (fun e => by rw [e, b2.stk] at hq2; cases hq2)]
          exact upd_fresh np hq2
      · refine absG fun Cg hCg => ?_
        obtain ⟨x6, xs2, rfl, b2, hq2⟩ := hI
        refine hCg ?_; clear hCg
        refine ⟨b2.le _ _ hpc, ?_⟩
        rw [hrl, List.take_length] at b2
        exact n_then (n_nil (turn_next (go G2 xs2 x6 b2)))
    refine n_ite ?_
    rw [t_meth, w_meth]
    walk_at "m"
    refine v_isInst ha1 ?_
    refine spec_is_leaf S h2 ha1 hc1 ?_
    walk_at "m"
    by_cases hcn : cs = []
    · subst hcn
      refine v_ifT rfl ?_
      have hl : ∀ x, x ∈ lvI ((Tree.node a ks vs [], d) :: rest) ↔ x = d ∨ x ∈ lvI rest := fun x => by
        show x ∈ lv d (.node a ks vs []) ++ lvI rest ↔ _
        rw [lv_leaf]; simp
      have nextK : ∀ level' : Int, Seen (lv 0 t) (lvI rest) level' → ∀ G2 xs2 x6, LSt H G2 s (pushL (d + 1) [] rest) xs2 → Kw [some self, some (V.ref t.addr), some (V.int level'), some (V.ref s), some (V.ref q), some (V.ref a), x6] G2 := fun level' hs G2 xs2 x6 b2 =>
        hKw _ _ ⟨szL rest, Nat.lt_add_of_pos_left (nsz_pos (t := .node a ks vs [])), rest, xs2, level', _, _, _, rfl, b2, hs, rfl, by (first | lia | omega)⟩
      unfold llLeaf
      walk_at "n"
      rcases hseen with ⟨rfl, hs⟩ | ⟨e, rfl, he, hs, hb⟩
      · refine v_ifT rfl ?_
        walk_at "n"
        refine v_idx (v := .int d) hq1 rfl (by decide) (by decide) rfl ?_
        refine n_nil (n_then (n_nil (n_then ?_)))
        refine down d (nextK d (.inr ⟨d, rfl, (hs d).mp ((hl d).mpr (.inl rfl)), fun x hx => (hl x).mp ((hs x).mpr hx), fun x hx => (hs x).mp ((hl x).mpr (.inr hx))⟩))
      · refine v_ifF (by simp) ?_
        walk_at "n"
        refine v_idx (v := .int d) hq1 rfl (by decide) (by decide) rfl ?_
        walk_at "m"
        by_cases hed : e = d
        · subst hed
          refine v_ifF (by simp) ?_
          refine n_nil (n_then (n_nil (n_then ?_)))
          refine down e (nextK e (.inr ⟨e, rfl, he, fun x hx => ?_, fun x hx => hb x ((hl x).mpr (.inr hx))⟩))
          rcases hs x hx with z | z
          · exact .inl z
          · rcases (hl x).mp z with z | z
            · exact .inl z
            · exact .inr z
        · refine v_ifT (by simp; (first | lia | omega)) ?_
          refine n_thenR (n_thenR (turn_ret (n_thenR (end_old rfl b1.le (k (-1) (.inr ⟨fun e' => ?_, rfl⟩))))))
          by_cases z : e' = e
          · exact ⟨d, hb d ((hl d).mpr (.inl rfl)), by (first | lia | omega)⟩
          · exact ⟨e, he, by (first | lia | omega)⟩
    · refine v_ifF (by simp [refsOf]; exact hcn) ?_
      refine n_nil (n_then ?_)
      have hl : ∀ x, x ∈ lvI ((Tree.node a ks vs cs, d) :: rest) ↔ x ∈ lvI (pushL (d + 1) cs rest) := fun x => by
        rw [pushL_mem]
        show x ∈ lv d (.node a ks vs cs) ++ lvI rest ↔ _
        rw [lv_inner hcn]; simp
      refine down level fun G2 xs2 x6 b2 => ?_
      refine hKw _ _ ⟨szL (pushL (d + 1) cs rest), ?_, _, _, level, _, _, _, rfl, b2, ?_, rfl, ?_⟩
      · rw [pushL_sz]; show _ < 1 + nszL cs + szL rest; (first | lia | omega)
      · rcases hseen with ⟨rfl, hs⟩ | ⟨e, rfl, he, hs, hb⟩
        · exact .inl ⟨rfl, fun x => ((hl x).symm.trans (hs x))⟩
        · exact .inr ⟨e, rfl, he, fun x hx => (hs x hx).imp id (hl x).mp, fun x hx => hb x ((hl x).mpr hx)⟩
      · rw [pushL_sz]; (first | lia | omega)
end
end ML
namespace ML
mutual
noncomputable def kcnt : Tree → Nat
  | .node _ ks _ cs => ks.length + kcntL cs
noncomputable def kcntL : List Tree → Nat
  | [] => 0
  | t :: r => kcnt t + kcntL r
end
theorem kcntL_app : ∀ {a b : List Tree}, kcntL (a ++ b) = kcntL a + kcntL b
  | [], b => by simp [kcntL]
  | t :: a, b => by show kcnt t + kcntL (a ++ b) = kcnt t + kcntL a + kcntL b; rw [kcntL_app, Nat.add_assoc]
theorem nszL_app2 : ∀ {a b : List Tree}, nszL (a ++ b) = nszL a + nszL b
  | [], b => by simp [nszL]
  | t :: a, b => by show nsz t + nszL (a ++ b) = nsz t + nszL a + nszL b; rw [nszL_app2, Nat.add_assoc]
theorem nszL_len : ∀ {a : List Tree}, a.length ≤ nszL a
  | [] => Nat.le_refl _
  | t :: a => by
    have := nszL_len (a := a)
    have := nsz_pos (t := t)
    show a.length + 1 ≤ nsz t + nszL a
    (first | lia | omega)
section
variable {T : Nat → Option Fn} (S : Sys T)
theorem spec_count_below (h26 : T 26 = some f_count_below) {H : Heap} {self : V} {t : Tree} {Q : PV} (ht : Holds H t) (hz : nsz t ≤ 10000) (k : Q (.int (kcnt t)) H) : S.Φ 26 [self, .ref t.addr] H Q := by
  have hlim : lim = 1000000 := rfl
  refine S.call h26 rfl ?_
  dsimp only [f_count_below]
  walk_at "m"
  walk_at "n"
  walk_at "n"
  refine v_alloc fun s ns => ?_
  walk_at "m"
  refine n_whl ?_
  refine ⟨fun n m G => ∃ (ts : List Tree) (c : Nat) (x4 x5 : Option V), m = [some self, some (.ref t.addr), some (.int c), some (.ref s), x4, x5] ∧ H.le G ∧ G s = some (.list (refsOf ts)) ∧ HoldsL H ts ∧ c + kcntL ts = kcnt t ∧ n = nszL ts ∧ n ≤ 10000, nsz t,
    ⟨[t], 0, none, none, rfl, Heap.le_upd ns, upd_self, ⟨ht, trivial⟩, by simp [kcntL], by simp [nszL], hz⟩, ?_⟩
  intro n m G hIw
  refine hideK fun Kw hKw => absG fun Cg hCg => ?_
  obtain ⟨ts, c, x4, x5, rfl, le, gs, hts, hc, rfl, hw⟩ := hIw
  have rl : ∀ l : List Tree, (refsOf l).length = l.length := fun l => by simp [refsOf]
  have htl := nszL_len (a := ts)
  refine hCg ?_; clear hCg
  rw [t_cmp]
  walk_at "m"
  refine v_len gs rfl ?_
  walk_at "m"
  rw [rl]
  by_cases hn : ts = []
  · subst hn
    refine v_ifF rfl ?_
    refine n_then ?_
    walk_at "n"
    have : c = kcnt t := by simpa [kcntL] using hc
    exact end_old rfl le (this ▸ k)
  · refine absG fun Cg hCg => ?_
    obtain ⟨ts', u, rfl⟩ : ∃ ts' u, ts = ts' ++ [u] := ⟨ts.dropLast, ts.getLast hn, (List.dropLast_concat_getLast hn).symm⟩
    have hl : (ts' ++ [u]).length = ts'.length + 1 := by simp
    have el : (((ts'.length + 1 : Nat) : Int) - 1).toNat = ts'.length := by (first | lia | omega)
    have er : refsOf (ts' ++ [u]) = refsOf ts' ++ [V.ref u.addr] := by simp [refsOf]
    refine hCg ?_; clear hCg
    rw [hl] at htl ⊢
    rw [er] at gs
    have hsl : (refsOf ts' ++ [V.ref u.addr]).length = ts'.length + 1 := by simp [refsOf]
    refine v_ifT (by simp) ?_
    walk_at "n"
    refine v_len gs rfl ?_
    walk_at "m"
    rw [hsl]
    refine v_idx (v := .ref u.addr) gs rfl (by (first | lia | omega)) (by (first | lia | omega)) (by rw [el, List.getElem?_append_right (by rw [rl]; exact Nat.le_refl _), rl, Nat.sub_self]; rfl) ?_
    walk_at "n"
    refine v_len gs rfl ?_
    walk_at "m"
    rw [hsl]
    refine v_del gs (by (first | lia | omega)) (by rw [hsl]; (first | lia | omega)) (by rw [hsl]; (first | lia | omega)) ?_
    have ed : (refsOf ts' ++ [V.ref u.addr]).eraseIdx (((ts'.length + 1 : Nat) : Int) - 1).toNat = refsOf ts' := by
      rw [el, List.eraseIdx_append_of_length_le (by rw [rl]; exact Nat.le_refl _), rl, Nat.sub_self]; simp
    rw [ed]
    have hts' : HoldsL H ts' ∧ Holds H u := by
      have : ∀ {l : List Tree}, HoldsL H (l ++ [u]) → HoldsL H l ∧ Holds H u := by
        intro l
        induction l with
        | nil => intro h; exact ⟨trivial, h.1⟩
        | cons x r ih => intro h; exact ⟨⟨h.1, (ih h.2).1⟩, (ih h.2).2⟩
      exact this hts
    obtain ⟨h1, h2⟩ := hts'
    refine absG fun Cg hCg => ?_
    obtain ⟨a, ks, vs, cs⟩ := u
    obtain ⟨⟨pk, pv, pc, ha, hpk, hpv, hpc⟩, hcs⟩ := h2
    have le1 : H.le (G.upd s (.list (refsOf ts'))) := le_updF le ns
    have gs1 : (G.upd s (.list (refsOf ts'))) s = some (.list (refsOf ts')) := upd_self
    refine hCg ?_; clear hCg
    generalize G.upd s (.list (refsOf ts')) = G1 at le1 gs1 ⊢
    have hw2 : nszL ts' + (1 + nszL cs) ≤ 10000 := by
      have : nszL (ts' ++ [Tree.node a ks vs cs]) = nszL ts' + (1 + nszL cs) := by rw [nszL_app2]; rfl
      (first | lia | omega)
    walk_at "n"
    refine v_attr (le1 _ _ ha) rfl ?_
    refine v_len (le1 _ _ hpk) rfl ?_
    rw [List.length_map]
    walk_at "m"
    have nsc : pc ≠ s := fun e => by rw [e, ns] at hpc; cases hpc
    have hcl := nszL_len (a := cs)
    have htl2 := nszL_len (a := ts')
    walk_at "n"
    refine v_attr (le1 _ _ ha) rfl ?_
    refine v_of (le1 _ _ hpc) rfl ?_
    refine for_append rfl (by decide) (by simp) gs1 (by rw [rl, rl]; (first | lia | omega)) (fun l => (upd_ne nsc).trans (le1 _ _ hpc)) fun y5 => ?_
    refine n_then (n_nil (turn_next (hKw _ _ ⟨nszL (ts' ++ cs), ?_, ts' ++ cs, c + ks.length, some (.ref a), y5, by rw [Int.natCast_add]; rfl, le_updF le1 ns, by rw [upd_self]; simp [refsOf], HoldsL.app h1 hcs, ?_, rfl, ?_⟩)))
    · rw [nszL_app2, nszL_app2]; show nszL ts' + nszL cs < nszL ts' + ((1 + nszL cs) + 0); (first | lia | omega)
    · rw [← hc, kcntL_app, kcntL_app]; show _ = c + (kcntL ts' + ((ks.length + kcntL cs) + 0)); (first | lia | omega)
    · rw [nszL_app2]; (first | lia | omega)
end
end ML
namespace ML
noncomputable def ltO (a b : Option Int) : Bool := match a, b with
  | some x, some y => decide (x < y)
  | _, _ => true
noncomputable def chkK (lo hi : Option Int) (ks : List Int) (i : Nat) : Bool := ltO lo ks[i]? && ltO ks[i]? hi && (decide (i = 0) || ltO ks[i - 1]? ks[i]?)
noncomputable def rowK (lo hi : Option Int) (ks : List Int) (n : Nat) : Bool := match n with
  | 0 => true
  | n + 1 => rowK lo hi ks n && chkK lo hi ks n
noncomputable def loJ (lo : Option Int) (ks : List Int) (j : Nat) : Option Int := if 0 < j then ks[j - 1]? else lo
noncomputable def hiJ (hi : Option Int) (ks : List Int) (j : Nat) : Option Int := if j < ks.length then ks[j]? else hi
mutual
noncomputable def kok (lo hi : Option Int) : Tree → Bool
  | .node _ ks _ cs => rowK lo hi ks ks.length && kokL lo hi ks 0 cs
noncomputable def kokL (lo hi : Option Int) (ks : List Int) (j : Nat) : List Tree → Bool
  | [] => true
  | c :: r => kok (loJ lo ks j) (hiJ hi ks j) c && kokL lo hi ks (j + 1) r
end
mutual
noncomputable def KW : Tree → Prop
  | .node _ ks _ cs => cs.length ≤ ks.length + 1 ∧ ks.length ≤ 100000 ∧ KWL cs
noncomputable def KWL : List Tree → Prop
  | [] => True
  | t :: r => KW t ∧ KWL r
end
theorem KWL.mem : ∀ {ts : List Tree} {t : Tree}, KWL ts → t ∈ ts → KW t
  | _ :: _, _, ⟨h1, h2⟩, m => by
    rcases List.mem_cons.mp m with rfl | m
    · exact h1
    · exact KWL.mem h2 m
noncomputable def vO : Option Int → V
  | none => .none
  | some i => .int i
structure KIt where
  t : Tree
  lo : Option Int
  hi : Option Int
noncomputable def IsKIt (G : Heap) (x : V) (it : KIt) : Prop := ∃ p, x = .ref p ∧ G p = some (.tup [.ref it.t.addr, vO it.lo, vO it.hi])
theorem IsKIt.le {H H' : Heap} {x : V} {it : KIt} (l : H.le H') (h : IsKIt H x it) : IsKIt H' x it := let ⟨r, e, h⟩ := h; ⟨r, e, l _ _ h⟩
theorem IsKIt.lst {H : Heap} {x : V} {it : KIt} {p : Nat} {xs : List V} {o : O} (hp : H p = some (.list xs)) (h : IsKIt H x it) : IsKIt (H.upd p o) x it := by
  obtain ⟨r, e, h⟩ := h
  refine ⟨r, e, ?_⟩
  rw [upd_ne (fun q => by rw [q, hp] at h; cases h)]; exact h
noncomputable def allK : List KIt → Bool
  | [] => true
  | it :: r => kok it.lo it.hi it.t && allK r
noncomputable def szK : List KIt → Nat
  | [] => 0
  | it :: r => nsz it.t + szK r
theorem szK_len : ∀ {its : List KIt}, its.length ≤ szK its
  | [] => Nat.le_refl _
  | it :: r => by
    have := szK_len (its := r)
    have := nsz_pos (t := it.t)
    show r.length + 1 ≤ nsz it.t + szK r
    (first | lia | omega)
noncomputable def pushK (lo hi : Option Int) (ks : List Int) (j : Nat) (cs : List Tree) (its : List KIt) : List KIt := match cs with
  | [] => its
  | c :: r => pushK lo hi ks (j + 1) r (⟨c, loJ lo ks j, hiJ hi ks j⟩ :: its)
theorem pushK_all {lo hi : Option Int} {ks : List Int} : ∀ {cs : List Tree} {j : Nat} {its : List KIt}, allK (pushK lo hi ks j cs its) = (kokL lo hi ks j cs && allK its)
  | [], j, its => by simp [pushK, kokL]
  | c :: r, j, its => by
    show allK (pushK lo hi ks (j + 1) r (⟨c, loJ lo ks j, hiJ hi ks j⟩ :: its)) = ((kok (loJ lo ks j) (hiJ hi ks j) c && kokL lo hi ks (j + 1) r) && allK its)
    rw [pushK_all]
    show (kokL lo hi ks (j + 1) r && (kok (loJ lo ks j) (hiJ hi ks j) c && allK its)) = _
    cases kokL lo hi ks (j + 1) r <;> cases kok (loJ lo ks j) (hiJ hi ks j) c <;> rfl
theorem pushK_sz {lo hi : Option Int} {ks : List Int} : ∀ {cs : List Tree} {j : Nat} {its : List KIt}, szK (pushK lo hi ks j cs its) = nszL cs + szK its
  | [], j, its => by simp [pushK, nszL]
  | c :: r, j, its => by
    show szK (pushK lo hi ks (j + 1) r (⟨c, loJ lo ks j, hiJ hi ks j⟩ :: its)) = _
    rw [pushK_sz]
    simp only [szK, nszL]; (first | lia | omega)
theorem pushK_app {lo hi : Option Int} {ks : List Int} {c : Tree} : ∀ {cs : List Tree} {j : Nat} {its : List KIt}, pushK lo hi ks j (cs ++ [c]) its = ⟨c, loJ lo ks (j + cs.length), hiJ hi ks (j + cs.length)⟩ :: pushK lo hi ks j cs its
  | [], j, its => rfl
  | x :: r, j, its => by
    show pushK lo hi ks (j + 1) (r ++ [c]) _ = _
    rw [pushK_app]
    have : j + 1 + r.length = j + (x :: r).length := by simp; (first | lia | omega)
    rw [this]; rfl
structure KSt (H G : Heap) (s : Nat) (its : List KIt) (xs : List V) : Prop where
  le : H.le G
  stk : G s = some (.list xs.reverse)
  stks : All2 (IsKIt G) xs its
  ok : ∀ it ∈ its, Holds H it.t ∧ KW it.t
theorem KSt.push {H G : Heap} {s p : Nat} {its : List KIt} {xs : List V} {it : KIt} (b : KSt H G s its xs) (np : G p = none) (ns : H s = none) (hc : Holds H it.t ∧ KW it.t) :
    KSt H ((G.upd p (.tup [.ref it.t.addr, vO it.lo, vO it.hi])).upd s (.list (xs.reverse ++ [.ref p]))) s (it :: its) (.ref p :: xs) := by
  have l1 : G.le (G.upd p (.tup [.ref it.t.addr, vO it.lo, vO it.hi])) := Heap.le_upd np
  have hs := upd_fresh (o := .tup [.ref it.t.addr, vO it.lo, vO it.hi]) np b.stk
  refine ⟨le_updF (Heap.le_trans b.le l1) ns, by rw [upd_self, List.reverse_cons], .cons ⟨p, rfl, ?_⟩ (All2.mono (fun _ _ h => (h.le l1).lst hs) b.stks), fun x hx => ?_⟩
  · rw [upd_ne (fun q => by rw [q, b.stk] at np; cases np)]; exact upd_self
  · rcases List.mem_cons.mp hx with rfl | hx
    · exact hc
    · exact b.ok x hx
end ML
namespace ML
noncomputable def koRow : List S := [
      .ite (.and (.cmp .isnot (.idx (.var 5) (.lit (.int 1))) (.lit .none)) (.cmp .le (.idx (.var 7) (.var 8)) (.idx (.var 5) (.lit (.int 1))))) [
        .ret (some (.lit (.bool false)))] [],
      .ite (.and (.cmp .isnot (.idx (.var 5) (.lit (.int 2))) (.lit .none)) (.cmp .ge (.idx (.var 7) (.var 8)) (.idx (.var 5) (.lit (.int 2))))) [
        .ret (some (.lit (.bool false)))] [],
      .ite (.and (.cmp .gt (.var 8) (.lit (.int 0))) (.cmp .le (.idx (.var 7) (.var 8)) (.idx (.var 7) (.bop .sub (.var 8) (.lit (.int 1)))))) [
        .ret (some (.lit (.bool false)))] []]
noncomputable def koKid : List S := [
      .assign 10 (.idx (.var 5) (.lit (.int 1))),
      .assign 11 (.idx (.var 5) (.lit (.int 2))),
      .ite (.cmp .gt (.var 9) (.lit (.int 0))) [
        .assign 10 (.idx (.var 7) (.bop .sub (.var 9) (.lit (.int 1))))] [],
      .ite (.cmp .lt (.var 9) (.prim .len [(.var 7)])) [
        .assign 11 (.idx (.var 7) (.var 9))] [],
      .append (.var 4) (.tup [(.idx (.attr (.var 6) 2) (.var 9)), (.var 10), (.var 11)])]
noncomputable def koBody : List S := [
    .assign 5 (.idx (.var 4) (.bop .sub (.prim .len [(.var 4)]) (.lit (.int 1)))),
    .delIdx (.var 4) (.bop .sub (.prim .len [(.var 4)]) (.lit (.int 1))),
    .assign 6 (.idx (.var 5) (.lit (.int 0))),
    .assign 7 (.attr (.var 6) 0),
    .for1 [8] (.rng1 (.prim .len [(.var 7)])) koRow,
    .for1 [9] (.rng1 (.prim .len [(.attr (.var 6) 2)])) koKid]
theorem f_keys_ok_eq : f_keys_ok = ⟨4, 12, [
  .assign 4 (.list [(.tup [(.var 1), (.var 2), (.var 3)])]),
  .whl (.cmp .gt (.prim .len [(.var 4)]) (.lit (.int 0))) koBody,
  .ret (some (.lit (.bool true)))]⟩ := rfl
section
variable {T : Nat → Option Fn} (S : Sys T)
theorem row_step {G : Heap} {q a pk i : Nat} {lo hi : Option Int} {ks : List Int} {k : Int} {s : V} {x0 x1 x2 x3 x9 x10 x11 : Option V} {R : PS} (hq : G q = some (.tup [.ref a, vO lo, vO hi])) (hk : G pk = some (.list (ks.map V.int))) (hi' : ks[i]? = some k) (z : ks.length ≤ 100000)
    (bad : chkK lo hi ks i = false → R (.ret (.bool false)) [x0, x1, x2, x3, some s, some (.ref q), some (.ref a), some (.ref pk), some (.int i), x9, x10, x11] G)
    (good : chkK lo hi ks i = true → R .next [x0, x1, x2, x3, some s, some (.ref q), some (.ref a), some (.ref pk), some (.int i), x9, x10, x11] G) :
    wpSs S.Φ koRow [x0, x1, x2, x3, some s, some (.ref q), some (.ref a), some (.ref pk), some (.int i), x9, x10, x11] G R := by
  have hlim : lim = 1000000 := rfl
  have hil := lt_of_get hi'
  have gk : ∀ {Q : V → Prop}, Q (.int k) → idxW (.ref pk) (.int i) G Q := fun h => v_idxN hk rfl (by (first | lia | omega)) (by rw [List.getElem?_map, hi']; rfl) h
  unfold koRow
  have t1 : ∀ {K : Bool → Heap → Prop}, K (!(ltO lo (some k))) G → wpT S.Φ (.and (.cmp .isnot (.idx (.var 5) (.lit (.int 1))) (.lit .none)) (.cmp .le (.idx (.var 7) (.var 8)) (.idx (.var 5) (.lit (.int 1))))) [x0, x1, x2, x3, some s, some (.ref q), some (.ref a), some (.ref pk), some (.int i), x9, x10, x11] G K := fun {K} h => by
    walk_at "m"
    refine v_idx (v := vO lo) hq rfl (by decide) (by decide) rfl ?_
    cases lo with
    | none => exact h
    | some x =>
      dsimp only [vO]
      walk_at "m"
      refine gk ?_
      refine v_idx (v := vO (some x)) hq rfl (by decide) (by decide) rfl ?_
      show K (decide (k ≤ x)) G
      have : (!(ltO (some x) (some k))) = decide (k ≤ x) := by
        show (!decide (x < k)) = _
        by_cases e : k ≤ x
        · rw [decide_eq_true e, decide_eq_false (by (first | lia | omega))]; rfl
        · rw [decide_eq_false e, decide_eq_true (by (first | lia | omega))]; rfl
      rw [← this]; exact h
  have t2 : ∀ {K : Bool → Heap → Prop}, K (!(ltO (some k) hi)) G → wpT S.Φ (.and (.cmp .isnot (.idx (.var 5) (.lit (.int 2))) (.lit .none)) (.cmp .ge (.idx (.var 7) (.var 8)) (.idx (.var 5) (.lit (.int 2))))) [x0, x1, x2, x3, some s, some (.ref q), some (.ref a), some (.ref pk), some (.int i), x9, x10, x11] G K := fun {K} h => by
    walk_at "m"
    refine v_idx (v := vO hi) hq rfl (by decide) (by decide) rfl ?_
    cases hi with
    | none => exact h
    | some x =>
      dsimp only [vO]
      walk_at "m"
      refine gk ?_
      refine v_idx (v := vO (some x)) hq rfl (by decide) (by decide) rfl ?_
      show K (decide (x ≤ k)) G
      have : (!(ltO (some k) (some x))) = decide (x ≤ k) := by
        show (!decide (k < x)) = _
        by_cases e : x ≤ k
        · rw [decide_eq_true e, decide_eq_false (by (first | lia | omega))]; rfl
        · rw [decide_eq_false e, decide_eq_true (by (first | lia | omega))]; rfl
      rw [← this]; exact h
  have t3 : ∀ {K : Bool → Heap → Prop}, K (!(decide (i = 0) || ltO ks[i - 1]? (some k))) G → wpT S.Φ (.and (.cmp .gt (.var 8) (.lit (.int 0))) (.cmp .le (.idx (.var 7) (.var 8)) (.idx (.var 7) (.bop .sub (.var 8) (.lit (.int 1)))))) [x0, x1, x2, x3, some s, some (.ref q), some (.ref a), some (.ref pk), some (.int i), x9, x10, x11] G K := fun {K} h => by
    walk_at "m"
    by_cases e : i = 0
    · subst e
      refine v_ifF rfl ?_
      exact h
    · refine v_ifT (by simp; (first | lia | omega)) ?_
      refine gk ?_
      have hp : ks[i - 1]? = some (ks[i - 1]'(by (first | lia | omega))) := List.getElem?_eq_getElem _
      have ei : (i : Int) - 1 = ((i - 1 : Nat) : Int) := by (first | lia | omega)
      rw [ei]
      refine v_idxN (v := .int (ks[i - 1]'(by (first | lia | omega)))) hk rfl (by (first | lia | omega)) (by rw [List.getElem?_map, hp]; rfl) ?_
      show K (decide (k ≤ ks[i - 1]'(by (first | lia | omega)))) G
      have : (!(decide (i = 0) || ltO ks[i - 1]? (some k))) = decide (k ≤ ks[i - 1]'(by (first | lia | omega))) := by
        rw [hp, decide_eq_false e]
        show (!(false || decide (ks[i - 1] < k))) = _
        by_cases e : k ≤ ks[i - 1]
        · rw [decide_eq_true e, decide_eq_false (by (first | lia | omega))]; rfl
        · rw [decide_eq_false e, decide_eq_true (by (first | lia | omega))]; rfl
      rw [← this]; exact h
  have hck : chkK lo hi ks i = (ltO lo (some k) && ltO (some k) hi && (decide (i = 0) || ltO ks[i - 1]? (some k))) := by unfold chkK; rw [hi']
  refine n_chk (t1 ?_)
  cases e1 : ltO lo (some k) with
  | false => exact v_ifT rfl (bad (by rw [hck, e1]; rfl))
  | true =>
    refine v_ifF rfl ?_
    refine n_chk (t2 ?_)
    cases e2 : ltO (some k) hi with
    | false => exact v_ifT rfl (bad (by rw [hck, e1, e2]; rfl))
    | true =>
      refine v_ifF rfl ?_
      refine n_chk (t3 ?_)
      cases e3 : (decide (i = 0) || ltO ks[i - 1]? (some k)) with
      | false => exact v_ifT rfl (bad (by rw [hck, e1, e2, e3]; rfl))
      | true =>
        refine v_ifF rfl ?_
        exact n_nil (good (by rw [hck, e1, e2, e3]; rfl))
end
end ML
namespace ML
theorem rowK_bad {lo hi : Option Int} {ks : List Int} {i : Nat} (h : chkK lo hi ks i = false) : ∀ {n : Nat}, i < n → rowK lo hi ks n = false
  | n + 1, hn => by
    show (rowK lo hi ks n && chkK lo hi ks n) = false
    by_cases e : i = n
    · rw [← e, h]; simp
    · rw [rowK_bad h (show i < n by (first | lia | omega))]; rfl
section
variable {T : Nat → Option Fn} (S : Sys T)
theorem spec_keys_ok (h22 : T 22 = some f_keys_ok) {H : Heap} {self : V} {t : Tree} {lo hi : Option Int} {Q : PV} (ht : Holds H t) (kw : KW t) (hz : nsz t ≤ 10000)
    (k : Q (.bool (kok lo hi t)) H) : S.Φ 22 [self, .ref t.addr, vO lo, vO hi] H Q := by
  have hlim : lim = 1000000 := rfl
  rw [f_keys_ok_eq] at h22
  refine S.call h22 rfl ?_
  dsimp only
  walk_at "m"
  walk_at "n"
  refine v_alloc fun p np => ?_
  walk_at "m"
  refine v_alloc fun s ns => ?_
  obtain ⟨ns0, nsp⟩ := upd_none_of ns
  walk_at "m"
  refine n_whl ?_
  refine ⟨fun n m G => ∃ its xs x5 x6 x7 x8 x9 x10 x11, m = [some self, some (.ref t.addr), some (vO lo), some (vO hi), some (.ref s), x5, x6, x7, x8, x9, x10, x11] ∧ KSt H G s its xs ∧ allK its = kok lo hi t ∧ n = szK its ∧ n ≤ 10000, nsz t,
    ⟨[⟨t, lo, hi⟩], [.ref p], none, none, none, none, none, none, none, rfl, ⟨le_updF (le_updF (Heap.le_refl _) np) ns0, upd_self, .cons ⟨p, rfl, (upd_ne nsp.symm).trans upd_self⟩ .nil, fun it hit => by rw [List.mem_singleton.mp hit]; exact ⟨ht, kw⟩⟩, by simp [allK], by simp [szK], hz⟩, ?_⟩
  intro n m G hIw
  refine hideK fun Kw hKw => absG fun Cg hCg => ?_
  obtain ⟨its, xs, x5, x6, x7, x8, x9, x10, x11, rfl, b, hall, rfl, hw⟩ := hIw
  have hxl := b.stks.len
  have hil := szK_len (its := its)
  refine hCg ?_; clear hCg
  rw [t_cmp]
  walk_at "m"
  refine v_len b.stk rfl ?_
  walk_at "m"
  rw [List.length_reverse, hxl]
  cases its with
  | nil =>
    refine v_ifF rfl ?_
    refine n_then ?_
    walk_at "n"
    have : kok lo hi t = true := hall.symm
    exact end_old rfl b.le (this ▸ k)
  | cons it rest =>
    cases hxs : b.stks with
    | @cons x _ xs' _ hx hrest =>
    refine absG fun Cg hCg => ?_
    obtain ⟨q, rfl, hq⟩ := hx
    have hxl' := hrest.len
    refine hCg ?_; clear hCg
    refine v_ifT (by simp) ?_
    have hstk := b.stk
    rw [List.reverse_cons] at hstk
    have hsl : (xs'.reverse ++ [V.ref q]).length = rest.length + 1 := by simp [hxl']
    have el : ((((rest.length + 1 : Nat) : Int) - 1)).toNat = xs'.reverse.length := by simp [hxl']
    have hr1 : rest.length + 1 ≤ 10000 := Nat.le_trans hil hw
    unfold koBody
    walk_at "n"
    refine v_len hstk rfl ?_
    walk_at "m"
    rw [hsl]
    refine v_idx (v := .ref q) hstk rfl (by (first | lia | omega)) (by (first | lia | omega)) (by rw [el, List.getElem?_append_right (Nat.le_refl _)]; simp) ?_
    walk_at "n"
    refine v_len hstk rfl ?_
    walk_at "m"
    rw [hsl]
    refine v_del hstk (by (first | lia | omega)) (by rw [hsl]; (first | lia | omega)) (by rw [hsl]; (first | lia | omega)) ?_
    have ed : (xs'.reverse ++ [V.ref q]).eraseIdx ((((rest.length + 1 : Nat) : Int) - 1)).toNat = xs'.reverse := by
      rw [el, List.eraseIdx_append_of_length_le (Nat.le_refl _)]; simp
    rw [ed]
    have b1 : KSt H (G.upd s (.list xs'.reverse)) s rest xs' := ⟨le_updF b.le ns0, upd_self, All2.mono (fun _ _ h => h.lst b.stk) hrest, fun x hx => b.ok x (.tail _ hx)⟩
    have hq1 : (G.upd s (.list xs'.reverse)) q = some (.tup [.ref it.t.addr, vO it.lo, vO it.hi]) := by
      rw [upd_ne (fun e => by rw [e, b.stk] at hq; cases hq)]; exact hq
    generalize G.upd s (.list xs'.reverse) = G1 at b1 hq1 ⊢
    have hh := b.ok it (.head _)
    have hall' : (kok it.lo it.hi it.t && allK rest) = kok lo hi t := hall
    have hw' : nsz it.t + szK rest ≤ 10000 := hw
    clear hall hw hstk hsl el ed hxl hil hxs
    refine absG fun Cg hCg => ?_
    obtain ⟨tt, l1, h1⟩ := it
    obtain ⟨a, ks, vs, cs⟩ := tt
    obtain ⟨⟨⟨pk, pv, pc, ha, hpk, hpv, hpc⟩, hcs⟩, ⟨kw1, kw2, kw3⟩⟩ := hh
    have ha1 := b1.le _ _ ha
    have hk1 := b1.le _ _ hpk
    have hc1 := b1.le _ _ hpc
    have hrl : (refsOf cs).length = cs.length := by simp [refsOf]
    have hall'' : (rowK l1 h1 ks ks.length && kokL l1 h1 ks 0 cs && allK rest) = kok lo hi t := hall'
    refine hCg ?_; clear hCg
    walk_at "n"
    refine v_idx (v := .ref a) hq1 rfl (by decide) (by decide) rfl ?_
    walk_at "m"
    walk_at "n"
    refine v_attr ha1 rfl ?_
    walk_at "n"
    refine v_len hk1 rfl ?_
    rw [List.length_map]
    refine v_rng1 (mid_nat (by (first | lia | omega))) ?_
    refine for_inv (fun j m G2 => (∃ x8, m = [some self, some (.ref t.addr), some (vO lo), some (vO hi), some (.ref s), some (.ref q), some (.ref a), some (.ref pk), x8, x9, x10, x11]) ∧ G2 = G1 ∧ rowK l1 h1 ks j = true) ⟨⟨x8, rfl⟩, rfl, rfl⟩ (fun j x m G2 K hx hI hK => ?_) fun m G2 hI => ?_
    · refine absG fun Cg hCg => ?_
      obtain ⟨⟨x8, rfl⟩, rfl, hrow⟩ := hI
      obtain ⟨rfl, hlt⟩ := rngList_get hx
      have hj : j < ks.length := by (first | lia | omega)
      refine hCg ?_; clear hCg
      refine ⟨trivial, ?_⟩
      rw [Int.zero_add]
      walk_at "m"
      refine row_step S (k := ks[j]'hj) hq1 hk1 (List.getElem?_eq_getElem hj) kw2 (fun e => ?_) fun e => ?_
      · refine turn_ret (n_thenR (turn_ret (n_thenR (end_old rfl b1.le ?_))))
        have : kok lo hi t = false := by rw [← hall'', rowK_bad e hj]; rfl
        rw [this] at k; exact k
      · refine turn_next (hK _ _ ⟨⟨_, rfl⟩, rfl, ?_⟩)
        show (rowK l1 h1 ks j && chkK l1 h1 ks j) = true
        rw [hrow, e]; rfl
    · refine absG fun Cg hCg => ?_
      obtain ⟨⟨x8, rfl⟩, rfl, hrow⟩ := hI
      refine hCg ?_; clear hCg
      rw [rngList_len] at hrow
      have e0 : ((ks.length : Int) - 0).toNat = ks.length := by (first | lia | omega)
      rw [e0] at hrow
      have hall3 : (kokL l1 h1 ks 0 cs && allK rest) = kok lo hi t := by rw [← hall'', hrow]; rfl
      have hw2 : 1 + nszL cs + szK rest ≤ 10000 := hw'
      refine ⟨trivial, ?_⟩
      refine n_then ?_
      walk_at "n"
      refine v_attr ha1 rfl ?_
      refine v_len hc1 rfl ?_
      rw [hrl]
      refine v_rng1 (mid_nat (by (first | lia | omega))) ?_
      refine for_inv (fun j m G2 => (∃ x9 x10 x11, m = [some self, some (.ref t.addr), some (vO lo), some (vO hi), some (.ref s), some (.ref q), some (.ref a), some (.ref pk), x8, x9, x10, x11]) ∧ ∃ xs2, KSt H G2 s (pushK l1 h1 ks 0 (cs.take j) rest) xs2 ∧ G2 q = some (.tup [.ref a, vO l1, vO h1])) ⟨⟨x9, x10, x11, rfl⟩, xs', b1, hq1⟩ (fun j x m G2 K hx hI hK => ?_) fun m G2 hI => ?_
      · refine absG fun Cg hCg => ?_
        obtain ⟨⟨x9, x10, x11, rfl⟩, xs2, b2, hq2⟩ := hI
        obtain ⟨rfl, hlt⟩ := rngList_get hx
        have hj : j < cs.length := by (first | lia | omega)
        have hcj : cs[j]? = some (cs[j]'hj) := List.getElem?_eq_getElem _
        have hkj := b2.le _ _ hpk
        refine hCg ?_; clear hCg
        refine ⟨trivial, ?_⟩
        rw [Int.zero_add]
        unfold koKid
        walk_at "m"
        walk_at "n"
        refine v_idx (v := vO l1) hq2 rfl (by decide) (by decide) rfl ?_
        walk_at "n"
        refine v_idx (v := vO h1) hq2 rfl (by decide) (by decide) rfl ?_
        walk_at "m"
        have last : ∀ {R : PS} (u w : Option Int), u = loJ l1 ks j → w = hiJ h1 ks j → wpSs S.Φ [.append (.var 4) (.tup [(.idx (.attr (.var 6) 2) (.var 9)), (.var 10), (.var 11)])] [some self, some (.ref t.addr), some (vO lo), some (vO hi), some (.ref s), some (.ref q), some (.ref a), some (.ref pk), x8, some (.int j), some (vO u), some (vO w)] G2 (turnW K R) := by
          intro R u w hu hw3
          have hx2 := b2.stks.len
          have hps : (pushK l1 h1 ks 0 (cs.take j) rest).length ≤ 10000 := by
            have g1 := szK_len (its := pushK l1 h1 ks 0 (cs.take j) rest)
            rw [pushK_sz] at g1
            have g2 := nszL_take (cs := cs) (j := j)
            (first | lia | omega)
          walk_at "n"
          refine v_isLst b2.stk ?_
          refine v_attr (b2.le _ _ ha) rfl ?_
          refine v_idxN (v := .ref (cs[j]'hj).addr) (b2.le _ _ hpc) rfl (by (first | lia | omega)) (by unfold refsOf; rw [List.getElem?_map, hcj]; rfl) ?_
          walk_at "m"
          refine v_alloc fun p np => ?_
          refine v_append (upd_fresh np b2.stk) (by rw [List.length_reverse, hx2]; exact Nat.le_trans hps (by decide)) ?_
          have hm := List.mem_of_getElem? hcj
          have b3 := b2.push (it := ⟨cs[j]'hj, u, w⟩) np ns0 ⟨HoldsL.mem hcs hm, KWL.mem kw3 hm⟩
          refine n_nil (turn_next (hK _ _ ⟨⟨_, _, _, rfl⟩, .ref p :: xs2, ?_, ?_⟩))
          · rw [List.take_add_one, hcj]
            show KSt _ _ _ (pushK l1 h1 ks 0 (cs.take j ++ [cs[j]'hj]) rest) _
            rw [pushK_app, List.length_take_of_le (Nat.le_of_lt hj), Nat.zero_add, ← hu, ← hw3]
            exact b3
          · rw [upd_ne (fun e => by rw [e, b2.stk] at hq2; cases hq2)]
            exact upd_fresh np hq2
        have second : ∀ {R : PS} (u : Option Int), u = loJ l1 ks j → wpSs S.Φ [.ite (.cmp .lt (.var 9) (.prim .len [(.var 7)])) [
        .assign 11 (.idx (.var 7) (.var 9))] [], .append (.var 4) (.tup [(.idx (.attr (.var 6) 2) (.var 9)), (.var 10), (.var 11)])] [some self, some (.ref t.addr), some (vO lo), some (vO hi), some (.ref s), some (.ref q), some (.ref a), some (.ref pk), x8, some (.int j), some (vO u), some (vO h1)] G2 (turnW K R) := by
          intro R u hu
          walk_at "n"
          refine v_len hkj rfl ?_
          walk_at "m"
          rw [List.length_map]
          by_cases q2 : j < ks.length
          · refine v_ifT (by simp; (first | lia | omega)) ?_
            have hkk : ks[j]? = some (ks[j]'q2) := List.getElem?_eq_getElem _
            walk_at "n"
            refine v_idxN (v := .int (ks[j]'q2)) hkj rfl (by (first | lia | omega)) (by rw [List.getElem?_map, hkk]; rfl) ?_
            refine n_nil (n_then ?_)
            exact last u (some (ks[j]'q2)) hu (by unfold hiJ; rw [if_pos q2, hkk])
          · refine v_ifF (by simp; (first | lia | omega)) ?_
            refine n_nil (n_then ?_)
            exact last u h1 hu (by unfold hiJ; rw [if_neg q2])
        walk_at "n"
        by_cases q1 : 0 < j
        · refine v_ifT (by simp; (first | lia | omega)) ?_
          have hpp : ks[j - 1]? = some (ks[j - 1]'(by (first | lia | omega))) := List.getElem?_eq_getElem _
          have ej : (j : Int) - 1 = ((j - 1 : Nat) : Int) := by (first | lia | omega)
          walk_at "n"
          rw [ej]
          refine v_idxN (v := .int (ks[j - 1]'(by (first | lia | omega)))) hkj rfl (by (first | lia | omega)) (by rw [List.getElem?_map, hpp]; rfl) ?_
          refine n_nil (n_then ?_)
          exact second (some (ks[j - 1]'(by (first | lia | omega)))) (by unfold loJ; rw [if_pos q1, hpp])
        · refine v_ifF (by simp; (first | lia | omega)) ?_
          refine n_nil (n_then ?_)
          exact second l1 (by unfold loJ; rw [if_neg q1])
      · refine absG fun Cg hCg => ?_
        obtain ⟨⟨x9, x10, x11, rfl⟩, xs2, b2, hq2⟩ := hI
        refine hCg ?_; clear hCg
        refine ⟨trivial, ?_⟩
        rw [rngList_len] at b2
        have e1 : ((cs.length : Int) - 0).toNat = cs.length := by (first | lia | omega)
        rw [e1, List.take_length] at b2
        refine n_then (n_nil (turn_next (hKw _ _ ⟨szK (pushK l1 h1 ks 0 cs rest), ?_, _, _, _, _, _, _, _, _, _, rfl, b2, ?_, rfl, ?_⟩)))
        · rw [pushK_sz]; show _ < (1 + nszL cs) + szK rest; (first | lia | omega)
        · rw [pushK_all]; exact hall3
        · rw [pushK_sz]; (first | lia | omega)
end
end ML
namespace ML
noncomputable def oL : Option Int → List Int
  | none => []
  | some x => [x]
noncomputable abbrev Pw (l : List Int) : Prop := l.Pairwise (· < ·)
mutual
noncomputable def kin : Tree → List Int
  | .node _ ks _ cs => weave (kinL cs) ks
noncomputable def kinL : List Tree → List (List Int)
  | [] => []
  | t :: r => kin t :: kinL r
end
mutual
noncomputable def GT : Tree → Prop
  | .node _ ks _ cs => (cs = [] ∧ ks ≠ []) ∨ (cs.length = ks.length + 1 ∧ GTL cs)
noncomputable def GTL : List Tree → Prop
  | [] => True
  | t :: r => GT t ∧ GTL r
end
theorem pw_glue {A B : List Int} {k : Int} : Pw (A ++ k :: B) ↔ Pw (A ++ [k]) ∧ Pw (k :: B) := by
  constructor
  · intro h
    have e : A ++ k :: B = (A ++ [k]) ++ B := by simp
    refine ⟨?_, (List.pairwise_append.mp h).2.1⟩
    rw [e] at h
    exact (List.pairwise_append.mp h).1
  · rintro ⟨h1, h2⟩
    obtain ⟨a1, _, a3⟩ := List.pairwise_append.mp h1
    refine List.pairwise_append.mpr ⟨a1, h2, fun x hx y hy => ?_⟩
    have hxk := a3 x hx k (.head _)
    rcases List.mem_cons.mp hy with rfl | hy
    · exact hxk
    · exact Int.lt_trans hxk ((List.pairwise_cons.mp h2).1 y hy)
theorem ltO_of {lo hi : Option Int} {ks : List Int} {i : Nat} {k : Int} (h : Pw (oL lo ++ ks ++ oL hi)) (hk : ks[i]? = some k) : ltO lo (some k) = true ∧ ltO (some k) hi = true ∧ (decide (i = 0) || ltO ks[i - 1]? (some k)) = true := by
  have hm := List.mem_of_getElem? hk
  obtain ⟨h1, _, h3⟩ := List.pairwise_append.mp h
  obtain ⟨_, h4, h5⟩ := List.pairwise_append.mp h1
  refine ⟨?_, ?_, ?_⟩
  · cases lo with
    | none => rfl
    | some x => exact decide_eq_true (h5 x (.head _) k hm)
  · cases hi with
    | none => rfl
    | some x => exact decide_eq_true (h3 k (List.mem_append.mpr (.inr hm)) x (.head _))
  · by_cases e : i = 0
    · rw [decide_eq_true e]; rfl
    · obtain ⟨hi', ek⟩ := List.getElem?_eq_some_iff.mp hk
      rw [decide_eq_false e, List.getElem?_eq_getElem (show i - 1 < ks.length by (first | lia | omega))]
      show decide (ks[i - 1] < k) = true
      have := List.pairwise_iff_getElem.mp h4 (i - 1) i (by (first | lia | omega)) hi' (by (first | lia | omega))
      rw [ek] at this
      exact decide_eq_true this
theorem row_of {lo hi : Option Int} {ks : List Int} (h : Pw (oL lo ++ ks ++ oL hi)) : ∀ n, n ≤ ks.length → rowK lo hi ks n = true
  | 0, _ => rfl
  | n + 1, hn => by
    show (rowK lo hi ks n && chkK lo hi ks n) = true
    rw [row_of h n (by (first | lia | omega))]
    obtain ⟨a, b, c⟩ := ltO_of h (List.getElem?_eq_getElem (show n < ks.length by (first | lia | omega)))
    show chkK lo hi ks n = true
    unfold chkK
    rw [List.getElem?_eq_getElem (show n < ks.length by (first | lia | omega)), a, b, c]; rfl
theorem rowK_at {lo hi : Option Int} {ks : List Int} : ∀ {n i : Nat}, rowK lo hi ks n = true → i < n → chkK lo hi ks i = true
  | n + 1, i, h, hlt => by
    obtain ⟨h1, h2⟩ := Bool.and_eq_true_iff.mp (show (rowK lo hi ks n && chkK lo hi ks n) = true from h)
    by_cases e : i = n
    · rw [e]; exact h2
    · exact rowK_at h1 (by (first | lia | omega))
theorem pw_adj {ks : List Int} (h : ∀ i (hi : i + 1 < ks.length), ks[i] < ks[i + 1]) : Pw ks := by
  refine List.pairwise_iff_getElem.mpr fun i j hi hj hij => ?_
  obtain ⟨d, rfl⟩ : ∃ d, j = i + 1 + d := ⟨j - i - 1, by (first | lia | omega)⟩
  induction d with
  | zero => exact h i hj
  | succ d ih => exact Int.lt_trans (ih (by (first | lia | omega)) (by (first | lia | omega))) (h (i + 1 + d) (by (first | lia | omega)))
theorem of_row {lo hi : Option Int} {ks : List Int} (hne : ks ≠ []) (h : rowK lo hi ks ks.length = true) : Pw (oL lo ++ ks ++ oL hi) := by
  have at_ : ∀ i (hi' : i < ks.length), ltO lo (some ks[i]) = true ∧ ltO (some ks[i]) hi = true ∧ (decide (i = 0) || ltO ks[i - 1]? (some ks[i])) = true := fun i hi' => by
    have := rowK_at h hi'
    unfold chkK at this
    rw [List.getElem?_eq_getElem hi'] at this
    obtain ⟨a, c⟩ := Bool.and_eq_true_iff.mp this
    obtain ⟨a, b⟩ := Bool.and_eq_true_iff.mp a
    exact ⟨a, b, c⟩
  have pk : Pw ks := pw_adj fun i hi' => by
    obtain ⟨_, _, c⟩ := at_ (i + 1) hi'
    rw [decide_eq_false (Nat.succ_ne_zero i), Nat.add_sub_cancel, List.getElem?_eq_getElem (show i < ks.length by (first | lia | omega))] at c
    exact of_decide_eq_true (show decide (ks[i] < ks[i + 1]) = true from c)
  have l : ∀ x ∈ oL lo, ∀ y ∈ ks, x < y := fun x hx y hy => by
    obtain ⟨i, hi', e⟩ := List.getElem_of_mem hy
    cases lo with
    | none => cases hx
    | some z =>
      rw [List.mem_singleton.mp hx, ← e]
      exact of_decide_eq_true (at_ i hi').1
  have r : ∀ x ∈ ks, ∀ y ∈ oL hi, x < y := fun x hx y hy => by
    obtain ⟨i, hi', e⟩ := List.getElem_of_mem hx
    cases hi with
    | none => cases hy
    | some z =>
      rw [List.mem_singleton.mp hy, ← e]
      exact of_decide_eq_true (at_ i hi').2.1
  have p1 : ∀ o : Option Int, Pw (oL o) := fun o => by cases o <;> simp [oL]
  refine List.pairwise_append.mpr ⟨List.pairwise_append.mpr ⟨p1 lo, pk, l⟩, p1 hi, fun x hx y hy => ?_⟩
  rcases List.mem_append.mp hx with q | q
  · cases ks with
    | nil => exact absurd rfl hne
    | cons k ks => exact Int.lt_trans (l x q k (.head _)) (r k (.head _) y hy)
  · exact r x q y hy
mutual
theorem kok_iff : ∀ {t : Tree} {lo hi : Option Int}, GT t → (kok lo hi t = true ↔ Pw (oL lo ++ kin t ++ oL hi))
  | .node a ks vs cs, lo, hi, g => by
    rcases g with ⟨hc, hne⟩ | ⟨hc, gl⟩
    · have e : kok lo hi (.node a ks vs cs) = (rowK lo hi ks ks.length && kokL lo hi ks 0 cs) := rfl
      have e2 : kin (.node a ks vs cs) = weave (kinL cs) ks := rfl
      rw [e, e2, hc]
      show (rowK lo hi ks ks.length && true) = true ↔ Pw (oL lo ++ ks ++ oL hi)
      rw [Bool.and_true]
      exact ⟨of_row hne, fun h => row_of h _ (Nat.le_refl _)⟩
    · have h := kokL_iff (cs := cs) (ks := ks) (lo := lo) (hi := hi) (j := 0) gl (by (first | lia | omega))
      have e0 : loJ lo ks 0 = lo := rfl
      have hcn : cs ≠ [] := fun q => by rw [q] at hc; simp at hc
      rw [e0, List.drop_zero] at h
      have h : kokL lo hi ks 0 cs = true ↔ Pw (oL lo ++ weave (kinL cs) ks ++ oL hi) := h.trans ⟨fun q => q.resolve_left hcn, .inr⟩
      show (rowK lo hi ks ks.length && kokL lo hi ks 0 cs) = true ↔ Pw (oL lo ++ weave (kinL cs) ks ++ oL hi)
      rw [Bool.and_eq_true_iff, h]
      refine ⟨fun q => q.2, fun q => ⟨?_, q⟩⟩
      refine row_of (List.Pairwise.sublist ?_ q) _ (Nat.le_refl _)
      exact List.Sublist.append (List.Sublist.append (List.Sublist.refl _) weave_sub) (List.Sublist.refl _)
theorem kokL_iff : ∀ {cs : List Tree} {ks : List Int} {lo hi : Option Int} {j : Nat}, GTL cs → cs.length + j = ks.length + 1 → (kokL lo hi ks j cs = true ↔ cs = [] ∨ Pw (oL (loJ lo ks j) ++ weave (kinL cs) (ks.drop j) ++ oL hi))
  | [], ks, lo, hi, j, _, _ => by simp [kokL]
  | c :: r, ks, lo, hi, j, ⟨g1, g2⟩, hl => by
    have h1 := kok_iff (t := c) (lo := loJ lo ks j) (hi := hiJ hi ks j) g1
    have h2 := kokL_iff (cs := r) (ks := ks) (lo := lo) (hi := hi) (j := j + 1) g2 (by simp at hl; (first | lia | omega))
    show (kok (loJ lo ks j) (hiJ hi ks j) c && kokL lo hi ks (j + 1) r) = true ↔ _
    rw [Bool.and_eq_true_iff, h1, h2]
    have er : kinL (c :: r) = kin c :: kinL r := rfl
    rw [er]
    cases r with
    | nil =>
      have hj : ks.length ≤ j := by simp at hl; (first | lia | omega)
      have e1 : hiJ hi ks j = hi := by unfold hiJ; rw [if_neg (by (first | lia | omega))]
      rw [e1, List.drop_of_length_le hj]
      simp [kinL, weave]
    | cons c2 r2 =>
      have hj : j < ks.length := by simp at hl; (first | lia | omega)
      have hk : ks[j]? = some (ks[j]'hj) := List.getElem?_eq_getElem _
      have e1 : hiJ hi ks j = some (ks[j]'hj) := by unfold hiJ; rw [if_pos hj, hk]
      have e2 : loJ lo ks (j + 1) = some (ks[j]'hj) := by unfold loJ; rw [if_pos (Nat.succ_pos _), Nat.add_sub_cancel, hk]
      rw [e1, e2, drop_cons hk]
      have e3 : oL (loJ lo ks j) ++ weave (kin c :: kinL (c2 :: r2)) (ks[j] :: ks.drop (j + 1)) ++ oL hi = (oL (loJ lo ks j) ++ kin c) ++ ks[j] :: (weave (kinL (c2 :: r2)) (ks.drop (j + 1)) ++ oL hi) := by simp [weave]
      rw [e3, pw_glue]
      simp [oL]
end
end ML
namespace ML
mutual
theorem shp_kw {D : Nat} : ∀ {t : Tree} {r : Bool}, shp D r t = true → nsz t ≤ 10000 → D ≤ 40000 → KW t
  | .node a ks vs cs, r, h, hz, hD => by
    obtain ⟨h1, h2⟩ := Bool.and_eq_true_iff.mp (show (okN D r ks.length vs.length cs.length && shpL D cs) = true from h)
    unfold okN at h1
    simp only [Bool.and_eq_true, Bool.or_eq_true, decide_eq_true_eq] at h1
    exact ⟨by (first | lia | omega), by (first | lia | omega), shpL_kw h2 (by have : nsz (.node a ks vs cs) = 1 + nszL cs := rfl; (first | lia | omega)) hD⟩
theorem shpL_kw {D : Nat} : ∀ {l : List Tree}, shpL D l = true → nszL l ≤ 10000 → D ≤ 40000 → KWL l
  | [], _, _, _ => trivial
  | t :: r, h, hz, hD => by
    obtain ⟨h1, h2⟩ := Bool.and_eq_true_iff.mp (show (shp D false t && shpL D r) = true from h)
    have : nszL (t :: r) = nsz t + nszL r := rfl
    exact ⟨shp_kw h1 (by (first | lia | omega)) hD, shpL_kw h2 (by (first | lia | omega)) hD⟩
end
section
variable {T : Nat → Option Fn} (S : Sys T)
theorem spec_check (h2 : T 2 = some f_is_leaf) (h21 : T 21 = some f_shape_ok) (h22 : T 22 = some f_keys_ok) (h23 : T 23 = some f_leaf_level) (h24 : T 24 = some f_check) (h26 : T 26 = some f_count_below) {H : Heap} {cn D : Nat} {size : Int} {t : Tree} {Q : PV} (hc : H cn = some (.inst 1 [(3, .int D), (4, .ref t.addr), (5, .int size)])) (ht : Holds H t) (hz : nsz t ≤ 10000) (hD : 1 ≤ D) (kw : shp D true t = true → KW t)
    (k : ∀ r : Bool, (r = true ↔ shp D true t = true ∧ kok none none t = true ∧ (∃ e : Nat, ∀ x ∈ lv 0 t, x = e) ∧ (kcnt t : Int) = size) → Q (.bool r) H) : S.Φ 24 [.ref cn] H Q := by
  refine S.call h24 rfl ?_
  dsimp only [f_check]
  walk_at "m"
  walk_at "n"
  refine v_isInst hc ?_
  refine v_attr hc rfl ?_
  walk_at "m"
  refine spec_shape S h21 hc ht hz hD ?_
  walk_at "m"
  cases e1 : shp D true t with
  | false => exact v_ifT rfl (end_ret rfl (k false ⟨(fun q => by cases q), fun q => by rw [e1] at q; cases q.1⟩))
  | true =>
    refine v_ifF rfl ?_
    walk_at "n"
    refine v_isInst hc ?_
    refine v_attr hc rfl ?_
    walk_at "m"
    refine spec_keys_ok S h22 (lo := none) (hi := none) ht (kw e1) hz ?_
    walk_at "m"
    cases e2 : kok none none t with
    | false => exact v_ifT rfl (end_ret rfl (k false ⟨(fun q => by cases q), fun q => by rw [e2] at q; cases q.2.1⟩))
    | true =>
      refine v_ifF rfl ?_
      walk_at "n"
      refine v_isInst hc ?_
      refine v_attr hc rfl ?_
      walk_at "m"
      refine spec_leaf_level S h2 h23 ht hz fun r hr => ?_
      walk_at "m"
      rcases hr with ⟨e, he, rfl⟩ | ⟨he, rfl⟩
      · refine v_ifF (by simp) ?_
        walk_at "n"
        refine v_isInst hc ?_
        refine v_attr hc rfl ?_
        walk_at "m"
        refine spec_count_below S h26 ht hz ?_
        refine v_attr hc rfl ?_
        walk_at "m"
        refine end_ret rfl (k _ ?_)
        rw [decide_eq_true_eq]
        exact ⟨fun q => ⟨e1, e2, ⟨e, he⟩, q⟩, fun q => q.2.2.2⟩
      · refine v_ifT rfl ?_
        refine end_ret rfl (k false ⟨(fun q => by cases q), fun q => ?_⟩)
        obtain ⟨_, _, ⟨e, h⟩, _⟩ := q
        obtain ⟨x, hx, hne⟩ := he e
        exact absurd (h x hx) hne
end
end ML
namespace ML
noncomputable def rin (lo hi : Int) (kv : KV) : Bool := decide (lo ≤ kv.1) && decide (kv.1 ≤ hi)
noncomputable def rbLeafB : List S := [
          .ite (.and (.cmp .le (.var 2) (.idx (.var 8) (.var 9))) (.cmp .le (.idx (.var 8) (.var 9)) (.var 3))) [
            .append (.var 4) (.tup [(.idx (.var 8) (.var 9)), (.idx (.attr (.var 7) 1) (.var 9))])] []]
noncomputable def rbLeaf : List S := [.for1 [9] (.rng1 (.prim .len [(.var 8)])) rbLeafB]
noncomputable def rbInD : List S := [
          .ite (.and (.cmp .gt (.var 10) (.lit (.int 0))) (.and (.cmp .le (.var 2) (.idx (.var 8) (.bop .sub (.var 10) (.lit (.int 1))))) (.cmp .le (.idx (.var 8) (.bop .sub (.var 10) (.lit (.int 1)))) (.var 3)))) [
            .append (.var 5) (.tup [(.var 7), (.bop .sub (.var 10) (.lit (.int 1)))])] []]
noncomputable def rbInC : List S :=
          .ite (.and (.cmp .lt (.var 10) (.prim .len [(.attr (.var 7) 2)])) (.and (.not (.var 11)) (.not (.var 12)))) [
            .append (.var 5) (.tup [(.idx (.attr (.var 7) 2) (.var 10)), (.neg (.lit (.int 1)))])] [] :: rbInD
noncomputable def rbInB : List S :=
          .assign 11 (.and (.cmp .lt (.var 10) (.prim .len [(.var 8)])) (.cmp .le (.idx (.var 8) (.var 10)) (.var 2))) ::
          .assign 12 (.and (.cmp .gt (.var 10) (.lit (.int 0))) (.and (.cmp .lt (.bop .sub (.var 10) (.lit (.int 1))) (.prim .len [(.var 8)])) (.cmp .ge (.idx (.var 8) (.bop .sub (.var 10) (.lit (.int 1)))) (.var 3)))) :: rbInC
noncomputable def rbIn : List S := [
        .for1 [10] (.rng3 (.bop .sub (.prim .max [(.prim .len [(.attr (.var 7) 2)]), (.bop .add (.prim .len [(.var 8)]) (.lit (.int 1)))]) (.lit (.int 1))) (.neg (.lit (.int 1))) true) rbInB]
noncomputable def rbOne : List S := [
      .append (.var 4) (.tup [(.idx (.var 8) (.idx (.var 6) (.lit (.int 1)))), (.idx (.attr (.var 7) 1) (.idx (.var 6) (.lit (.int 1))))])]
noncomputable def rbTail : List S := [
    .ite (.cmp .ge (.idx (.var 6) (.lit (.int 1))) (.lit (.int 0))) rbOne [
      .ite (.meth 2 (.var 7) []) rbLeaf rbIn]]
noncomputable def rbBody : List S :=
    .assign 6 (.idx (.var 5) (.bop .sub (.prim .len [(.var 5)]) (.lit (.int 1)))) ::
    .delIdx (.var 5) (.bop .sub (.prim .len [(.var 5)]) (.lit (.int 1))) ::
    .assign 7 (.idx (.var 6) (.lit (.int 0))) ::
    .assign 8 (.attr (.var 7) 0) :: rbTail
section
variable {T : Nat → Option Fn} (S : Sys T)
section
variable {H G : Heap} {o s a q pk : Nat} {lo hi : Int} {x0 x1 x6 x9 x10 x11 x12 : Option V} {ks : List Int} {vs : List V} {cs : List Tree} {rest : List Item} {done : List KV} {xs os : List V} {R : PS}
noncomputable def Gd (lo hi : Int) (it : Item) : Prop := Srt (ino it.1) ∧ (0 ≤ it.2 → ∀ x ∈ valI it, rin lo hi x = true)
structure Sel (lo hi : Int) (A B : List Item) : Prop where
  val : (valL A).filter (rin lo hi) = (valL B).filter (rin lo hi)
  wt : wtIL A ≤ wtIL B
  len : A.length ≤ B.length
  gd : ∀ it ∈ A, Gd lo hi it
theorem Sel.keep {A B : List Item} {it : Item} (h : Sel lo hi A B) (g : Gd lo hi it) : Sel lo hi (it :: A) (it :: B) := by
  refine ⟨?_, Nat.add_le_add_left h.wt (wtI it), Nat.succ_le_succ h.len, fun x hx => ?_⟩
  · show (valI it ++ valL A).filter _ = (valI it ++ valL B).filter _
    rw [List.filter_append, List.filter_append, h.val]
  · rcases List.mem_cons.mp hx with rfl | hx
    · exact g
    · exact h.gd x hx
theorem Sel.skip {A B : List Item} {it : Item} (h : Sel lo hi A B) (g : ∀ x ∈ valI it, rin lo hi x = false) : Sel lo hi A (it :: B) := by
  refine ⟨?_, Nat.le_trans h.wt (Nat.le_add_left _ (wtI it)), Nat.le_succ_of_le h.len, h.gd⟩
  show _ = (valI it ++ valL B).filter _
  rw [List.filter_append, filt_none g, h.val]; rfl
end
end
end ML
namespace ML
theorem cnt_ok {D : Nat} : ∀ {h : Nat} {t : Tree}, Sh D h t → kcnt t = (ino t).length ∧ nsz t ≤ wt t
  | 0, .node a ks vs cs, ⟨s1, s2, _⟩ => by
    subst s1
    refine ⟨?_, ?_⟩
    · show ks.length + 0 = (ks.zip vs).length
      rw [zip_len s2]; rfl
    · show 1 + 0 ≤ 2 + ks.length + 0
      (first | lia | omega)
  | h + 1, .node a ks vs cs, ⟨s1, s2, _, s4⟩ => by
    have key : ∀ l : List Tree, (∀ c ∈ l, Sh D h c) → kcntL l = ((inoL l).map List.length).sum ∧ nszL l ≤ wtL l := by
      intro l
      induction l with
      | nil => intro _; exact ⟨rfl, Nat.le_refl _⟩
      | cons c l ih =>
        intro hl
        have h1 := cnt_ok (hl c (.head _))
        have h2 := ih fun x hx => hl x (.tail _ hx)
        simp only [wtL, inoL, nszL, kcntL, List.map_cons, List.sum_cons]
        exact ⟨by rw [h1.1, h2.1], Nat.add_le_add h1.2 h2.2⟩
    have := key cs fun c hc => (s4 c hc).1
    refine ⟨?_, ?_⟩
    · show ks.length + kcntL cs = (weave (inoL cs) (ks.zip vs)).length
      rw [weave_length, zip_len s2, this.1, Nat.add_comm]
    · show 1 + nszL cs ≤ 2 + ks.length + wtL cs
      have := this.2
      (first | lia | omega)
noncomputable def selL (l : List KV) (k : Nat) : V := match l[k]? with
  | some kv => .int kv.1
  | none => .none
noncomputable def rankL (l : List KV) (key : Int) : Nat := (l.filter fun p => decide (p.1 < key)).length
noncomputable def suf (ks : List Int) (vs : List V) (cs : List Tree) (i : Nat) : List KV := weave (inoL (cs.drop i)) ((ks.zip vs).drop i)
noncomputable def skE : List S := [
      .assign 1 (.bop .sub (.var 1) (.var 5)),
      .ite (.cmp .lt (.var 4) (.prim .len [(.attr (.var 2) 0)])) [
        .ite (.cmp .eq (.var 1) (.lit (.int 0))) [
          .ret (some (.idx (.attr (.var 2) 0) (.var 4)))] [],
        .assign 1 (.bop .sub (.var 1) (.lit (.int 1)))] []]
noncomputable def skF : List S :=
      .assign 5 (.meth 26 (.var 0) [(.idx (.attr (.var 2) 2) (.var 4))]) ::
      .ite (.cmp .lt (.var 1) (.var 5)) [
        .assign 3 (.idx (.attr (.var 2) 2) (.var 4)),
        .brk] [] :: skE
noncomputable def skG : List S := [
    .ite (.cmp .is (.var 3) (.lit .none)) [
      .ret (some (.lit .none))] [],
    .assign 2 (.var 3)]
noncomputable def skB : List S :=
    .assign 3 (.lit .none) ::
    .for1 [4] (.rng1 (.prim .len [(.attr (.var 2) 2)])) skF :: skG
noncomputable def skL : List S := [
  .ite (.cmp .lt (.var 1) (.prim .len [(.attr (.var 2) 0)])) [
    .ret (some (.idx (.attr (.var 2) 0) (.var 1)))] [],
  .ret (some (.lit .none))]
section
variable {T : Nat → Option Fn} (S : Sys T)
noncomputable def rkTest : E := .and (.cmp .lt (.var 4) (.prim .len [(.attr (.var 3) 0)])) (.cmp .eq (.idx (.attr (.var 3) 0) (.var 4)) (.var 1))
noncomputable def rkC : List ML.S := [
    .ite rkTest [
      .ret (some (.bop .add (.var 2) (.meth 26 (.var 0) [(.idx (.attr (.var 3) 2) (.var 4))])))] [],
    .assign 3 (.idx (.attr (.var 3) 2) (.var 4))]
noncomputable def rkF : List ML.S := [
      .assign 2 (.bop .add (.var 2) (.meth 26 (.var 0) [(.idx (.attr (.var 3) 2) (.var 5))]))]
noncomputable def rkB : List ML.S :=
    .assign 4 (.meth 3 (.var 3) [(.var 1)]) ::
    .assign 2 (.bop .add (.var 2) (.var 4)) ::
    .for1 [5] (.rng1 (.var 4)) rkF :: rkC
noncomputable def rkL : List ML.S := [
  .ret (some (.bop .add (.var 2) (.meth 3 (.var 3) [(.var 1)])))]
end
end ML
namespace ML
theorem weave_mapF {α β : Type} (f : α → β) : ∀ {C : List (List α)} {P : List α}, (weave C P).map f = weave (C.map (List.map f)) (P.map f)
  | [], P => rfl
  | c :: C, [] => by
    show (c ++ weave C []).map f = c.map f ++ weave (C.map (List.map f)) []
    rw [List.map_append, weave_mapF f]; rfl
  | c :: C, p :: P => by
    show (c ++ p :: weave C P).map f = c.map f ++ f p :: weave (C.map (List.map f)) (P.map f)
    rw [List.map_append, List.map_cons, weave_mapF f]
theorem kinL_map : ∀ l : List Tree, kinL l = l.map kin
  | [] => rfl
  | t :: r => by show kin t :: kinL r = _; rw [kinL_map r]; rfl
theorem kin_ino {D : Nat} : ∀ {h : Nat} {t : Tree}, Sh D h t → kin t = (ino t).map (·.1)
  | 0, .node a ks vs cs, ⟨s1, s2, _⟩ => by
    subst s1
    show ks = (ks.zip vs).map (·.1)
    rw [List.map_fst_zip (by (first | lia | omega))]
  | h + 1, .node a ks vs cs, ⟨s1, s2, _, s4⟩ => by
    show weave (kinL cs) ks = (weave (inoL cs) (ks.zip vs)).map (·.1)
    rw [weave_mapF, List.map_fst_zip (by (first | lia | omega)), kinL_map, inoL_map, List.map_map]
    congr 1
    exact List.map_congr_left fun c hc => kin_ino (s4 c hc).1
theorem GTL_iff : ∀ {l : List Tree}, (∀ t ∈ l, GT t) → GTL l
  | [], _ => trivial
  | t :: r, h => ⟨h t (.head _), GTL_iff fun x hx => h x (.tail _ hx)⟩
theorem sh_gt {D : Nat} (hD : 2 ≤ D) : ∀ {h : Nat} {t : Tree}, Sh D h t → 1 ≤ t.keys.length → GT t
  | 0, .node a ks vs cs, ⟨s1, s2, _⟩, hk => .inl ⟨s1, fun e => by rw [e] at hk; simp [Tree.keys] at hk⟩
  | h + 1, .node a ks vs cs, ⟨s1, s2, _, s4⟩, _ => .inr ⟨s1, GTL_iff fun c hc => sh_gt hD (s4 c hc).1 (by have := (s4 c hc).2; (first | lia | omega))⟩
theorem sh_kok {D h : Nat} {t : Tree} (hD : 2 ≤ D) (s : Sh D h t) (hr : h = 0 ∨ 1 ≤ t.keys.length) (srt : Srt (ino t)) : kok none none t = true := by
  by_cases hk : 1 ≤ t.keys.length
  · refine (kok_iff (sh_gt hD s hk)).mpr ?_
    show List.Pairwise _ ([] ++ kin t ++ [])
    rw [List.nil_append, List.append_nil, kin_ino s]
    exact List.pairwise_map.mpr srt
  · rcases hr with rfl | hr
    · obtain ⟨a, ks, vs, cs⟩ := t
      obtain ⟨rfl, _, _⟩ := s
      have : ks = [] := List.length_eq_zero_iff.mp (by simp only [Tree.keys] at hk; (first | lia | omega))
      rw [this]; rfl
    · exact absurd hr hk
theorem shpL_iff {D : Nat} : ∀ {l : List Tree}, (∀ t ∈ l, shp D false t = true) → shpL D l = true
  | [], _ => rfl
  | t :: r, h => by show (shp D false t && shpL D r) = true; rw [h t (.head _), shpL_iff fun x hx => h x (.tail _ hx)]; rfl
theorem sh_shp {D : Nat} (hD : 1 ≤ D) : ∀ {h : Nat} {t : Tree} {r : Bool}, Sh D h t → (r = true ∨ D - 1 ≤ t.keys.length) → shp D r t = true
  | 0, .node a ks vs cs, r, ⟨s1, s2, s3⟩, hr => by
    subst s1
    show (okN D r ks.length vs.length 0 && true) = true
    unfold okN
    simp only [Bool.and_eq_true, Bool.or_eq_true, decide_eq_true_eq, and_true]
    exact ⟨⟨⟨s2, by (first | lia | omega)⟩, hr.imp id fun q => by simp only [Tree.keys] at q; (first | lia | omega)⟩, .inl trivial⟩
  | h + 1, .node a ks vs cs, r, ⟨s1, s2, s3, s4⟩, hr => by
    show (okN D r ks.length vs.length cs.length && shpL D cs) = true
    rw [shpL_iff fun c hc => sh_shp hD (s4 c hc).1 (.inr (s4 c hc).2), Bool.and_true]
    unfold okN
    simp only [Bool.and_eq_true, Bool.or_eq_true, decide_eq_true_eq]
    exact ⟨⟨⟨s2, by (first | lia | omega)⟩, hr.imp id fun q => by simp only [Tree.keys] at q; (first | lia | omega)⟩, .inr s1⟩
theorem lvL_mem {d x : Nat} : ∀ {l : List Tree}, x ∈ lvL d l → ∃ t ∈ l, x ∈ lv d t
  | [], h => nomatch h
  | t :: r, h => by
    rcases List.mem_append.mp (show x ∈ lv d t ++ lvL d r from h) with h | h
    · exact ⟨t, .head _, h⟩
    · obtain ⟨t', h1, h2⟩ := lvL_mem h
      exact ⟨t', .tail _ h1, h2⟩
theorem sh_lv {D : Nat} : ∀ {h d : Nat} {t : Tree}, Sh D h t → ∀ x ∈ lv d t, x = d + h
  | 0, d, .node a ks vs cs, ⟨s1, _, _⟩, x, hx => by
    subst s1
    rw [lv_leaf] at hx
    exact List.mem_singleton.mp hx
  | h + 1, d, .node a ks vs cs, ⟨s1, _, _, s4⟩, x, hx => by
    rw [lv_inner (fun q => by rw [q] at s1; simp at s1)] at hx
    obtain ⟨c, hc, hx⟩ := lvL_mem hx
    have := sh_lv (s4 c hc).1 x hx
    (first | lia | omega)
theorem KWL_iff : ∀ {l : List Tree}, (∀ t ∈ l, KW t) → KWL l
  | [], _ => trivial
  | t :: r, h => ⟨h t (.head _), KWL_iff fun x hx => h x (.tail _ hx)⟩
theorem kcntL_le : ∀ {l : List Tree} {t : Tree}, t ∈ l → kcnt t ≤ kcntL l
  | t :: r, _, .head _ => Nat.le_add_right _ _
  | t :: r, _, .tail _ h => Nat.le_trans (kcntL_le h) (Nat.le_add_left _ _)
theorem sh_kw {D : Nat} : ∀ {h : Nat} {t : Tree}, Sh D h t → kcnt t ≤ 100000 → KW t
  | 0, .node a ks vs cs, ⟨s1, s2, s3⟩, hz => by
    subst s1
    exact ⟨Nat.zero_le _, hz, trivial⟩
  | h + 1, .node a ks vs cs, ⟨s1, s2, s3, s4⟩, hz => by
    have hz : ks.length + kcntL cs ≤ 100000 := hz
    exact ⟨by (first | lia | omega), by (first | lia | omega), KWL_iff fun c hc => sh_kw (s4 c hc).1 (by have := kcntL_le hc; (first | lia | omega))⟩
section
variable {T : Nat → Option Fn} (S : Sys T)
theorem own_check (h2 : T 2 = some f_is_leaf) (h21 : T 21 = some f_shape_ok) (h22 : T 22 = some f_keys_ok) (h23 : T 23 = some f_leaf_level) (h24 : T 24 = some f_check) (h26 : T 26 = some f_count_below) {G : Heap} {cn D h : Nat} {root : Tree} {Q : PV} (hD : 2 ≤ D) (m : IsMap G cn D h root (ino root).length) (hr : h = 0 ∨ 1 ≤ root.keys.length) (z : (ino root).length ≤ 3000)
    (k : Q (.bool true) G) : S.Φ 24 [.ref cn] G Q := by
  obtain ⟨c1, c2⟩ := cnt_ok m.sh
  have hw := (wt_small hD m.sh).1
  refine spec_check S h2 h21 h22 h23 h24 h26 m.obj m.holds (by (first | lia | omega)) (by (first | lia | omega)) (fun _ => sh_kw m.sh (by (first | lia | omega))) fun r hr' => ?_
  rw [hr'.mpr ⟨sh_shp (by (first | lia | omega)) m.sh (.inl rfl), sh_kok hD m.sh hr m.srt, ⟨h, fun x hx => by rw [sh_lv m.sh x hx, Nat.zero_add]⟩, by rw [c1]⟩]
  exact k
end
end ML
namespace ML
noncomputable def IntV (v : V) : Prop := ∃ i, v = .int i
theorem IntV.flat {v : V} (h : IntV v) : flatV v := by obtain ⟨i, rfl⟩ := h; rfl
theorem IntV.ne {v : V} (h : IntV v) : v ≠ .none := by obtain ⟨i, rfl⟩ := h; intro q; cases q
theorem rd_flats {H : Heap} {n p : Nat} {xs : List V} (h : H p = some (.list xs)) (hf : ∀ x ∈ xs, flatV x) : Rd H (n + 1) (.ref p) (.list (xs.map dV)) := by
  refine rd_list h rfl ?_
  have := All2.mapMem (R := Rd H n) (f := id) (g := dV) (l := xs) fun x hx => rd_flat (hf x hx)
  rwa [List.map_id] at this
noncomputable def vOf (G : Heap) : V → V
  | .ref r => (match G r with | some (.tup [_, v]) => v | _ => .none)
  | _ => .none
theorem PairV.v {H : Heap} {x : V} {kv : KV} (h : PairV H x kv) : vOf H x = kv.2 := by
  obtain ⟨r, rfl, hr⟩ := h
  unfold vOf; simp only [hr]
theorem sel_eq {G : Heap} {k : Int} {ys : List V} {l : List KV} (hp : PairsV G ys l) : (ys.filter (fun x => decide (kOf G x = k))).map (vOf G) = (l.filter (fun kv => decide (kv.1 = k))).map (·.2) := by
  induction hp with
  | nil => rfl
  | @cons x kv ys l h r ih =>
    by_cases e : kv.1 = k
    · rw [List.filter_cons_of_pos (by rw [h.k]; exact decide_eq_true e), List.filter_cons_of_pos (by simpa using e), List.map_cons, List.map_cons, h.v, ih]
    · rw [List.filter_cons_of_neg (by rw [h.k]; simpa using e), List.filter_cons_of_neg (by simpa using e), ih]
theorem keys_eq {G : Heap} {ys : List V} {l : List KV} (hp : PairsV G ys l) : ys.map (fun x => V.int (kOf G x)) = l.map (fun kv => V.int kv.1) := by
  induction hp with
  | nil => rfl
  | cons h r ih => rw [List.map_cons, List.map_cons, h.k, ih]
theorem vals_eq {G : Heap} {ys : List V} {l : List KV} (hp : PairsV G ys l) : ys.map (vOf G) = l.map (·.2) := by
  induction hp with
  | nil => rfl
  | cons h r ih => rw [List.map_cons, List.map_cons, h.v, ih]
theorem found_eq {l : List KV} {k : Int} : ((l.filter (fun kv => decide (kv.1 = k))).map (·.2) ++ [V.none])[0]? = some (getL l k) := by
  unfold getL
  have e : (fun p : KV => p.1 == k) = fun kv : KV => decide (kv.1 = k) := by funext p; by_cases q : p.1 = k <;> simp [q]
  rw [e, ← List.head?_filter]
  cases l.filter (fun kv => decide (kv.1 = k)) with
  | nil => rfl
  | cons x r => rfl
theorem big_tree {D h : Nat} {t : Tree} (s : Sh D (h + 1) t) (hk : 1 ≤ t.keys.length) : 2 * D - 1 ≤ (ino t).length := by
  obtain ⟨a, ks, vs, cs⟩ := t
  obtain ⟨s1, s2, _, s4⟩ := s
  have hk : 1 ≤ ks.length := hk
  show _ ≤ (weave (inoL cs) (ks.zip vs)).length
  rw [weave_length, zip_len s2, inoL_map, List.map_map]
  match cs, s1, s4 with
  | c1 :: c2 :: r, _, s4 =>
    have k1 := keys_le (s4 c1 (.head _)).1.len.1
    have k2 := keys_le (s4 c2 (.tail _ (.head _))).1.len.1
    have d1 := (s4 c1 (.head _)).2
    have d2 := (s4 c2 (.tail _ (.head _))).2
    simp only [List.map_cons, List.sum_cons, Function.comp]
    (first | lia | omega)
  | [c], s1, _ => have s1 : 1 = ks.length + 1 := s1; (first | lia | omega)
  | [], s1, _ => simp at s1
theorem ne_self {v : V} {H : Heap} {Q : Bool → Prop} (hv : v = .none ∨ IntV v) (k : Q false) : cmpW .ne v v H Q := by
  rcases hv with rfl | ⟨i, rfl⟩
  · exact .inl ⟨.none, .none, rd_none, rd_none, fun r hr => by rw [hr.mpr rfl]; exact k⟩
  · show Q (decide (i ≠ i))
    rw [decide_eq_false (by simp)]; exact k
theorem getL_val {l : List KV} {key : Int} (h : ∀ kv ∈ l, IntV kv.2) : getL l key = .none ∨ IntV (getL l key) := by
  unfold getL
  split
  · rename_i p hp; exact .inr (h p (List.mem_of_find?_eq_some hp))
  · exact .inl rfl
theorem add_l1 {H : Heap} {p q : Nat} {xs ys : List V} {Q : PV} (h1 : H p = some (.list xs)) (h2 : H q = some (.list ys)) (z1 : xs.length ≤ 2000) (z2 : ys.length ≤ 1000) (k : ∀ a H', H.le H' → H' a = some (.list (xs ++ ys)) → Q (.ref a) H') : bopW .add (.ref p) (.ref q) H Q :=
  v_addLL h1 h2 (Nat.le_trans (Nat.add_le_add z1 z2) (by decide)) fun a H' L _ e => k a H' L e
namespace L0036
noncomputable def f__law_cell : Fn := ⟨2, 2, [
  .ite (.cmp .lt (.var 1) (.prim .len [(.var 0)])) [
    .ret (some (.idx (.var 0) (.var 1)))] [],
  .ret (some (.lit (.int 0)))]⟩
noncomputable def f__law_deed : Fn := ⟨2, 3, [
  .assign 2 (.bop .add (.var 0) (.bop .mod (.bop .fdiv (.var 1) (.lit (.int 3))) (.lit (.int 8)))),
  .ite (.cmp .eq (.bop .mod (.var 1) (.lit (.int 3))) (.lit (.int 0))) [
    .ret (some (.tup [(.lit (.str 1)), (.var 2), (.lit (.int 0))]))] [],
  .ret (some (.tup [(.lit (.str 0)), (.var 2), (.var 1)]))]⟩
noncomputable def tailF : List ML.S := [
  .ite (.cmp .lt (.prim .len [(.var 10)]) (.bop .sub (.bop .mul (.lit (.int 2)) (.var 1)) (.lit (.int 1)))) [
    .ite (.cmp .ne (.meth 31 (.var 6) []) (.bop .add (.bop .add (.bop .add (.list [(.var 1), (.prim .len [(.var 10)])]) (.comp (.idx (.var 12) (.lit (.int 0))) 1 (.of (.var 10)) none)) (.comp (.idx (.var 12) (.lit (.int 1))) 1 (.of (.var 10)) none)) (.list [(.lit (.int 0))]))) [
      .ret (some (.lit (.bool false)))] []] [],
  .ret (some (.lit (.bool true)))]
noncomputable def tailE : List ML.S :=
  .assign 11 (.bop .add (.comp (.idx (.var 12) (.lit (.int 1))) 1 (.of (.var 10)) (some (.cmp .eq (.idx (.var 12) (.lit (.int 0))) (.var 3)))) (.list [(.lit .none)])) ::
  .ite (.cmp .ne (.meth 8 (.var 6) [(.var 3)]) (.idx (.var 11) (.lit (.int 0)))) [
    .ret (some (.lit (.bool false)))] [] :: tailF
noncomputable def tailD : List ML.S :=
  .ite (.cmp .ne (.attr (.var 6) 3) (.var 1)) [
    .ret (some (.lit (.bool false)))] [] ::
  .ite (.cmp .ne (.attr (.var 6) 5) (.prim .len [(.var 10)])) [
    .ret (some (.lit (.bool false)))] [] ::
  .ite (.cmp .ne (.meth 20 (.var 6) []) (.var 10)) [
    .ret (some (.lit (.bool false)))] [] ::
  .ite (.cmp .isnot (.meth 24 (.var 6) []) (.lit (.bool true))) [
    .ret (some (.lit (.bool false)))] [] :: tailE
noncomputable def tailC : List ML.S :=
  .assign 8 .dict0 ::
  .for1 [9] (.of (.var 5)) [
    .setIdx (.var 8) (.idx (.var 9) (.lit (.int 1))) (.var 9)] ::
  .assign 10 (.comp (.tup [(.var 12), (.idx (.idx (.var 8) (.var 12)) (.lit (.int 2)))]) 1 (.of (.prim .sorted [(.var 8)])) (some (.cmp .eq (.idx (.idx (.var 8) (.var 12)) (.lit (.int 0))) (.lit (.str 0))))) :: tailD
noncomputable def tailB : List ML.S :=
  .ite (.not (.prim .isCanopy [(.var 6)])) [
    .ret (some (.lit (.bool false)))] [] ::
  .ite (.not (.prim .isCanopy [(.var 7)])) [
    .ret (some (.lit (.bool false)))] [] ::
  .ite (.or (.cmp .ne (.meth 31 (.var 7) []) (.list [(.var 1), (.lit (.int 0)), (.lit (.int 0))])) (.cmp .ne (.attr (.var 7) 5) (.lit (.int 0)))) [
    .ret (some (.lit (.bool false)))] [] ::
  .ite (.cmp .ne (.var 4) (.var 5)) [
    .ret (some (.lit (.bool false)))] [] :: tailC
noncomputable def tailA : List ML.S :=
  .assign 5 (.prim .list [(.var 4)]) ::
  .assign 6 (.call 34 [(.var 4), (.var 1)]) ::
  .assign 7 (.call 34 [(.list []), (.var 1)]) :: tailB
noncomputable def f_law : Fn := ⟨1, 12,
  .assign 1 (.bop .add (.lit (.int 2)) (.bop .mod (.call 50 [(.var 0), (.lit (.int 0))]) (.lit (.int 3)))) ::
  .assign 2 (.call 50 [(.var 0), (.lit (.int 1))]) ::
  .assign 3 (.bop .add (.var 2) (.bop .mod (.bop .fdiv (.call 50 [(.var 0), (.lit (.int 0))]) (.lit (.int 3))) (.lit (.int 9)))) ::
  .assign 4 (.comp (.call 51 [(.var 2), (.var 12)]) 1 (.of (.slice (.var 0) (some (.lit (.int 2))) (some (.lit (.int 13))))) none) :: tailA⟩
noncomputable abbrev isTrue : PS := fun fl _ H' => ∃ H'' : Heap, H''.le H' ∧ fl.val = V.bool true
structure Chk (T : Nat → Option Fn) : Prop where
  h19 : T 19 = some f_pairs_below
  h20 : T 20 = some f_pairs
  h21 : T 21 = some f_shape_ok
  h22 : T 22 = some f_keys_ok
  h23 : T 23 = some f_leaf_level
  h24 : T 24 = some f_check
  h26 : T 26 = some f_count_below
  h30 : T 30 = some f_flat_below
  h31 : T 31 = some f_flat
  h34 : T 34 = some f_run_on_canopy
section
variable {T : Nat → Option Fn} (S : Sys T)
theorem spec_cell (hd : T 50 = some f__law_cell) {H : Heap} {a : Nat} {ns : List Int} {k : Int} {Q : PV} (ha : H a = some (.ro (ns.map V.int))) (h0 : 0 ≤ k) (hn : ns.length ≤ 63) (h : ∀ i, Q (.int i) H) : S.Φ 50 [.ref a, .int k] H Q := by
  refine S.call hd rfl ?_
  dsimp only [f__law_cell]
  walk_at "m"
  walk_at "n"
  refine v_len ha rfl ?_
  walk_at "m"
  rw [List.length_map]
  refine v_if (fun e => ?_) fun e => ?_
  · have e := of_decide_eq_true e
    obtain ⟨i, rfl⟩ := Int.eq_ofNat_of_zero_le h0
    have e := Int.ofNat_lt.mp e
    walk_at "m"
    refine v_idxN (v := .int (ns[i]'e)) ha rfl (Nat.le_trans (Nat.le_of_lt e) (Nat.le_trans hn (by decide))) (by rw [List.getElem?_map, List.getElem?_eq_getElem e]; rfl) ?_
    exact end_ret rfl (h _)
  · walk_at "n"
    exact end_ret rfl (h _)
theorem spec_deed (h51 : T 51 = some f__law_deed) {H : Heap} {base c : Int} {Q : PV} (k : ∀ t G d, H.le G → DeedIs G (.ref t) d → IntV d.2.2 → Q (.ref t) G) : S.Φ 51 [.int base, .int c] H Q := by
  refine S.call h51 rfl ?_
  dsimp only [f__law_deed]
  walk_at "m"
  walk_at "n"
  refine v_fdivI (by decide) (by decide) (v_modI (by decide) ?_)
  walk_at "m"
  generalize base + c / 3 % 8 = key
  walk_at "n"
  refine v_modI (by decide) ?_
  walk_at "m"
  refine v_if (fun e => ?_) fun e => ?_
  · refine v_allocL fun t G L nt ht => ?_
    exact end_ret rfl (k t G (false, key, .int 0) L ⟨t, rfl, ht⟩ ⟨_, rfl⟩)
  · walk_at "n"
    refine v_allocL fun t G L nt ht => ?_
    exact end_ret rfl (k t G (true, key, .int c) L ⟨t, rfl, ht⟩ ⟨_, rfl⟩)
theorem tailF_ok (K : Chk T) {H G : Heap} {cn D h w : Nat} {root : Tree} {l : List KV} {ys : List V} {x0 x2 x3 x4 x5 x7 x8 x9 x11 : Option V} (hD : 2 ≤ D) (ow : Own H G cn D h root) (er : ino root = l) (hw : G w = some (.list ys)) (hP : PairsV G ys l) (hv : ∀ kv ∈ l, IntV kv.2) (z : l.length ≤ 20) :
    wpSs S.Φ tailF [x0, some (.int D), x2, x3, x4, x5, some (.ref cn), x7, x8, x9, some (.ref w), x11] G isTrue := by
  have hlim : lim = 1000000 := rfl
  have hyl := hP.len
  unfold tailF
  walk_at "n"
  refine v_len hw rfl (v_mulI (.inl mid_2) ?_)
  walk_at "m"
  rw [hyl]
  refine v_if (fun e => ?_) fun e => ?_
  rotate_left
  · refine n_nil (Φ := S.Φ) (n_then ?_)
    walk_at "n"
    exact ⟨_, Heap.le_refl _, rfl⟩
  have e := of_decide_eq_true e
  obtain ⟨h', rt⟩ : ∃ q : h = 0, True := by
    cases h with
    | zero => exact ⟨rfl, trivial⟩
    | succ h => have := big_tree ow.map.sh (ow.rt.resolve_left (Nat.succ_ne_zero h)); rw [er] at this; (first | lia | omega)
  subst h'
  have hsh := ow.map.sh
  have hh := ow.map.holds
  have ho := ow.map.obj
  obtain ⟨a, ks, vs, cs⟩ := root
  obtain ⟨rfl, sv, _⟩ := hsh
  have er : ks.zip vs = l := er
  have ek : ks = l.map (·.1) := by rw [← er, List.map_fst_zip (by (first | lia | omega))]
  have ev : vs = l.map (·.2) := by rw [← er, List.map_snd_zip (by (first | lia | omega))]
  have ekl : ks.length = l.length := by rw [ek, List.length_map]
  have efl : (Tree.node a ks vs []).flat = V.int l.length :: (l.map (fun kv => V.int kv.1) ++ (l.map (·.2) ++ [V.int 0])) := by
    show (V.int ks.length :: ks.map V.int) ++ (vs ++ [V.int 0]) = _
    rw [ekl, ek, ev, List.map_map]; rfl
  walk_at "n"
  refine v_isInst ho (spec_flat S K.h30 K.h31 ho hh (by rw [efl]; simp; (first | lia | omega)) fun b nb => ?_)
  have L1 := Heap.le_upd (o := .list (.int D :: (Tree.node a ks vs []).flat)) nb
  have gb : (G.upd b (.list (.int D :: (Tree.node a ks vs []).flat))) b = some (.list (.int D :: (Tree.node a ks vs []).flat)) := upd_self
  generalize G.upd b (.list (.int D :: (Tree.node a ks vs []).flat)) = G1 at L1 gb
  rw [efl] at gb
  have hw1 := L1 _ _ hw
  have hP1 := hP.le L1
  refine v_len hw1 rfl ?_
  rw [hyl]
  refine v_allocL fun p2 G2 L2 _ e2 => ?_
  have hw2 := L2 _ _ hw1
  have hP2 := hP1.le L2
  refine v_of hw2 rfl ?_
  refine comp_map (Φ := S.Φ) (fun x => V.int (kOf G2 x)) hw2 (by (first | lia | omega)) (fun x hx K' hK => ?_) fun p3 n3 => ?_
  · obtain ⟨i, hi⟩ := List.mem_iff_getElem?.mp hx
    obtain ⟨kv, _, hkv⟩ := hP2.at' hi
    rw [hkv.k] at hK
    obtain ⟨r, rfl, hr⟩ := hkv
    walk_at "m"
    exact v_idx hr rfl (by decide) (by decide) rfl hK
  rw [keys_eq hP2]
  refine add_l1 (upd_fresh n3 e2) upd_self (by simp) (by simp; (first | lia | omega)) fun p4 G4 L4 e4 => ?_
  have L24 := Heap.le_trans (Heap.le_upd n3) L4
  have hw4 := L24 _ _ hw2
  have hP4 := hP2.le L24
  refine v_of hw4 rfl ?_
  refine comp_map (Φ := S.Φ) (vOf G4) hw4 (by (first | lia | omega)) (fun x hx K' hK => ?_) fun p5 n5 => ?_
  · obtain ⟨i, hi⟩ := List.mem_iff_getElem?.mp hx
    obtain ⟨kv, _, hkv⟩ := hP4.at' hi
    rw [hkv.v] at hK
    obtain ⟨r, rfl, hr⟩ := hkv
    walk_at "m"
    exact v_idx hr rfl (by decide) (by decide) rfl hK
  rw [vals_eq hP4]
  refine add_l1 (upd_fresh n5 e4) upd_self (by simp; (first | lia | omega)) (by simp; (first | lia | omega)) fun p6 G6 L6 e6 => ?_
  refine v_allocL fun p7 G7 L7 _ e7 => ?_
  refine add_l1 (L7 _ _ e6) e7 (by simp; (first | lia | omega)) (by simp) fun p8 G8 L8 e8 => ?_
  have L18 := Heap.le_trans L2 (Heap.le_trans L24 (Heap.le_trans (Heap.le_upd n5) (Heap.le_trans L6 (Heap.le_trans L7 L8))))
  have all : ∀ x ∈ V.int D :: (V.int l.length :: (l.map (fun kv => V.int kv.1) ++ (l.map (·.2) ++ [V.int 0]))), flatV x := fun x hx => by
    rcases List.mem_cons.mp hx with rfl | hx
    · rfl
    · rcases List.mem_cons.mp hx with rfl | hx
      · rfl
      · rcases List.mem_append.mp hx with hx | hx
        · obtain ⟨kv, _, rfl⟩ := List.mem_map.mp hx; rfl
        · rcases List.mem_append.mp hx with hx | hx
          · obtain ⟨kv, hk, rfl⟩ := List.mem_map.mp hx; exact (hv kv hk).flat
          · rw [List.mem_singleton.mp hx]; rfl
  have e8' : G8 p8 = some (.list (V.int D :: (V.int l.length :: (l.map (fun kv => V.int kv.1) ++ (l.map (·.2) ++ [V.int 0]))))) := by rw [e8]; simp
  refine v_neRt (rd_flats (L18 _ _ gb) all) (rd_flats e8' all) ?_
  refine n_nil (Φ := S.Φ) (n_then ?_)
  walk_at "n"
  exact ⟨_, Heap.le_refl _, rfl⟩
theorem tailE_ok (C : Core T) (K : Chk T) {H G : Heap} {cn D h w : Nat} {root : Tree} {l : List KV} {ys : List V} {pr : Int} {x0 x2 x4 x5 x7 x8 x9 : Option V} (hD : 2 ≤ D) (ow : Own H G cn D h root) (er : ino root = l) (hw : G w = some (.list ys)) (hP : PairsV G ys l) (hv : ∀ kv ∈ l, IntV kv.2) (z : l.length ≤ 20) :
    wpSs S.Φ tailE [x0, some (.int D), x2, some (.int pr), x4, x5, some (.ref cn), x7, x8, x9, some (.ref w), none] G isTrue := by
  have hlim : lim = 1000000 := rfl
  have hyl := hP.len
  unfold tailE
  walk_at "n"
  refine v_of hw rfl ?_
  refine comp_pure (fun x => decide (kOf G x = pr)) (vOf G) hw (by (first | lia | omega)) (fun x hx K' hK => ?_) (fun x hx _ K' hK => ?_) fun p1 n1 => ?_
  · obtain ⟨i, hi⟩ := List.mem_iff_getElem?.mp hx
    obtain ⟨kv, _, hkv⟩ := hP.at' hi
    rw [hkv.k] at hK
    obtain ⟨r, rfl, hr⟩ := hkv
    walk_at "m"
    refine v_idx hr rfl (by decide) (by decide) rfl ?_
    walk_at "m"
    exact hK
  · obtain ⟨i, hi⟩ := List.mem_iff_getElem?.mp hx
    obtain ⟨kv, _, hkv⟩ := hP.at' hi
    rw [hkv.v] at hK
    obtain ⟨r, rfl, hr⟩ := hkv
    walk_at "m"
    exact v_idx hr rfl (by decide) (by decide) rfl hK
  rw [sel_eq hP]
  have hfl : ((l.filter (fun kv => decide (kv.1 = pr))).map (·.2)).length ≤ 20 := by rw [List.length_map]; exact Nat.le_trans (List.length_filter_le _ _) z
  have L1 := Heap.le_upd (o := .list ((l.filter (fun kv => decide (kv.1 = pr))).map (·.2))) n1
  have g1 : (G.upd p1 (.list ((l.filter (fun kv => decide (kv.1 = pr))).map (·.2)))) p1 = some (.list ((l.filter (fun kv => decide (kv.1 = pr))).map (·.2))) := upd_self
  generalize G.upd p1 (.list ((l.filter (fun kv => decide (kv.1 = pr))).map (·.2))) = G1 at L1 g1
  refine v_allocL fun p2 G2 L2 _ e2 => ?_
  refine add_l1 (L2 _ _ g1) e2 (by (first | lia | omega)) (by simp) fun p3 G3 L3 e3 => ?_
  have L03 := Heap.le_trans L1 (Heap.le_trans L2 L3)
  have ow3 := ow.grow L03
  walk_at "n"
  refine v_isInst ow3.map.obj (spec_lookup S C.h2 C.h3 C.h8 ow3.map (by rw [er]; (first | lia | omega)) ?_)
  refine v_idx e3 rfl (by decide) (by decide) found_eq ?_
  rw [er]
  refine ne_self (getL_val hv) ?_
  walk_at "m"
  exact tailF_ok S K hD ow3 er (L03 _ _ hw) (hP.le L03) hv z
theorem tailD_ok (C : Core T) (K : Chk T) {H G : Heap} {cn D h w : Nat} {root : Tree} {l : List KV} {ys : List V} {pr : Int} {x0 x2 x4 x5 x7 x8 x9 : Option V} (hD : 2 ≤ D) (ow : Own H G cn D h root) (er : ino root = l) (hw : G w = some (.list ys)) (hP : PairsV G ys l) (hv : ∀ kv ∈ l, IntV kv.2) (z : l.length ≤ 20) :
    wpSs S.Φ tailD [x0, some (.int D), x2, some (.int pr), x4, x5, some (.ref cn), x7, x8, x9, some (.ref w), none] G isTrue := by
  have hyl := hP.len
  have hfl : ∀ kv ∈ l, flatV kv.2 := fun kv hk => (hv kv hk).flat
  have ho := ow.map.obj
  unfold tailD
  walk_at "n"
  refine v_attr ho rfl ?_
  walk_at "m"
  rw [decide_eq_false (by simp)]
  walk_at "m"
  walk_at "n"
  refine v_attr ho rfl (v_len hw rfl ?_)
  walk_at "m"
  rw [hyl, er, decide_eq_false (by simp)]
  walk_at "m"
  walk_at "n"
  refine v_isInst ho (spec_pairs S C.h2 K.h19 K.h20 hD ow.map (by rw [er]; (first | lia | omega)) fun o1 G1 os L1 n1 e1 p1 => ?_)
  rw [er] at p1
  have ow1 := ow.grow L1
  refine v_neRt (d := dKV l) (rd_pairsV e1 rfl p1 hfl) (rd_pairsV (L1 _ _ hw) rfl (hP.le L1) hfl) ?_
  walk_at "m"
  walk_at "n"
  refine v_isInst ow1.map.obj (own_check S C.h2 K.h21 K.h22 K.h23 K.h24 K.h26 hD ow1.map ow1.rt (by rw [er]; (first | lia | omega)) ?_)
  walk_at "m"
  exact tailE_ok S C K hD ow1 er (L1 _ _ hw) (hP.le L1) hv z
theorem tailC_ok (C : Core T) (K : Chk T) {H G : Heap} {cn D h q : Nat} {root : Tree} {xs : List V} {ds : List Deed} {pr : Int} {x0 x2 x4 x7 : Option V} (hD : 2 ≤ D) (ow : Own H G cn D h root) (er : ino root = runL ds) (hq : G q = some (.list xs)) (hp : Deeds G xs ds) (hv : ∀ d ∈ ds, IntV d.2.2) (hz : ds.length ≤ 20) :
    wpSs S.Φ tailC [x0, some (.int D), x2, some (.int pr), x4, some (.ref q), some (.ref cn), x7, none, none, none, none] G isTrue := by
  have hfl := run_all (P := IntV) hv
  have hl := runL_len ds
  unfold tailC
  walk_at "n"
  refine v_alloc fun dd nd => ?_
  have L2 : G.le (G.upd dd (.dict [])) := Heap.le_upd nd
  have hd2 : (G.upd dd (.dict [])) dd = some (.dict []) := upd_self
  have hqd : q ≠ dd := ne_of_look nd hq
  walk_at "n"
  refine v_of (L2 _ _ hq) rfl ?_
  refine for_last (by decide) (by simp) rfl (L2 _ _ hq) hqd hd2 (hp.le L2) (by (first | lia | omega)) fun es m' hE hm' => n_then ?_
  obtain ⟨x9, rfl⟩ : ∃ x9, m' = [x0, some (.int D), x2, some (.int pr), x4, some (.ref q), some (.ref cn), x7, some (.ref dd), x9, none, none] := by
    rcases hm' with rfl | ⟨v, rfl⟩ <;> exact ⟨_, rfl⟩
  have L3 : G.le ((G.upd dd (.dict [])).upd dd (.dict es)) := fun p o e => by
    have : p ≠ dd := ne_of_look nd e
    rw [upd_ne this, upd_ne this]; exact e
  have hd3 : ((G.upd dd (.dict [])).upd dd (.dict es)) dd = some (.dict es) := upd_self
  generalize (G.upd dd (.dict [])).upd dd (.dict es) = G3 at hE hd3 L3
  refine n_assign ?_
  refine comp_last (m := [x0, some (.int D), x2, some (.int pr), x4, some (.ref q), some (.ref cn), x7, some (.ref dd), x9, none, none]) (Y := 8) rfl hd3 hE (by have := lastD_len ds; (first | lia | omega)) fun ks w G4 ys hpm hs L4 nw hw hP => ?_
  rw [kept_run hpm hs] at hP
  exact tailD_ok S C K hD (ow.grow (Heap.le_trans L3 L4)) er hw hP hfl (by (first | lia | omega))
theorem tailB_ok (C : Core T) (K : Chk T) {H G : Heap} {cn D h b q : Nat} {root : Tree} {xs : List V} {ds : List Deed} {pr : Int} {x0 x2 : Option V} {cn2 h2 : Nat} {root2 : Tree} (hD : 2 ≤ D) (ow : Own H G cn D h root) (er : ino root = runL ds) (hq : G q = some (.list xs)) (hb : G b = some (.list xs)) (hp : Deeds G xs ds) (hv : ∀ d ∈ ds, IntV d.2.2) (hz : ds.length ≤ 20)
    {H2 : Heap} (ow2 : Own H2 G cn2 D h2 root2) (er2 : ino root2 = []) :
    wpSs S.Φ tailB [x0, some (.int D), x2, some (.int pr), some (.ref b), some (.ref q), some (.ref cn), some (.ref cn2), none, none, none, none] G isTrue := by
  have ff : ∀ d ∈ ds, flatV d.2.2 := fun d hd => (hv d hd).flat
  have h20 : h2 = 0 := by
    cases h2 with
    | zero => rfl
    | succ h =>
      have := keys_le ow2.map.sh.len.1
      have := ow2.rt.resolve_left (Nat.succ_ne_zero h)
      rw [er2] at *
      simp only [List.length_nil] at *
      (first | lia | omega)
  subst h20
  have ho := ow2.map.obj
  have hh := ow2.map.holds
  have hsh := ow2.map.sh
  rw [er2] at ho
  obtain ⟨a, ks, vs, cs⟩ := root2
  obtain ⟨rfl, sv, _⟩ := hsh
  have ez : ks.zip vs = [] := er2
  have ek : ks = [] := by
    have := zip_len sv
    rw [ez] at this
    exact List.length_eq_zero_iff.mp this.symm
  subst ek
  have ev : vs = [] := List.length_eq_zero_iff.mp sv
  subst ev
  unfold tailB
  walk_at "n"
  refine v_isCan ow.map.obj ?_
  walk_at "m"
  walk_at "n"
  refine v_isCan ho ?_
  walk_at "m"
  walk_at "n"
  refine v_isInst ho (spec_flat S K.h30 K.h31 ho hh (by show 2 ≤ 900000; decide) fun p1 n1 => ?_)
  refine v_allocL fun p2 G2 L2 _ e2 => ?_
  have L02 := Heap.le_trans (Heap.le_upd n1) L2
  have all : ∀ x ∈ [V.int D, V.int 0, V.int 0], flatV x := fun x hx => by
    simp only [List.mem_cons, List.not_mem_nil, or_false] at hx
    rcases hx with rfl | rfl | rfl <;> rfl
  refine v_neRt (rd_flats (L2 _ _ upd_self) all) (rd_flats e2 all) ?_
  walk_at "m"
  refine v_attr (L02 _ _ ho) rfl ?_
  walk_at "m"
  refine v_ifF rfl ?_
  walk_at "n"
  refine v_neRt (d := dDs ds) (rd_deeds (L02 _ _ hb) rfl (hp.le L02) ff) (rd_deeds (L02 _ _ hq) rfl (hp.le L02) ff) ?_
  walk_at "m"
  exact tailC_ok S C K hD (ow.grow L02) er (L02 _ _ hq) (hp.le L02) hv hz
theorem law_ok (h0 : T 0 = some f_Node_init) (h1 : T 1 = some f_Canopy_init) (h2 : T 2 = some f_is_leaf) (h3 : T 3 = some f_slot) (h4 : T 4 = some f_lay) (h5 : T 5 = some f_row_with) (h6 : T 6 = some f_row_without) (h8 : T 8 = some f_lookup) (h10 : T 10 = some f_split_child) (h11 : T 11 = some f_put) (h12 : T 12 = some f_merge_children) (h13 : T 13 = some f_borrow_from_left) (h14 : T 14 = some f_borrow_from_right) (h15 : T 15 = some f_fill_child) (h16 : T 16 = some f_least_below) (h17 : T 17 = some f_greatest_below) (h18 : T 18 = some f_delete)
    (h19 : T 19 = some f_pairs_below) (h20 : T 20 = some f_pairs) (h21 : T 21 = some f_shape_ok) (h22 : T 22 = some f_keys_ok) (h23 : T 23 = some f_leaf_level) (h24 : T 24 = some f_check) (h26 : T 26 = some f_count_below) (h30 : T 30 = some f_flat_below) (h31 : T 31 = some f_flat) (h34 : T 34 = some f_run_on_canopy) (h50 : T 50 = some f__law_cell) (h51 : T 51 = some f__law_deed) (h52 : T 52 = some f_law) {H : Heap} {a : Nat} {ns : List Int} (ha : H a = some (.ro (ns.map V.int))) (hn : ns.length ≤ 63) : S.Φ 52 [.ref a] H (fun v _ => v = .bool true) := by
  have C : Core T := ⟨h0, h1, h2, h3, h4, h5, h6, h8, h10, h11, h12, h13, h14, h15, h16, h17, h18⟩
  have K : Chk T := ⟨h19, h20, h21, h22, h23, h24, h26, h30, h31, h34⟩
  clear h0 h1 h2 h3 h4 h5 h6 h8 h10 h11 h12 h13 h14 h15 h16 h17 h18 h19 h20 h21 h22 h23 h24 h26 h30 h31 h34
  have hlim : lim = 1000000 := rfl
  refine S.call h52 rfl ?_
  dsimp only [f_law]
  walk_at "m"
  walk_at "n"
  refine spec_cell S h50 ha (by decide) hn fun c0 => v_modI (by decide) ?_
  have b0 := emod_b c0 3 (by decide)
  generalize c0 % 3 = t0 at b0
  obtain ⟨D, et⟩ : ∃ t : Nat, 2 + t0 = t := ⟨(2 + t0).toNat, by (first | lia | omega)⟩
  have hD : 2 ≤ D := by (first | lia | omega)
  walk_at "m"
  rw [et]
  clear et b0
  walk_at "n"
  refine spec_cell S h50 ha (by decide) hn fun base => ?_
  walk_at "n"
  refine spec_cell S h50 ha (by decide) hn fun c1 => v_fdivI (by decide) (by decide) (v_modI (by decide) ?_)
  walk_at "m"
  generalize base + c1 / 3 % 9 = pr
  walk_at "n"
  refine v_sliceL (l := some 2) (h' := some 13) ha rfl rfl rfl (show (0 : Int) ≤ 2 by decide) (show (0 : Int) ≤ 13 by decide) (by rw [List.length_map]; (first | lia | omega)) fun q G0 L0 nq hq => ?_
  have hq : G0 q = some (.list (((ns.take 13).drop 2).map V.int)) := by rw [hq]; show some (O.list (((ns.map V.int).take 13).drop 2)) = _; rw [List.map_drop, List.map_take]
  have hql : ((ns.take 13).drop 2).length ≤ 11 := by rw [List.length_drop, List.length_take]; (first | lia | omega)
  generalize (ns.take 13).drop 2 = ms at hq hql
  refine v_of hq rfl ?_
  refine comp_inv (fun j acc G => G0.le G ∧ ∃ ds, Deeds G acc ds ∧ (∀ d ∈ ds, IntV d.2.2) ∧ ds.length = j) ⟨Heap.le_refl _, [], .nil, (fun _ h => nomatch h), rfl⟩ (fun j x acc G K' hx hI hK => ?_) fun acc G hI => ?_
  · obtain ⟨L, ds, hds, hv, hl⟩ := hI
    have hj := lt_of_get hx
    rw [List.length_map] at hj
    rw [List.getElem?_map] at hx
    obtain ⟨c, _, rfl⟩ := Option.map_eq_some_iff.mp hx
    have := hds.len
    refine ⟨L _ _ hq, by (first | lia | omega), ?_⟩
    rw [z_new1]
    refine r_cnone (v_ifT rfl ?_)
    walk_at "m"
    refine spec_deed S h51 fun t G' d L' hd hdv => ⟨G', Heap.le_refl _, hK _ _ ⟨Heap.le_trans L L', ds ++ [d], (hds.le L').app (.cons hd .nil), fun d' hd' => ?_, by simp [hl]⟩⟩
    rcases List.mem_append.mp hd' with hd' | hd'
    · exact hv d' hd'
    · cases List.mem_singleton.mp hd'; exact hdv
  obtain ⟨L, ds, hds, hv, hl⟩ := hI
  rw [List.length_map] at hl
  have hal := hds.len
  refine ⟨L _ _ hq, by (first | lia | omega), v_allocL fun b G1 L1 nb hb => ?_⟩
  have hds := hds.le L1
  unfold tailA
  walk_at "n"
  refine v_copy hb rfl (by (first | lia | omega)) fun g ng => ?_
  have L2 := Heap.le_upd (o := .list acc) ng
  have hg : (G1.upd g (.list acc)) g = some (.list acc) := upd_self
  generalize G1.upd g (.list acc) = G2 at L2 hg
  have hb := L2 _ _ hb
  have hds := hds.le L2
  walk_at "n"
  refine spec_run_canopy S C K.h34 hD hb rfl hds (by (first | lia | omega)) fun cn G3 h root ow er => ?_
  rw [runC_eq fun d hd => (hv d hd).ne] at er
  have hb := ow.le _ _ hb
  have hg := ow.le _ _ hg
  have hds := hds.le ow.le
  walk_at "n"
  refine v_allocL fun p4 G4 L4 _ e4 => ?_
  refine spec_run_canopy S C K.h34 hD e4 rfl (ds := []) .nil (by decide) fun cn2 G5 h2 root2 ow2 er2 => ?_
  have L45 := Heap.le_trans L4 ow2.le
  exact tailB_ok S C K hD (ow.grow L45) er (L45 _ _ hg) (L45 _ _ hb) (hds.le L45) hv (by (first | lia | omega)) ow2 er2
end
end L0036
end ML
open PySem PySem.W PyProof.Rows
set_option Elab.async false
set_option maxRecDepth 100000
set_option maxHeartbeats 8000000
namespace ML
theorem said : PySem.Challenge.rw_k9_0036.wellSaid = true := by
  rw [show @OpenLaw.wellSaid = PySem.W.Fast.tw9446332074065402090 from PySem.W.Fast.te9446332074065402090]
  kernel_rfl
noncomputable def helpers : List (Str × Nat × Nat) := [("_law_cell", 50, 0), ("_law_deed", 51, 0), ("law", 52, 7)]
noncomputable def keeps : List Nat := [0, 2, 3, 4, 5, 6, 8, 9, 10]
theorem big (w : World) (os : OsState) : (topRun treeTable PySem.Challenge.pw_k9_0036 w (boot_heap w.params).objs.size ((boot_heap w.params).nsMap mainGlobals "__annotations__") 20000 (boot0 w os) (topStub PySem.Challenge.pw_k9_0036)).map (fun s =>
    ((staticsOk (importedModules PySem.Challenge.pw_k9_0036.main.body) (boot_heap w.params) s.heap && namesBound PySem.Challenge.pw_k9_0036 s.heap && gensDone s && laidKept (boot_heap w.params) s.heap), openSeen (view PySem.Challenge.pw_k9_0036 keeps) [] (importedModules PySem.Challenge.pw_k9_0036.main.body) (fun s => xlAt (view PySem.Challenge.pw_k9_0036 keeps) [] s && recOk [] s) true s, looks helpers 52 [0, 1, 2, 3, 4, 5, 6, 8, 10, 11, 12, 13, 14, 15, 16, 17, 18, 19, 20, 21, 22, 23, 24, 26, 30, 31, 34, 50, 51, 52] (fragAt s.heap))) =
    some (true, openGood (view PySem.Challenge.pw_k9_0036 keeps) [], (true, true, some 7, [some f_Node_init, some f_Canopy_init, some f_is_leaf, some f_slot, some f_lay, some f_row_with, some f_row_without, some f_lookup, some f_split_child, some f_put, some f_merge_children, some f_borrow_from_left, some f_borrow_from_right, some f_fill_child, some f_least_below, some f_greatest_below, some f_delete, some f_pairs_below, some f_pairs, some f_shape_ok, some f_keys_ok, some f_leaf_level, some f_check, some f_count_below, some f_flat_below, some f_flat, some f_run_on_canopy, some L0036.f__law_cell, some L0036.f__law_deed, some L0036.f_law])) := by
  rw [PySem.W.Fast.te14082659384304107361, PySem.W.Fast.te14364793385576792824, PySem.W.Fast.te8920871248978507458, PySem.W.Fast.te5923862056798008813, PySem.W.Fast.te4187177175401517315]
  kernel_rfl
theorem left : LeftO PySem.Challenge.pw_k9_0036 (view PySem.Challenge.pw_k9_0036 keeps) [] (fun s => xlAt (view PySem.Challenge.pw_k9_0036 keeps) [] s && recOk [] s) (fun s => fragAt s.heap) (fun w => KAt PySem.Challenge.pw_k9_0036 20000 w) 20000 :=
  left_whole (by kernel_rfl) (by kernel_rfl) (fun _ => rfl) fun w os => let ⟨s, h1, h2, _⟩ := run_of (big w os); ⟨s, h1, h2⟩
theorem look (w : World) : looks helpers 52 [0, 1, 2, 3, 4, 5, 6, 8, 10, 11, 12, 13, 14, 15, 16, 17, 18, 19, 20, 21, 22, 23, 24, 26, 30, 31, 34, 50, 51, 52] (KAt PySem.Challenge.pw_k9_0036 20000 w) = (true, true, some 7, [some f_Node_init, some f_Canopy_init, some f_is_leaf, some f_slot, some f_lay, some f_row_with, some f_row_without, some f_lookup, some f_split_child, some f_put, some f_merge_children, some f_borrow_from_left, some f_borrow_from_right, some f_fill_child, some f_least_below, some f_greatest_below, some f_delete, some f_pairs_below, some f_pairs, some f_shape_ok, some f_keys_ok, some f_leaf_level, some f_check, some f_count_below, some f_flat_below, some f_flat, some f_run_on_canopy, some L0036.f__law_cell, some L0036.f__law_deed, some L0036.f_law]) :=
  looks_of (let ⟨s, h1, _, h3⟩ := run_of (big w (osOf PySem.Challenge.pw_k9_0036 20000 w)); ⟨s, h1, h3⟩)
end ML
open ML
theorem PySem.Challenge.cw_k9_0036_holds : PySem.Challenge.rw_k9_0036.Holds := by
  w_on
  refine holds_law ML.said fun said => ?_
  refine holds_open (q := view PySem.Challenge.pw_k9_0036 keeps) (loose := []) (Xt := fun s => xlAt (view PySem.Challenge.pw_k9_0036 keeps) [] s && recOk [] s) (XP := XL (view PySem.Challenge.pw_k9_0036 keeps) []) (Yf := fun s => fragAt s.heap) (Ya := fun w => KAt PySem.Challenge.pw_k9_0036 20000 w) (YP := fun w h => (KAt PySem.Challenge.pw_k9_0036 20000 w).In h) (N := 20000)
    ML.left (fun w s e => e ▸ frag_in) (fun w h h' x k => Frag.In.keeps x k) (fun s e => xl_of s (Bool.and_eq_true_iff.mp e).1) XL.keeps (by rfl) (by rfl) (by rfl) (fun s e => recFacts_of (Bool.and_eq_true_iff.mp e).2) (by rfl) said (by decide +kernel) ⟨rfl, rfl, rfl, rfl, rfl, by decide +kernel⟩ ?hw ?hc
  case hw => w_witness2
  case hc =>
  intro w s₀ s₁ mg mb G Y fa o pm cd doc dV kV ho hd hcd hD hmg hg args vals as hpre hlay hrd hwl hlo
  have KX : (KAt PySem.Challenge.pw_k9_0036 20000 w).In s₁.heap := Y
  refine Ground.open G ?_
  intro T B D TE TW
  wrow_args hpre hlay hrd hwl hlo
  all_goals refine enter_call ?_
  rename_i ns _ _ _ _ _ _ _ a vs _ hL _ _ _ hI _ hc _
  obtain ⟨k1, z⟩ := Prod.mk.inj (look w)
  obtain ⟨k2, z⟩ := Prod.mk.inj z
  obtain ⟨k3, z⟩ := Prod.mk.inj z
  refine codeAny_mono (row_end KX (topRead_of T) hmg hg hL hI hc rfl rfl k1 (law_of k2) k3 (by decide) fun S => L0036.law_ok (ns := ns) S (pick z (i := 0) rfl rfl) (pick z (i := 1) rfl rfl) (pick z (i := 2) rfl rfl) (pick z (i := 3) rfl rfl) (pick z (i := 4) rfl rfl) (pick z (i := 5) rfl rfl) (pick z (i := 6) rfl rfl) (pick z (i := 7) rfl rfl) (pick z (i := 8) rfl rfl) (pick z (i := 9) rfl rfl) (pick z (i := 10) rfl rfl) (pick z (i := 11) rfl rfl) (pick z (i := 12) rfl rfl) (pick z (i := 13) rfl rfl) (pick z (i := 14) rfl rfl) (pick z (i := 15) rfl rfl) (pick z (i := 16) rfl rfl) (pick z (i := 17) rfl rfl) (pick z (i := 18) rfl rfl) (pick z (i := 19) rfl rfl) (pick z (i := 20) rfl rfl) (pick z (i := 21) rfl rfl) (pick z (i := 22) rfl rfl) (pick z (i := 23) rfl rfl) (pick z (i := 24) rfl rfl) (pick z (i := 25) rfl rfl) (pick z (i := 26) rfl rfl) (pick z (i := 27) rfl rfl) (pick z (i := 28) rfl rfl) (pick z (i := 29) rfl rfl) (by simp [H0]) (by (first | lia | omega))) fun r s' z => ?_
  obtain ⟨e, k, o, g⟩ := z
  exact GoodW.toG ⟨.inl ⟨.bool true, .bool true, [], e, fun _ => rfl, .bool true, (by first | kernel_rfl | with_unfolding_all rfl), fun _ => ⟨List.nodup_nil, fun _ h => nomatch h⟩⟩, k, o, g⟩
