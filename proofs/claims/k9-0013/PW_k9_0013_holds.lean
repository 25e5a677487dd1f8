import PyProof.Rows.All
import Wide.All
import OpenK.AllK
import Wide.FinOn
import OpenK.KMake
import OpenK.TopRead
import OpenK.KCls
import OpenK.KWalk
import OpenK.KCell
import KE.KEqDat
import KE.KItem
import KE.KStateDown
import PyProof.IsiHeapPairs
import PyProof.IsiPairs
import PyProof.WalkInts
import PyProof.TypeOfCall
import KE.KDictSum
import PyProof.Rows.SumAny
import PyProof.ZipIter
import PyProof.ConsumeS
import PyProof.GenQ
import PyProof.Rows.GenFrame
import PyProof.GenCompT
import OpenK.KCall
import Wide.BridgeG
import Open.Boot
import PySem.Challenge.RW_k9_0013
set_option Elab.async false
set_option linter.all false
set_option autoImplicit false
set_option genSizeOf false
set_option genInjectivity false
set_option bootstrap.genMatcherCode false
noncomputable section
set_option compiler.extract_closed false
namespace ML
inductive V where
  | none
  | bool (b : Bool)
  | int (i : Int)
  | str (k : Nat)
  | flt (b : UInt64)
  | ref (a : Nat)
inductive O where
  | list (xs : List V)
  | ro (xs : List V)
  | tup (xs : List V)
  | inst (c : Nat) (fs : List (Nat × V))
  | dict (es : List (Int × V))
noncomputable def O.seq? : O → Option (List V)
  | .list xs => some xs
  | .ro xs => some xs
  | .tup xs => some xs
  | _ => none
noncomputable def O.lst? : O → Option (List V)
  | .list xs => some xs
  | .ro xs => some xs
  | _ => none
noncomputable abbrev Heap := Nat → Option O
noncomputable def Heap.upd (H : Heap) (a : Nat) (o : O) : Heap := fun b => if b = a then some o else H b
noncomputable def Heap.le (H H' : Heap) : Prop := ∀ a o, H a = some o → H' a = some o
noncomputable abbrev Loc := List (Option V)
inductive Flow where
  | next | brk | cont
  | ret (v : V)
inductive Bop where | add | sub | mul | fdiv | mod | pow
inductive Cop where | eq | ne | lt | le | gt | ge | is | isnot | isin | notin
inductive Prim where
  | len | abs | min | max | sum | sorted | list
  | tyList | tyInt | tyTuple | tyBool
  | isList | isBool | isCanopy
  | nan
  | degs | rooms
  | lrange
  | spare | same
  | kidsOf
mutual
inductive E where
  | var (i : Nat)
  | lit (v : V)
  | bop (o : Bop) (a b : E)
  | neg (a : E)
  | cmp (o : Cop) (a b : E)
  | cmp2 (o1 o2 : Cop) (a b c : E)
  | and (a b : E)
  | or (a b : E)
  | not (a : E)
  | call (f : Nat) (args : List E)
  | meth (f : Nat) (self : E) (args : List E)
  | new (c : Nat) (args : List E)
  | prim (p : Prim) (args : List E)
  | attr (o : E) (i : Nat)
  | idx (o i : E)
  | slice (o : E) (lo hi : Option E)
  | list (es : List E)
  | tup (es : List E)
  | dict0
  | comp (elt : E) (k : Nat) (src : Src) (cond : Option E)
inductive Src where
  | rng1 (n : E)
  | rng2 (a b : E)
  | rng3 (a b : E) (down : Bool)
  | rngS (a b st : E)
  | of (e : E)
  | zip (a b : E)
end
inductive S where
  | assign (i : Nat) (e : E)
  | unpack (is : List Nat) (e : E)
  | setAttr (o : E) (i : Nat) (e : E)
  | setIdx (o i e : E)
  | delIdx (o i : E)
  | append (o e : E)
  | expr (e : E)
  | ret (e : Option E)
  | ite (c : E) (a b : List S)
  | whl (c : E) (b : List S)
  | for1 (tgt : List Nat) (src : Src) (b : List S)
  | forz (i j : Nat) (x y : E) (b : List S)
  | brk
  | pass
set_option genInjectivity true in
inductive D where
  | none
  | int (i : Int)
  | str (k : Nat)
  | list (ds : List D)
  | tup (ds : List D)
inductive All2 {α β : Type} (R : α → β → Prop) : List α → List β → Prop where
  | nil : All2 R [] []
  | cons {a b as bs} : R a b → All2 R as bs → All2 R (a :: as) (b :: bs)
theorem All2.length {α β : Type} {R : α → β → Prop} : ∀ {l : List α} {m : List β}, All2 R l m → l.length = m.length
  | _, _, .nil => rfl
  | _, _, .cons _ r => congrArg (· + 1) r.length
theorem All2.append {α β : Type} {R : α → β → Prop} : ∀ {l l' : List α} {m m' : List β}, All2 R l m → All2 R l' m' → All2 R (l ++ l') (m ++ m')
  | _, _, _, _, .nil, y => y
  | _, _, _, _, .cons a r, y => .cons a (r.append y)
theorem All2.get {α β : Type} {R : α → β → Prop} : ∀ {l : List α} {m : List β} {i : Nat} {b : β}, All2 R l m → m[i]? = some b → ∃ a, l[i]? = some a ∧ R a b
  | _, _, 0, _, .cons a _, e => by cases e; exact ⟨_, rfl, a⟩
  | _, _, i + 1, _, .cons _ r, e => r.get (i := i) e
theorem All2.get' {α β : Type} {R : α → β → Prop} : ∀ {l : List α} {m : List β} {i : Nat} {a : α}, All2 R l m → l[i]? = some a → ∃ b, m[i]? = some b ∧ R a b
  | _, _, 0, _, .cons a _, e => by cases e; exact ⟨_, rfl, a⟩
  | _, _, i + 1, _, .cons _ r, e => r.get' (i := i) e
noncomputable def RdA : V → D → Prop
  | .none, .none => True
  | .int i, .int j => i = j
  | .str k, .str l => k = l
  | _, _ => False
noncomputable def Rd (H : Heap) : Nat → V → D → Prop
  | 0, v, d => RdA v d
  | n + 1, v, d => RdA v d ∨
      (∃ a o xs ds, v = .ref a ∧ H a = some o ∧ o.lst? = some xs ∧ d = .list ds ∧ All2 (Rd H n) xs ds) ∨
      (∃ a xs ds, v = .ref a ∧ H a = some (.tup xs) ∧ d = .tup ds ∧ All2 (Rd H n) xs ds)
noncomputable def lim : Nat := 1000000
noncomputable def mid (i : Int) : Prop := -(2 ^ 62) ≤ i ∧ i < 2 ^ 62
noncomputable abbrev PV := V → Heap → Prop
noncomputable abbrev PS := Flow → Loc → Heap → Prop
theorem absG {G : Prop} (h : ∀ C : Prop, (G → C) → C) : G := h G id
noncomputable def allocW (o : O) (H : Heap) (Q : PV) : Prop := ∀ a, H a = none → Q (.ref a) (H.upd a o)
noncomputable def f225 : UInt64 := 0x4002000000000000
noncomputable def f275 : UInt64 := 0x4006000000000000
noncomputable def f35 : UInt64 := 0x400C000000000000
noncomputable def f45 : UInt64 := 0x4012000000000000
noncomputable def f55 : UInt64 := 0x4016000000000000
noncomputable def twice (b : UInt64) : Option UInt64 := if b == f225 then some f45 else if b == f275 then some f55 else none
noncomputable def less1 (b : UInt64) : Option UInt64 := if b == f45 then some f35 else if b == f55 then some f45 else none
noncomputable def halfOf (b : UInt64) : Option Int := if b == f35 then some 3 else if b == f45 then some 4 else none
noncomputable def intW2 (a b : V) (F : Int → Int → Prop) : Prop :=
  match a with
  | .int x => (match b with | .int y => F x y | _ => False)
  | _ => False
noncomputable def addL (p q : Nat) (H : Heap) (Q : PV) : Prop :=
  match H p with
  | some (.list xs) => (match H q with
    | some (.list ys) => xs.length + ys.length ≤ lim ∧ allocW (.list (xs ++ ys)) H Q
    | _ => False)
  | _ => False
noncomputable def addW (a b : V) (H : Heap) (Q : PV) : Prop :=
  match a with
  | .int x => (match b with | .int y => Q (.int (x + y)) H | _ => False)
  | .ref p => (match b with | .ref q => addL p q H Q | _ => False)
  | _ => False
noncomputable def mulW (a b : V) (H : Heap) (Q : PV) : Prop :=
  match a with
  | .int x => (match b with
    | .int y => (mid x ∨ mid y) ∧ Q (.int (x * y)) H
    | _ => False)
  | _ => False
noncomputable def bopW (op : Bop) (a b : V) (H : Heap) (Q : PV) : Prop :=
  match op with
  | .add => addW a b H Q
  | .sub => intW2 a b fun x y => Q (.int (x - y)) H
  | .mul => mulW a b H Q
  | .fdiv => intW2 a b fun x y => 0 < y ∧ y < 2 ^ 30 ∧ Q (.int (x / y)) H
  | .mod => intW2 a b fun x y => 0 < y ∧ Q (.int (x % y)) H
  | .pow => intW2 a b fun x y => 0 ≤ y ∧ y < 64 ∧ 0 ≤ x ∧ x < 2 ^ 16 ∧ Q (.int (x ^ y.toNat)) H
noncomputable def negW (a : V) (H : Heap) (Q : PV) : Prop :=
  match a with
  | .int x => Q (.int (-x)) H
  | _ => False
noncomputable def isSame? : V → V → Option Bool
  | .none, .none => some true
  | .bool a, .bool b => some (a == b)
  | .none, .bool _ => some false
  | .bool _, .none => some false
  | .none, .ref _ => some false
  | .ref _, .none => some false
  | .bool _, .ref _ => some false
  | .ref _, .bool _ => some false
  | .int _, .none => some false
  | .none, .int _ => some false
  | .flt _, .none => some false
  | .none, .flt _ => some false
  | .str _, .none => some false
  | .int _, .bool _ => some false
  | .int _, .ref _ => some false
  | _, _ => none
noncomputable def notTup : Option O → Prop
  | some (.tup _) => False
  | some _ => True
  | none => False
noncomputable def isW (a b : V) (H : Heap) (Q : Bool → Prop) : Prop :=
  match a, b with
  | .ref p, .ref q => (p = q → Q true) ∧ (p ≠ q → notTup (H p) ∧ (H q).isSome = true ∧ Q false)
  | a, b => match isSame? a b with
    | some r => Q r
    | none => False
noncomputable def depthMax : Nat := 5
noncomputable def qnan : UInt64 := 0x7ff8000000000000
noncomputable def eqW (a b : V) (H : Heap) (Q : Bool → Prop) : Prop :=
  (∃ da db, Rd H depthMax a da ∧ Rd H depthMax b db ∧ ∀ r : Bool, (r = true ↔ da = db) → Q r) ∨
  (∃ (p q : Nat) (ps : List Nat), a = .ref p ∧ b = .ref q ∧ H p = some (.list (ps.map V.ref)) ∧ H q = some (.list (ps.map V.ref)) ∧ Q true)
noncomputable def inW (a b : V) (H : Heap) (Q : Bool → Prop) : Prop :=
  False
noncomputable def ordW (f : Int → Int → Bool) (a b : V) (Q : Bool → Prop) : Prop := intW2 a b fun x y => Q (f x y)
noncomputable def eqsW (fi : Int → Int → Bool) (fb : Bool → Bool → Bool) (fs : Nat → Nat → Bool) (Fl : Int → UInt64 → Prop) (a b : V) (E : Prop) (Q : Bool → Prop) : Prop :=
  match a with
  | .int x => (match b with | .int y => Q (fi x y) | _ => E)
  | .bool x => (match b with | .bool y => Q (fb x y) | _ => E)
  | .str x => (match b with | .str y => Q (fs x y) | _ => E)
  | _ => E
noncomputable def cmpW (op : Cop) (a b : V) (H : Heap) (Q : Bool → Prop) : Prop :=
  match op with
  | .lt => ordW (fun x y => decide (x < y)) a b Q
  | .le => ordW (fun x y => decide (x ≤ y)) a b Q
  | .gt => ordW (fun x y => decide (y < x)) a b Q
  | .ge => ordW (fun x y => decide (y ≤ x)) a b Q
  | .eq => eqsW (fun x y => decide (x = y)) (fun x y => decide (x = y)) (fun x y => decide (x = y)) (fun _ _ => False) a b (eqW a b H Q) Q
  | .ne => eqsW (fun x y => decide (x ≠ y)) (fun x y => decide (x ≠ y)) (fun x y => decide (x ≠ y)) (fun x b => eqW (.int x) (.flt b) H fun r => Q (!r)) a b (eqW a b H fun r => Q (!r)) Q
  | .is => isW a b H Q
  | .isnot => isW a b H fun r => Q (!r)
  | .isin => inW a b H Q
  | .notin => inW a b H fun r => Q (!r)
noncomputable def truthW (v : V) (_H : Heap) (Q : Bool → Prop) : Prop :=
  match v with
  | .none => Q false
  | .bool b => Q b
  | .int i => Q (decide (i ≠ 0))
  | _ => False
noncomputable def O.dic? : O → Option (List (Int × V))
  | .dict es => some es
  | _ => none
noncomputable def idxO (x : O) (k : Int) (Q : V → Prop) : Prop :=
  match x.dic? with
  | some es => ∃ v, es.lookup k = some v ∧ Q v
  | none => 0 ≤ k ∧ k < lim ∧ ∃ xs v, x.seq? = some xs ∧ xs[k.toNat]? = some v ∧ Q v
noncomputable def idxW (o i : V) (H : Heap) (Q : V → Prop) : Prop :=
  match o, i with
  | .ref p, .int k =>
    match H p with
    | some x => idxO x k Q
    | none => False
  | _, _ => False
noncomputable def cut {α : Type} (xs : List α) (lo hi : Option Int) : List α :=
  let ys := match hi with | some h => xs.take h.toNat | none => xs
  match lo with | some l => ys.drop l.toNat | none => ys
noncomputable def partOk : Option V → Option (Option Int) → Prop
  | none, r => r = some none
  | some (.int i), r => 0 ≤ i ∧ r = some (some i)
  | some _, _ => False
noncomputable def part? : Option V → Option (Option Int)
  | none => some none
  | some (.int i) => some (some i)
  | some _ => none
noncomputable def nonneg? : Option Int → Prop
  | none => True
  | some i => 0 ≤ i
noncomputable def tsliceW (xs : List V) (l h : Option Int) (H : Heap) (Q : PV) : Prop :=
  match l, h with
  | none, some k => 0 ≤ k ∧ k.toNat < xs.length ∧ xs.length ≤ lim ∧ allocW (.tup (xs.take k.toNat)) H Q
  | _, _ => False
noncomputable def sliceW (o : V) (lo hi : Option V) (H : Heap) (Q : PV) : Prop :=
  match o, part? lo, part? hi with
  | .ref p, some l, some h =>
    match H p with
    | some x => nonneg? l ∧ nonneg? h ∧ ∃ xs, x.lst? = some xs ∧ xs.length ≤ lim ∧ allocW (.list (cut xs l h)) H Q
    | none => False
  | _, _, _ => False
noncomputable def setF (fs : List (Nat × V)) (i : Nat) (v : V) : List (Nat × V) :=
  match fs with
  | [] => [(i, v)]
  | (j, w) :: r => if j = i then (i, v) :: r else (j, w) :: setF r i v
noncomputable def attrW (o : V) (i : Nat) (H : Heap) (Q : V → Prop) : Prop :=
  match o with
  | .ref p => match H p with
    | some (.inst _ fs) => ∃ v, fs.lookup i = some v ∧ Q v
    | _ => False
  | _ => False
noncomputable def setAttrW (o : V) (i : Nat) (v : V) (H : Heap) (Q : Heap → Prop) : Prop :=
  match o with
  | .ref p => match H p with
    | some (.inst c fs) => fs.length ≤ 100 ∧ Q (H.upd p (.inst c (setF fs i v)))
    | _ => False
  | _ => False
noncomputable def dset (es : List (Int × V)) (k : Int) (v : V) : List (Int × V) :=
  match es with
  | [] => [(k, v)]
  | (j, w) :: r => if j = k then (j, v) :: r else (j, w) :: dset r k v
noncomputable def setIdxW (o i v : V) (H : Heap) (Q : Heap → Prop) : Prop :=
  match o, i with
  | .ref p, .int k => match H p with
    | some (.list xs) => 0 ≤ k ∧ k < xs.length ∧ k < lim ∧ Q (H.upd p (.list (xs.set k.toNat v)))
    | _ => False
  | _, _ => False
noncomputable def delIdxW (o i : V) (H : Heap) (Q : Heap → Prop) : Prop :=
  match o, i with
  | .ref p, .int k => match H p with
    | some (.list xs) => 0 ≤ k ∧ k < xs.length ∧ xs.length ≤ lim ∧ Q (H.upd p (.list (xs.eraseIdx k.toNat)))
    | _ => False
  | _, _ => False
noncomputable def appendW (o v : V) (H : Heap) (Q : Heap → Prop) : Prop :=
  match o with
  | .ref p => match H p with
    | some (.list xs) => xs.length ≤ lim ∧ Q (H.upd p (.list (xs ++ [v])))
    | _ => False
  | _ => False
noncomputable def isCanW (vs : List V) (H : Heap) (Q : PV) : Prop :=
  match vs with
  | [.ref a] => (match H a with
    | some (.inst 1 _) => Q (.bool true) H
    | _ => False)
  | _ => False
noncomputable def nanW (vs : List V) (H : Heap) (Q : PV) : Prop :=
  match vs with
  | [] => Q (.flt qnan) H
  | _ => False
noncomputable def degsL : List V := [.int 2, .int 2, .int 3, .int 4, .flt f225, .flt f225, .flt f225, .flt f275]
noncomputable def roomsL : List V := [.int 64, .int 64, .int 64, .int 64, .int 3, .int 3, .int 3, .int 4]
noncomputable def gList : Prim → List V
  | .degs => degsL
  | .rooms => roomsL
  | _ => []
noncomputable def tabW (xs vs : List V) (H : Heap) (Q : PV) : Prop :=
  match vs with
  | [.int i] => 0 ≤ i ∧ i < 2 ^ 60 ∧ ∃ v, xs[i.toNat]? = some v ∧ Q v H
  | _ => False
noncomputable def ints? : List V → Option (List Int)
  | [] => some []
  | .int i :: r => (ints? r).map (i :: ·)
  | _ => none
noncomputable def lenW (vs : List V) (H : Heap) (Q : PV) : Prop :=
  match vs with
  | [.ref a] => (match H a with
    | some x => (∃ xs, x.seq? = some xs ∧ Q (.int xs.length) H)
    | none => False)
  | _ => False
noncomputable def int1W (f : Int → V) (vs : List V) (H : Heap) (Q : PV) : Prop :=
  match vs with
  | [.int i] => Q (f i) H
  | _ => False
noncomputable def int2W (f : Int → Int → V) (vs : List V) (H : Heap) (Q : PV) : Prop :=
  match vs with
  | [.int i, .int j] => Q (f i j) H
  | _ => False
noncomputable def lstW (vs : List V) (H : Heap) (Q : PV) : Prop :=
  match vs with
  | [.ref a] => (match H a with
    | some x => x.lst?.isSome = true ∧ Q (.bool true) H
    | none => False)
  | _ => False
noncomputable def tupW (vs : List V) (H : Heap) (Q : PV) : Prop :=
  match vs with
  | [.ref a] => (match H a with
    | some (.tup _) => Q (.bool true) H
    | _ => False)
  | _ => False
noncomputable def bool1W (vs : List V) (H : Heap) (Q : PV) : Prop :=
  match vs with
  | [.bool _] => Q (.bool true) H
  | _ => False
noncomputable def copyW (vs : List V) (H : Heap) (Q : PV) : Prop :=
  match vs with
  | [.ref a] => (match H a with
    | some x => ∃ xs, x.seq? = some xs ∧ xs.length ≤ lim ∧ allocW (.list xs) H Q
    | none => False)
  | _ => False
noncomputable def sumZ : List Int → Int
  | [] => 0
  | x :: r => x + sumZ r
noncomputable def sumW (vs : List V) (H : Heap) (Q : PV) : Prop :=
  match vs with
  | [.ref a] => (match H a with
    | some x => ∃ ns, x.lst? = some (ns.map V.int) ∧ Q (.int (sumZ ns)) H
    | none => False)
  | _ => False
noncomputable def O.keys? : O → Option (List V)
  | x => x.lst?
noncomputable def sortW (vs : List V) (H : Heap) (Q : PV) : Prop :=
  match vs with
  | [.ref a] => (match H a with
    | some x => (∃ ns, x.keys? = some (ns.map V.int) ∧ ns.length < 64 ∧ ∀ ks : List Int, ks.Perm ns → ks.Pairwise (· ≤ ·) → allocW (.list (ks.map V.int)) H Q)
    | none => False)
  | _ => False
noncomputable def lrangeW (vs : List V) (H : Heap) (Q : PV) : Prop :=
  match vs with
  | [.int n] => n ≤ lim ∧ 0 ≤ n ∧ allocW (.list ((List.range n.toNat).map fun i : Nat => V.int i)) H Q
  | _ => False
noncomputable def allSameW (vs : List V) (H : Heap) (Q : PV) : Prop :=
  match vs with
  | [.ref p, .ref q] => (∃ rs : List Nat, H p = some (.list (rs.map V.ref)) ∧ H q = some (.list (rs.map V.ref)) ∧ rs.length ≤ lim) ∧ (∃ P, H P = some (.dict [])) ∧ Q (.bool true) H
  | _ => False
noncomputable def allIntW (vs : List V) (H : Heap) (Q : PV) : Prop :=
  match vs with
  | [.ref p] => (∃ ns : List Int, H p = some (.list (ns.map V.int)) ∧ ns.length ≤ lim) ∧ (∃ P, H P = some (.dict [])) ∧ Q (.bool true) H
  | _ => False
noncomputable def KidsAt (H : Heap) (k : V) (L : List V) : Prop := ∃ d c fs r, k = .ref d ∧ H d = some (.inst c fs) ∧ fs.lookup 2 = some (.ref r) ∧ H r = some (.list L)
noncomputable def kidsW (vs : List V) (H : Heap) (Q : PV) : Prop :=
  match vs with
  | [.ref p] => ∃ (ks : List V) (LL : List (List V)), H p = some (.list ks) ∧ All2 (KidsAt H) ks LL ∧ LL.flatten.length ≤ lim ∧ allocW (.list LL.flatten) H Q
  | _ => False
noncomputable def primW (p : Prim) (vs : List V) (H : Heap) (Q : PV) : Prop :=
  match p with
  | .len => lenW vs H Q
  | .abs => int1W (fun i => .int i.natAbs) vs H Q
  | .min => int2W (fun i j => .int (if j < i then j else i)) vs H Q
  | .max => int2W (fun i j => .int (if i < j then j else i)) vs H Q
  | .tyList => lstW vs H Q
  | .isList => lstW vs H Q
  | .tyTuple => tupW vs H Q
  | .tyInt => int1W (fun _ => .bool true) vs H Q
  | .tyBool => bool1W vs H Q
  | .isBool => bool1W vs H Q
  | .list => copyW vs H Q
  | .sum => sumW vs H Q
  | .sorted => sortW vs H Q
  | .kidsOf => kidsW vs H Q
  | .spare => allIntW vs H Q
  | .same => allSameW vs H Q
  | _ => False
noncomputable def rngList (a n : Int) : List V := (List.range (n - a).toNat).map fun i : Nat => V.int (a + i)
noncomputable def rngStep (a n st : Int) : List V := (List.range ((n - a + (st - 1)) / st).toNat).map fun i : Nat => V.int (a + i * st)
noncomputable def rngDown (a n : Int) : List V := (List.range (a - n).toNat).map fun i : Nat => V.int (a - i)
noncomputable def bindTo (tgt : List Nat) (x : V) (H : Heap) (m : Loc) (Q : Loc → Prop) : Prop :=
  match tgt with
  | [i] => Q (m.set i (some x))
  | [i, j] => match x with
    | .ref p => match H p with
      | some (.tup [u, v]) => Q ((m.set i (some u)).set j (some v))
      | _ => False
    | _ => False
  | _ => False
noncomputable def setAll (m : Loc) : List Nat → List V → Loc
  | i :: is, v :: vs => setAll (m.set i (some v)) is vs
  | _, _ => m
noncomputable def unpW (tgt : List Nat) (x : V) (H : Heap) (m : Loc) (Q : Loc → Prop) : Prop :=
  match x with
  | .ref p => match H p with
    | some (.tup vs) => vs.length = tgt.length ∧ Q (setAll m tgt vs)
    | _ => False
  | _ => False
noncomputable def bindNew (k : Nat) (x : V) (_H : Heap) (m : Loc) (Q : Loc → Prop) : Prop :=
  match k with
  | 1 => Q (m ++ [some x])
  | _ => False
noncomputable def compW (elt : Loc → Heap → PV → Prop) (cond : Loc → Heap → (Bool → Heap → Prop) → Prop) (k : Nat) (ok : Heap → Prop) (m : Loc) : List V → List V → Heap → PV → Prop
  | [], acc, H, Q => ok H ∧ acc.length ≤ lim ∧ allocW (.list acc) H Q
  | x :: xs, acc, H, Q => ok H ∧ acc.length ≤ lim ∧ bindNew k x H m fun m' => cond m' H fun b H =>
      if b then elt m' H fun v H => ∃ H', H'.le H ∧ compW elt cond k ok m xs (acc ++ [v]) H' Q
      else compW elt cond k ok m xs acc H Q
noncomputable def varW (o : Option (Option V)) (Q : V → Prop) : Prop :=
  match o with
  | some (some v) => Q v
  | _ => False
noncomputable def methCls (f : Nat) : Nat := if f ≤ 4 then 0 else 1
noncomputable def isInst (H : Heap) (c : Nat) : V → Prop
  | .ref p => (match H p with | some (.inst c' _) => c' = c | _ => False)
  | _ => False
noncomputable def rng1W (x : V) (Q : List V → Prop) : Prop :=
  match x with
  | .int n => mid n ∧ Q (rngList 0 n)
  | _ => False
noncomputable def rng2W (down : Bool) (x y : V) (Q : List V → Prop) : Prop :=
  match x, y with
  | .int a, .int b => mid a ∧ mid b ∧ Q (if down then rngDown a b else rngList a b)
  | _, _ => False
noncomputable def rngSW (x y z : V) (Q : List V → Prop) : Prop :=
  match x, y, z with
  | .int a, .int b, .int c => mid a ∧ mid b ∧ 0 < c ∧ c ≤ 1000000 ∧ Q (rngStep a b c)
  | _, _, _ => False
noncomputable def ofW (x : V) (H : Heap) (Q : List V → (Heap → Prop) → Prop) : Prop :=
  match x with
  | .ref p => (match H p with | some o => ∃ xs, o.lst? = some xs ∧ Q xs (fun H => H p = some o) | none => False)
  | _ => False
noncomputable def isLst (H : Heap) : V → Prop
  | .ref p => (match H p with | some (.list _) => True | _ => False)
  | _ => False
noncomputable def dropW (v : V) (P : Prop) : Prop :=
  match v with
  | .ref _ => False
  | _ => P
noncomputable def thenW (k : Loc → Heap → Prop) (Q : PS) : PS := fun fl m H =>
  match fl with
  | .next => k m H
  | fl => Q fl m H
noncomputable def turnW (k : Loc → Heap → Prop) (Q : PS) : PS := fun fl m H => ∃ H', H'.le H ∧
  match fl with
  | .next | .cont => k m H'
  | .brk => Q .next m H'
  | .ret v => Q (.ret v) m H'
noncomputable def forW (body : Loc → Heap → PS → Prop) (tgt : List Nat) (ok : Heap → Prop) : List V → Loc → Heap → PS → Prop
  | [], m, H, Q => ok H ∧ Q .next m H
  | x :: xs, m, H, Q => ok H ∧ bindTo tgt x H m fun m => body m H (turnW (fun m H => forW body tgt ok xs m H Q) Q)
noncomputable def forzL (body : Loc → Heap → PS → Prop) (i j : Nat) (ok : Heap → Prop) : List (V × V) → Loc → Heap → PS → Prop
  | [], m, H, Q => ok H ∧ Q .next m H
  | x :: xs, m, H, Q => ok H ∧ body ((m.set i (some x.1)).set j (some x.2)) H (turnW (fun m H => forzL body i j ok xs m H Q) Q)
noncomputable def zipOk (p q : Nat) (ps : List (V × V)) (H : Heap) : Prop := H p = some (.list (ps.map Prod.fst)) ∧ H q = some (.list (ps.map Prod.snd))
noncomputable def zipW (x y : V) (H : Heap) (Q : List (V × V) → (Heap → Prop) → Prop) : Prop :=
  match x with
  | .ref p => (match y with
    | .ref q => ∃ ps, zipOk p q ps H ∧ Q ps (zipOk p q ps)
    | _ => False)
  | _ => False
noncomputable def whileW (test : Loc → Heap → (Bool → Heap → Prop) → Prop) (body : Loc → Heap → PS → Prop) (m : Loc) (H : Heap) (Q : PS) : Prop :=
  ∃ (I : Nat → Loc → Heap → Prop) (n : Nat), I n m H ∧ ∀ n m H, I n m H → test m H fun b H =>
    if b then body m H (turnW (fun m H => ∃ k, k < n ∧ I k m H) Q) else Q .next m H
noncomputable abbrev Orac := Nat → List V → Heap → PV → Prop
noncomputable def boolW (v : V) (Q : Bool → Prop) : Prop :=
  match v with
  | .bool r => Q r
  | _ => False
noncomputable abbrev outW (t : Bool) (v : V) (H : Heap) (Q : PV) : Prop :=
  match t with
  | true => truthW v H fun r => Q (.bool r) H
  | false => Q v H
noncomputable def notW (t : Bool) (v : V) (H : Heap) (Q : PV) : Prop :=
  match t with
  | true => boolW v fun r => Q (.bool (!r)) H
  | false => truthW v H fun r => Q (.bool (!r)) H
noncomputable def andW (t : Bool) (v : V) (H : Heap) (k : Prop) (Q : PV) : Prop :=
  match t with
  | true => boolW v fun r => if r then k else Q (.bool false) H
  | false => truthW v H fun r => if r then k else Q v H
noncomputable def orW (t : Bool) (v : V) (H : Heap) (k : Prop) (Q : PV) : Prop :=
  match t with
  | true => boolW v fun r => if r then Q (.bool true) H else k
  | false => truthW v H fun r => if r then Q v H else k
section
variable (Φ : Orac)
mutual
noncomputable def wpG : E → Bool → Loc → Heap → PV → Prop
  | .var i, t, m, H, Q => varW m[i]? fun v => outW t v H Q
  | .lit v, t, _, H, Q => outW t v H Q
  | .bop o a b, t, m, H, Q => wpG a false m H fun x H => wpG b false m H fun y H => bopW o x y H fun v H => outW t v H Q
  | .neg a, t, m, H, Q => wpG a false m H fun x H => negW x H fun v H => outW t v H Q
  | .cmp o a b, _, m, H, Q => wpG a false m H fun x H => wpG b false m H fun y H => cmpW o x y H fun r => Q (.bool r) H
  | .cmp2 o1 o2 a b c, _, m, H, Q => wpG a false m H fun x H => wpG b false m H fun y H => cmpW o1 x y H fun r =>
      if r then wpG c false m H fun z H => cmpW o2 y z H fun r => Q (.bool r) H else Q (.bool false) H
  | .and a b, t, m, H, Q => wpG a t m H fun x H => andW t x H (wpG b t m H Q) Q
  | .or a b, t, m, H, Q => wpG a t m H fun x H => orW t x H (wpG b t m H Q) Q
  | .not a, t, m, H, Q => wpG a t m H fun x H => notW t x H Q
  | .call f args, t, m, H, Q => wpEs args m H fun vs H => Φ f vs H fun v H => outW t v H Q
  | .meth f self args, t, m, H, Q => wpG self false m H fun x H => isInst H (methCls f) x ∧ wpEs args m H fun vs H => Φ f (x :: vs) H fun v H => outW t v H Q
  | .new c args, t, m, H, Q => wpEs args m H fun vs H => ∀ a, H a = none → Φ c (.ref a :: vs) (H.upd a (.inst c [])) fun r H => r = .none ∧ outW t (.ref a) H Q
  | .prim p args, t, m, H, Q => wpEs args m H fun vs H => primW p vs H fun v H => outW t v H Q
  | .attr o i, t, m, H, Q => wpG o false m H fun x H => attrW x i H fun v => outW t v H Q
  | .idx o i, t, m, H, Q => wpG o false m H fun x H => wpG i false m H fun y H => idxW x y H fun v => outW t v H Q
  | .slice o lo hi, t, m, H, Q => wpG o false m H fun x H => wpO lo m H fun l H => wpO hi m H fun h H => sliceW x l h H fun v H => outW t v H Q
  | .list es, t, m, H, Q => wpEs es m H fun vs H => allocW (.list vs) H fun v H => outW t v H Q
  | .tup es, t, m, H, Q => wpEs es m H fun vs H => allocW (.tup vs) H fun v H => outW t v H Q
  | .dict0, t, _, H, Q => allocW (.dict []) H fun v H => outW t v H Q
  | .comp elt k src cond, t, m, H, Q => wpSrc src m H fun xs ok H => compW (wpG elt false) (fun m H Q => wpC cond m H Q) k ok m xs [] H fun v H => outW t v H Q
noncomputable def wpO : Option E → Loc → Heap → (Option V → Heap → Prop) → Prop
  | none, _, H, Q => Q none H
  | some e, m, H, Q => wpG e false m H fun v H => Q (some v) H
noncomputable def wpEs : List E → Loc → Heap → (List V → Heap → Prop) → Prop
  | [], _, H, Q => Q [] H
  | e :: es, m, H, Q => wpG e false m H fun v H => wpEs es m H fun vs H => Q (v :: vs) H
noncomputable def wpSrc : Src → Loc → Heap → (List V → (Heap → Prop) → Heap → Prop) → Prop
  | .rng1 n, m, H, Q => wpG n false m H fun x H => rng1W x fun xs => Q xs (fun _ => True) H
  | .rng2 a b, m, H, Q => wpG a false m H fun x H => wpG b false m H fun y H => rng2W false x y fun xs => Q xs (fun _ => True) H
  | .rng3 a b down, m, H, Q => wpG a false m H fun x H => wpG b false m H fun y H => rng2W down x y fun xs => Q xs (fun _ => True) H
  | .rngS a b c, m, H, Q => wpG a false m H fun x H => wpG b false m H fun y H => wpG c false m H fun z H => rngSW x y z fun xs => Q xs (fun _ => True) H
  | .of e, m, H, Q => wpG e false m H fun x H => ofW x H fun xs ok => Q xs ok H
  | .zip _ _, _, _, _ => False
noncomputable def wpC : Option E → Loc → Heap → (Bool → Heap → Prop) → Prop
  | none, _, H, Q => Q true H
  | some e, m, H, Q => wpG e true m H fun v H => boolW v fun r => Q r H
end
noncomputable abbrev wpE (e : E) (m : Loc) (H : Heap) (Q : PV) : Prop := wpG Φ e false m H Q
noncomputable def wpT (e : E) (m : Loc) (H : Heap) (Q : Bool → Heap → Prop) : Prop := wpG Φ e true m H fun v H => boolW v fun r => Q r H
mutual
noncomputable def wpS : S → Loc → Heap → PS → Prop
  | .assign i e, m, H, Q => wpE Φ e m H fun v H => Q .next (m.set i (some v)) H
  | .unpack is e, m, H, Q => wpE Φ e m H fun v H => unpW is v H m fun m => Q .next m H
  | .setAttr o i e, m, H, Q => wpE Φ e m H fun v H => wpE Φ o m H fun x H => setAttrW x i v H fun H => Q .next m H
  | .setIdx o i e, m, H, Q => wpE Φ e m H fun v H => wpE Φ o m H fun x H => wpE Φ i m H fun y H => setIdxW x y v H fun H => Q .next m H
  | .delIdx o i, m, H, Q => wpE Φ o m H fun x H => wpE Φ i m H fun y H => delIdxW x y H fun H => Q .next m H
  | .append o e, m, H, Q => wpE Φ o m H fun x H => isLst H x ∧ wpE Φ e m H fun v H => appendW x v H fun H => Q .next m H
  | .expr e, m, H, Q => wpE Φ e m H fun v H => dropW v (Q .next m H)
  | .ret none, m, H, Q => Q (.ret .none) m H
  | .ret (some e), m, H, Q => wpE Φ e m H fun v H => Q (.ret v) m H
  | .ite c a b, m, H, Q => wpT Φ c m H fun r H => if r then wpSs a m H Q else wpSs b m H Q
  | .whl c b, m, H, Q => whileW (wpT Φ c) (wpSs b) m H Q
  | .for1 tgt src b, m, H, Q => wpSrc Φ src m H fun xs ok H => forW (wpSs b) tgt ok xs m H Q
  | .forz i j x y b, m, H, Q => wpE Φ x m H fun v H => wpE Φ y m H fun u H => zipW v u H fun ps ok => forzL (wpSs b) i j ok ps m H Q
  | .brk, m, H, Q => Q .brk m H
  | .pass, m, H, Q => Q .next m H
noncomputable def wpSs : List S → Loc → Heap → PS → Prop
  | [], m, H, Q => Q .next m H
  | s :: r, m, H, Q => wpS s m H (thenW (fun m H => wpSs r m H Q) Q)
end
end
structure Fn where
  np : Nat
  nv : Nat
  body : List S
noncomputable def Fn.start (fn : Fn) (vs : List V) : Loc := vs.map some ++ List.replicate (fn.nv - fn.np) none
noncomputable def Flow.val : Flow → V
  | .ret v => v
  | _ => .none
structure Sys (D : Nat → Option Fn) where
  Φ : Orac
  call : ∀ {f fn vs H Q}, D f = some fn → vs.length = fn.np →
    wpSs Φ fn.body (fn.start vs) H (fun fl _ H' => ∃ H'', H''.le H' ∧ Q fl.val H'') → Φ f vs H Q
section
variable {Φ : Orac} {m : Loc} {H : Heap}
theorem w_var {i Q} : wpE Φ (.var i) m H Q = (varW m[i]? fun v => Q v H) := rfl
theorem w_lit {v Q} : wpE Φ (.lit v) m H Q = Q v H := rfl
theorem w_bop {o a b Q} : wpE Φ (.bop o a b) m H Q = wpE Φ a m H fun x H => wpE Φ b m H fun y H => bopW o x y H Q := rfl
theorem w_neg {a Q} : wpE Φ (.neg a) m H Q = wpE Φ a m H fun x H => negW x H Q := rfl
theorem w_cmp {o a b Q} : wpE Φ (.cmp o a b) m H Q = wpE Φ a m H fun x H => wpE Φ b m H fun y H => cmpW o x y H fun r => Q (.bool r) H := rfl
theorem w_cmp2 {o1 o2 a b c Q} : wpE Φ (.cmp2 o1 o2 a b c) m H Q = wpE Φ a m H fun x H => wpE Φ b m H fun y H => cmpW o1 x y H fun r =>
      if r then wpE Φ c m H fun z H => cmpW o2 y z H fun r => Q (.bool r) H else Q (.bool false) H := rfl
theorem w_and {a b Q} : wpE Φ (.and a b) m H Q = wpE Φ a m H fun x H => truthW x H fun r => if r then wpE Φ b m H Q else Q x H := rfl
theorem w_or {a b Q} : wpE Φ (.or a b) m H Q = wpE Φ a m H fun x H => truthW x H fun r => if r then Q x H else wpE Φ b m H Q := rfl
theorem w_not {a Q} : wpE Φ (.not a) m H Q = wpE Φ a m H fun x H => truthW x H fun r => Q (.bool (!r)) H := rfl
theorem w_call {f args Q} : wpE Φ (.call f args) m H Q = wpEs Φ args m H fun vs H => Φ f vs H Q := rfl
theorem w_meth {f self args Q} : wpE Φ (.meth f self args) m H Q = wpE Φ self m H fun x H => isInst H (methCls f) x ∧ wpEs Φ args m H fun vs H => Φ f (x :: vs) H Q := rfl
theorem w_new {c args Q} : wpE Φ (.new c args) m H Q = wpEs Φ args m H fun vs H => ∀ a, H a = none → Φ c (.ref a :: vs) (H.upd a (.inst c [])) fun r H => r = .none ∧ Q (.ref a) H := rfl
theorem w_prim {p args Q} : wpE Φ (.prim p args) m H Q = wpEs Φ args m H fun vs H => primW p vs H Q := rfl
theorem w_attr {o i Q} : wpE Φ (.attr o i) m H Q = wpE Φ o m H fun x H => attrW x i H fun v => Q v H := rfl
theorem w_idx {o i Q} : wpE Φ (.idx o i) m H Q = wpE Φ o m H fun x H => wpE Φ i m H fun y H => idxW x y H fun v => Q v H := rfl
theorem w_slice {o lo hi Q} : wpE Φ (.slice o lo hi) m H Q = wpE Φ o m H fun x H => wpO Φ lo m H fun l H => wpO Φ hi m H fun h H => sliceW x l h H Q := rfl
theorem w_list {es Q} : wpE Φ (.list es) m H Q = wpEs Φ es m H fun vs H => allocW (.list vs) H Q := rfl
theorem w_tup {es Q} : wpE Φ (.tup es) m H Q = wpEs Φ es m H fun vs H => allocW (.tup vs) H Q := rfl
theorem w_dict0 {Q} : wpE Φ .dict0 m H Q = allocW (.dict []) H Q := rfl
theorem w_comp {elt k src cond Q} : wpE Φ (.comp elt k src cond) m H Q = wpSrc Φ src m H fun xs ok H => compW (wpE Φ elt) (wpC Φ cond) k ok m xs [] H Q := rfl
theorem w_onone {Q} : wpO Φ none m H Q = Q none H := rfl
theorem w_osome {e Q} : wpO Φ (some e) m H Q = wpE Φ e m H fun v H => Q (some v) H := rfl
theorem w_enil {Q} : wpEs Φ [] m H Q = Q [] H := rfl
theorem w_econs {e es Q} : wpEs Φ (e :: es) m H Q = wpE Φ e m H fun v H => wpEs Φ es m H fun vs H => Q (v :: vs) H := rfl
theorem w_rng1 {n Q} : wpSrc Φ (.rng1 n) m H Q = wpE Φ n m H fun x H => rng1W x fun xs => Q xs (fun _ => True) H := rfl
theorem w_rng2 {a b Q} : wpSrc Φ (.rng2 a b) m H Q = wpE Φ a m H fun x H => wpE Φ b m H fun y H => rng2W false x y fun xs => Q xs (fun _ => True) H := rfl
theorem w_rng3 {a b d Q} : wpSrc Φ (.rng3 a b d) m H Q = wpE Φ a m H fun x H => wpE Φ b m H fun y H => rng2W d x y fun xs => Q xs (fun _ => True) H := rfl
theorem w_rngS {a b c Q} : wpSrc Φ (.rngS a b c) m H Q = wpE Φ a m H fun x H => wpE Φ b m H fun y H => wpE Φ c m H fun z H => rngSW x y z fun xs => Q xs (fun _ => True) H := rfl
theorem w_of {e Q} : wpSrc Φ (.of e) m H Q = wpE Φ e m H fun x H => ofW x H fun xs ok => Q xs ok H := rfl
theorem w_cnone {Q} : wpC Φ none m H Q = Q true H := rfl
theorem w_csome {e Q} : wpC Φ (some e) m H Q = wpT Φ e m H Q := rfl
theorem t_not {a Q} : wpT Φ (.not a) m H Q = wpT Φ a m H fun r H => Q (!r) H := rfl
theorem t_and {a b Q} : wpT Φ (.and a b) m H Q = wpT Φ a m H fun r H => if r then wpT Φ b m H Q else Q false H := rfl
theorem t_or {a b Q} : wpT Φ (.or a b) m H Q = wpT Φ a m H fun r H => if r then Q true H else wpT Φ b m H Q := rfl
theorem t_cmp {o a b Q} : wpT Φ (.cmp o a b) m H Q = wpE Φ a m H fun x H => wpE Φ b m H fun y H => cmpW o x y H fun r => Q r H := rfl
theorem t_cmp2 {o1 o2 a b c Q} : wpT Φ (.cmp2 o1 o2 a b c) m H Q = wpE Φ a m H fun x H => wpE Φ b m H fun y H => cmpW o1 x y H fun r =>
      if r then wpE Φ c m H fun z H => cmpW o2 y z H fun r => Q r H else Q false H := rfl
theorem t_var {i Q} : wpT Φ (.var i) m H Q = wpE Φ (.var i) m H fun v H => truthW v H fun r => Q r H := rfl
theorem t_lit {v Q} : wpT Φ (.lit v) m H Q = wpE Φ (.lit v) m H fun v H => truthW v H fun r => Q r H := rfl
theorem t_call {f as Q} : wpT Φ (.call f as) m H Q = wpE Φ (.call f as) m H fun v H => truthW v H fun r => Q r H := rfl
theorem t_meth {f o as Q} : wpT Φ (.meth f o as) m H Q = wpE Φ (.meth f o as) m H fun v H => truthW v H fun r => Q r H := rfl
theorem t_idx {o i Q} : wpT Φ (.idx o i) m H Q = wpE Φ (.idx o i) m H fun v H => truthW v H fun r => Q r H := rfl
theorem t_prim {p as Q} : wpT Φ (.prim p as) m H Q = wpE Φ (.prim p as) m H fun v H => truthW v H fun r => Q r H := rfl
theorem t_bop {o a b Q} : wpT Φ (.bop o a b) m H Q = wpE Φ (.bop o a b) m H fun v H => truthW v H fun r => Q r H := rfl
variable {Q : PS}
theorem s_assign {i e} : wpS Φ (.assign i e) m H Q = wpE Φ e m H fun v H => Q .next (m.set i (some v)) H := rfl
theorem s_unpack {is e} : wpS Φ (.unpack is e) m H Q = wpE Φ e m H fun v H => unpW is v H m fun m => Q .next m H := rfl
theorem s_setAttr {o i e} : wpS Φ (.setAttr o i e) m H Q = wpE Φ e m H fun v H => wpE Φ o m H fun x H => setAttrW x i v H fun H => Q .next m H := rfl
theorem s_setIdx {o i e} : wpS Φ (.setIdx o i e) m H Q = wpE Φ e m H fun v H => wpE Φ o m H fun x H => wpE Φ i m H fun y H => setIdxW x y v H fun H => Q .next m H := rfl
theorem s_delIdx {o i} : wpS Φ (.delIdx o i) m H Q = wpE Φ o m H fun x H => wpE Φ i m H fun y H => delIdxW x y H fun H => Q .next m H := rfl
theorem s_append {o e} : wpS Φ (.append o e) m H Q = wpE Φ o m H fun x H => isLst H x ∧ wpE Φ e m H fun v H => appendW x v H fun H => Q .next m H := rfl
theorem s_expr {e} : wpS Φ (.expr e) m H Q = wpE Φ e m H fun v H => dropW v (Q .next m H) := rfl
theorem s_ret0 : wpS Φ (.ret none) m H Q = Q (.ret .none) m H := rfl
theorem s_ret {e} : wpS Φ (.ret (some e)) m H Q = wpE Φ e m H fun v H => Q (.ret v) m H := rfl
theorem s_ite {c a b} : wpS Φ (.ite c a b) m H Q = wpT Φ c m H fun r H => if r then wpSs Φ a m H Q else wpSs Φ b m H Q := rfl
theorem s_whl {c b} : wpS Φ (.whl c b) m H Q = whileW (wpT Φ c) (wpSs Φ b) m H Q := rfl
theorem s_for {t src b} : wpS Φ (.for1 t src b) m H Q = wpSrc Φ src m H fun xs ok H => forW (wpSs Φ b) t ok xs m H Q := rfl
theorem s_forz {i j x y b} : wpS Φ (.forz i j x y b) m H Q = wpE Φ x m H fun v H => wpE Φ y m H fun u H => zipW v u H fun ps ok => forzL (wpSs Φ b) i j ok ps m H Q := rfl
theorem s_brk : wpS Φ .brk m H Q = Q .brk m H := rfl
theorem s_pass : wpS Φ .pass m H Q = Q .next m H := rfl
theorem s_nil : wpSs Φ [] m H Q = Q .next m H := rfl
theorem s_cons {s r} : wpSs Φ (s :: r) m H Q = wpS Φ s m H (thenW (fun m H => wpSs Φ r m H Q) Q) := rfl
end
end ML
namespace ML
variable {Φ : Orac} {m : Loc} {H : Heap}
theorem Heap.le_refl (H : Heap) : H.le H := fun _ _ h => h
theorem Heap.le_trans {H1 H2 H3 : Heap} (a : H1.le H2) (b : H2.le H3) : H1.le H3 := fun x o h => b x o (a x o h)
theorem upd_self {H : Heap} {a : Nat} {o : O} : (H.upd a o) a = some o := by simp [Heap.upd]
theorem upd_ne {H : Heap} {a p : Nat} {o : O} (h : p ≠ a) : (H.upd a o) p = H p := by simp [Heap.upd, h]
theorem upd_fresh {H : Heap} {a p : Nat} {o o' : O} (ha : H a = none) (hp : H p = some o') : (H.upd a o) p = some o' := by
  rw [upd_ne (fun e => by rw [e, ha] at hp; cases hp)]; exact hp
theorem ne_of_look {H : Heap} {a p : Nat} {o : O} (ha : H a = none) (hp : H p = some o) : p ≠ a := fun e => by rw [e, ha] at hp; cases hp
theorem Heap.le_upd {H : Heap} {a : Nat} {o : O} (ha : H a = none) : H.le (H.upd a o) := fun _ _ h => upd_fresh ha h
section
variable {Φ : Orac} {m : Loc} {H : Heap} {Q : PV}
section
variable {Q : List V → (Heap → Prop) → Heap → Prop}
end
section
variable {Q : Bool → Heap → Prop}
theorem r_cnone (k : Q true H) : wpC Φ none m H Q := by rw [w_cnone]; exact k
end
section
variable {Q : PS}
end
theorem v_mulI {x y} (h : mid x ∨ mid y) (k : Q (.int (x * y)) H) : bopW .mul (.int x) (.int y) H Q := ⟨h, k⟩
theorem v_modI {x y} (h : 0 < y) (k : Q (.int (x % y)) H) : bopW .mod (.int x) (.int y) H Q := ⟨h, k⟩
theorem v_addL {p q xs ys} (h1 : H p = some (.list xs)) (h2 : H q = some (.list ys)) (hl : xs.length + ys.length ≤ lim) (k : ∀ a, H a = none → Q (.ref a) (H.upd a (.list (xs ++ ys)))) :
    bopW .add (.ref p) (.ref q) H Q := by show addL p q H Q; unfold addL; simp only [h1, h2]; exact ⟨hl, k⟩
theorem v_alloc {o} (k : ∀ a, H a = none → Q (.ref a) (H.upd a o)) : allocW o H Q := k
theorem v_attr {p i c fs v} {Q : V → Prop} (h : H p = some (.inst c fs)) (hl : fs.lookup i = some v) (k : Q v) : attrW (.ref p) i H Q := by unfold attrW; simp only [h]; exact ⟨v, hl, k⟩
theorem v_setAttr {p i c fs fs' v} {Q : Heap → Prop} (h : H p = some (.inst c fs)) (hn : fs.length ≤ 100) (hf : setF fs i v = fs') (k : Q (H.upd p (.inst c fs'))) : setAttrW (.ref p) i v H Q := by subst hf; unfold setAttrW; simp only [h]; exact ⟨hn, k⟩
theorem v_idx {p x xs v} {k : Int} {Q : V → Prop} (h : H p = some x) (hs : x.seq? = some xs) (h0 : 0 ≤ k) (h1 : k < lim) (hv : xs[k.toNat]? = some v) (K : Q v) : idxW (.ref p) (.int k) H Q := by
  unfold idxW; simp only [h]
  cases x with
  | dict => cases hs
  | inst => cases hs
  | _ => exact ⟨h0, h1, xs, v, hs, hv, K⟩
theorem v_sum {p x ns} (h : H p = some x) (hs : x.lst? = some (ns.map V.int)) (k : Q (.int (sumZ ns)) H) : primW .sum [.ref p] H Q := by
  show sumW [.ref p] H Q
  unfold sumW; simp only [h]; exact ⟨ns, hs, k⟩
theorem v_sort {p x ns} (h : H p = some x) (hs : x.keys? = some (ns.map V.int)) (hz : ns.length < 64) (k : ∀ ks : List Int, ks.Perm ns → ks.Pairwise (· ≤ ·) → ∀ a, H a = none → Q (.ref a) (H.upd a (.list (ks.map V.int)))) : primW .sorted [.ref p] H Q := by
  show sortW [.ref p] H Q
  unfold sortW; simp only [h]
  exact ⟨ns, hs, hz, k⟩
theorem v_slice {p x xs lo hi l h'} (h : H p = some x) (hs : x.lst? = some xs) (hl : part? lo = some l) (hh : part? hi = some h') (n1 : nonneg? l) (n2 : nonneg? h') (hz : xs.length ≤ lim)
    (k : ∀ a, H a = none → Q (.ref a) (H.upd a (.list (cut xs l h')))) : sliceW (.ref p) lo hi H Q := by
  cases x with
  | tup _ => cases hs
  | _ => unfold sliceW; simp only [hl, hh, h]; exact ⟨n1, n2, xs, hs, hz, k⟩
theorem v_len {p x xs} (h : H p = some x) (hs : x.seq? = some xs) (k : Q (.int xs.length) H) : primW .len [.ref p] H Q := by
  show lenW [.ref p] H Q
  unfold lenW; simp only [h]
  exact ⟨xs, hs, k⟩
theorem v_isInst {p c fs} (h : H p = some (.inst c fs)) {P : Prop} (k : P) : isInst H c (.ref p) ∧ P := by refine ⟨?_, k⟩; unfold isInst; simp only [h]
theorem v_isRef {p} {Q : Bool → Prop} (k : Q true) : isW (.ref p) (.ref p) H Q := ⟨fun _ => k, fun n => absurd rfl n⟩
theorem v_rng1 {n} {Q : List V → Prop} (h : mid n) (k : Q (rngList 0 n)) : rng1W (.int n) Q := ⟨h, k⟩
theorem v_of {p o xs} {Q : List V → (Heap → Prop) → Prop} (h : H p = some o) (hs : o.lst? = some xs) (k : Q xs (fun H => H p = some o)) : ofW (.ref p) H Q := by
  unfold ofW; simp only [h]
  exact ⟨xs, hs, k⟩
theorem v_if {c : Bool} {A B : Prop} (h1 : c = true → A) (h2 : c = false → B) : if c = true then A else B := by cases c with | true => exact h1 rfl | false => exact h2 rfl
end
section
variable {Φ : Orac} {m : Loc} {H : Heap} {Q : PV} {QB : Bool → Prop} {QV : V → Prop} {QS : PS} {QL : List V → Prop} {K : Loc → Heap → Prop} {P : Prop}
theorem z_var {v : V} : varW (some (some v)) QV = QV v := rfl
theorem z_addI {x y} : bopW .add (.int x) (.int y) H Q = Q (.int (x + y)) H := rfl
theorem z_subI {x y} : bopW .sub (.int x) (.int y) H Q = Q (.int (x - y)) H := rfl
theorem z_negI {x} : negW (.int x) H Q = Q (.int (-x)) H := rfl
theorem z_lt {x y} : cmpW .lt (.int x) (.int y) H QB = QB (decide (x < y)) := rfl
theorem z_le {x y} : cmpW .le (.int x) (.int y) H QB = QB (decide (x ≤ y)) := rfl
theorem z_gt {x y} : cmpW .gt (.int x) (.int y) H QB = QB (decide (y < x)) := rfl
theorem z_ge {x y} : cmpW .ge (.int x) (.int y) H QB = QB (decide (y ≤ x)) := rfl
theorem z_eqI {x y} : cmpW .eq (.int x) (.int y) H QB = QB (decide (x = y)) := rfl
theorem z_neI {x y} : cmpW .ne (.int x) (.int y) H QB = QB (decide (x ≠ y)) := rfl
theorem z_eqB {x y} : cmpW .eq (.bool x) (.bool y) H QB = QB (decide (x = y)) := rfl
theorem z_neB {x y} : cmpW .ne (.bool x) (.bool y) H QB = QB (decide (x ≠ y)) := rfl
theorem z_eqS {x y} : cmpW .eq (.str x) (.str y) H QB = QB (decide (x = y)) := rfl
theorem z_neS {x y} : cmpW .ne (.str x) (.str y) H QB = QB (decide (x ≠ y)) := rfl
theorem z_is {x y} : cmpW .is x y H QB = isW x y H QB := rfl
theorem z_isnot {x y} : cmpW .isnot x y H QB = isW x y H fun r => QB (!r) := rfl
theorem z_isNN : isW .none .none H QB = QB true := rfl
theorem z_isBB {a b : Bool} : isW (.bool a) (.bool b) H QB = QB (a == b) := rfl
theorem z_isRN {p} : isW (.ref p) .none H QB = QB false := rfl
theorem z_isIN {p} : isW (.int p) .none H QB = QB false := rfl
theorem z_isBN {p} : isW (.bool p) .none H QB = QB false := rfl
theorem z_isSN {p} : isW (.str p) .none H QB = QB false := rfl
theorem z_isFN {p} : isW (.flt p) .none H QB = QB false := rfl
theorem z_isNB {p} : isW .none (.bool p) H QB = QB false := rfl
theorem z_isRB {p b} : isW (.ref p) (.bool b) H QB = QB false := rfl
theorem z_isIB {p b} : isW (.int p) (.bool b) H QB = QB false := rfl
theorem z_tN : truthW .none H QB = QB false := rfl
theorem z_tB {b} : truthW (.bool b) H QB = QB b := rfl
theorem z_tI {i} : truthW (.int i) H QB = QB (decide (i ≠ 0)) := rfl
theorem z_abs {i} : primW .abs [.int i] H Q = Q (.int i.natAbs) H := rfl
theorem z_min {i j} : primW .min [.int i, .int j] H Q = Q (.int (if j < i then j else i)) H := rfl
theorem z_max {i j} : primW .max [.int i, .int j] H Q = Q (.int (if i < j then j else i)) H := rfl
theorem z_tyInt {i} : primW .tyInt [.int i] H Q = Q (.bool true) H := rfl
theorem z_tyBool {i} : primW .tyBool [.bool i] H Q = Q (.bool true) H := rfl
theorem z_isBool {i} : primW .isBool [.bool i] H Q = Q (.bool true) H := rfl
theorem z_dropN : dropW .none P = P := rfl
theorem z_dropB {b} : dropW (.bool b) P = P := rfl
theorem z_dropI {b} : dropW (.int b) P = P := rfl
theorem z_then : thenW K QS .next m H = K m H := rfl
theorem z_thenB : thenW K QS .brk m H = QS .brk m H := rfl
theorem z_thenR {v} : thenW K QS (.ret v) m H = QS (.ret v) m H := rfl
theorem z_ifT {A B : Prop} : (if true = true then A else B) = A := rfl
theorem z_ifF {A B : Prop} : (if false = true then A else B) = B := rfl
theorem z_new1 {x : V} {Q : Loc → Prop} : bindNew 1 x H m Q = Q (m ++ [some x]) := rfl
theorem z_to1 {i : Nat} {x : V} {Q : Loc → Prop} : bindTo [i] x H m Q = Q (m.set i (some x)) := rfl
theorem z_mapN {α β : Type} {f : α → β} : List.map f [] = [] := rfl
theorem z_mapC {α β : Type} {f : α → β} {a : α} {l : List α} : List.map f (a :: l) = f a :: List.map f l := rfl
theorem z_appN {α : Type} {l : List α} : [] ++ l = l := rfl
theorem z_appC {α : Type} {a : α} {l r : List α} : (a :: l) ++ r = a :: (l ++ r) := rfl
theorem z_set0 {α : Type} {a b : α} {l : List α} : (a :: l).set 0 b = b :: l := rfl
theorem z_setS {α : Type} {a b : α} {l : List α} {n : Nat} : (a :: l).set (n + 1) b = a :: l.set n b := rfl
theorem z_get0 {α : Type} {a : α} {l : List α} : (a :: l)[0]? = some a := rfl
theorem z_getS {α : Type} {a : α} {l : List α} {n : Nat} : (a :: l)[n + 1]? = l[n]? := rfl
theorem z_notT : (!true) = false := rfl
theorem z_notF : (!false) = true := rfl
end
end ML
namespace ML
noncomputable def f_Node_init : Fn := ⟨4, 4, [
  .setAttr (.var 0) 0 (.var 1),
  .setAttr (.var 0) 1 (.var 2),
  .setAttr (.var 0) 2 (.var 3)]⟩
noncomputable def f_Canopy_init : Fn := ⟨2, 2, [
  .setAttr (.var 0) 3 (.var 1),
  .setAttr (.var 0) 4 (.new 0 [(.list []), (.list []), (.list [])]),
  .setAttr (.var 0) 5 (.lit (.int 0))]⟩
noncomputable def f_is_leaf : Fn := ⟨1, 1, [
  .ret (some (.cmp .eq (.prim .len [(.attr (.var 0) 2)]) (.lit (.int 0))))]⟩
noncomputable def f_slot : Fn := ⟨2, 5, [
  .assign 2 (.lit (.int 0)),
  .assign 3 (.prim .len [(.attr (.var 0) 0)]),
  .whl (.cmp .lt (.var 2) (.var 3)) [
    .assign 4 (.bop .fdiv (.bop .add (.var 2) (.var 3)) (.lit (.int 2))),
    .ite (.cmp .lt (.idx (.attr (.var 0) 0) (.var 4)) (.var 1)) [
      .assign 2 (.bop .add (.var 4) (.lit (.int 1)))] [
      .assign 3 (.var 4)]],
  .ret (some (.var 2))]⟩
noncomputable def f_lay : Fn := ⟨4, 4, [
  .setAttr (.var 0) 0 (.var 1),
  .setAttr (.var 0) 1 (.var 2),
  .setAttr (.var 0) 2 (.var 3)]⟩
noncomputable def f_row_with : Fn := ⟨3, 3, [
  .ret (some (.bop .add (.bop .add (.slice (.var 0) none (some (.var 1))) (.list [(.var 2)])) (.slice (.var 0) (some (.bop .add (.var 1) (.lit (.int 1)))) none)))]⟩
noncomputable def f_row_without : Fn := ⟨2, 2, [
  .ret (some (.bop .add (.slice (.var 0) none (some (.var 1))) (.slice (.var 0) (some (.bop .add (.var 1) (.lit (.int 1)))) none)))]⟩
noncomputable def f_adopt : Fn := ⟨3, 3, [
  .setAttr (.var 0) 4 (.var 1),
  .setAttr (.var 0) 5 (.var 2)]⟩
noncomputable def f_height : Fn := ⟨1, 3, [
  .assign 1 (.attr (.var 0) 4),
  .assign 2 (.lit (.int 0)),
  .whl (.not (.meth 2 (.var 1) [])) [
    .assign 1 (.idx (.attr (.var 1) 2) (.lit (.int 0))),
    .assign 2 (.bop .add (.var 2) (.lit (.int 1)))],
  .ret (some (.var 2))]⟩
noncomputable def f_split_child : Fn := ⟨3, 8, [
  .assign 3 (.attr (.var 0) 3),
  .assign 4 (.idx (.attr (.var 1) 2) (.var 2)),
  .assign 5 (.new 0 [(.slice (.attr (.var 4) 0) (some (.var 3)) none), (.slice (.attr (.var 4) 1) (some (.var 3)) none), (.slice (.attr (.var 4) 2) (some (.var 3)) none)]),
  .assign 6 (.idx (.attr (.var 4) 0) (.bop .sub (.var 3) (.lit (.int 1)))),
  .assign 7 (.idx (.attr (.var 4) 1) (.bop .sub (.var 3) (.lit (.int 1)))),
  .expr (.meth 4 (.var 4) [(.slice (.attr (.var 4) 0) none (some (.bop .sub (.var 3) (.lit (.int 1))))), (.slice (.attr (.var 4) 1) none (some (.bop .sub (.var 3) (.lit (.int 1))))), (.slice (.attr (.var 4) 2) none (some (.var 3)))]),
  .expr (.meth 4 (.var 1) [(.bop .add (.bop .add (.slice (.attr (.var 1) 0) none (some (.var 2))) (.list [(.var 6)])) (.slice (.attr (.var 1) 0) (some (.var 2)) none)), (.bop .add (.bop .add (.slice (.attr (.var 1) 1) none (some (.var 2))) (.list [(.var 7)])) (.slice (.attr (.var 1) 1) (some (.var 2)) none)), (.bop .add (.bop .add (.slice (.attr (.var 1) 2) none (some (.bop .add (.var 2) (.lit (.int 1))))) (.list [(.var 5)])) (.slice (.attr (.var 1) 2) (some (.bop .add (.var 2) (.lit (.int 1)))) none))])]⟩
noncomputable def f_merge_children : Fn := ⟨3, 5, [
  .assign 3 (.idx (.attr (.var 1) 2) (.var 2)),
  .assign 4 (.idx (.attr (.var 1) 2) (.bop .add (.var 2) (.lit (.int 1)))),
  .expr (.meth 4 (.var 3) [(.bop .add (.bop .add (.attr (.var 3) 0) (.list [(.idx (.attr (.var 1) 0) (.var 2))])) (.attr (.var 4) 0)), (.bop .add (.bop .add (.attr (.var 3) 1) (.list [(.idx (.attr (.var 1) 1) (.var 2))])) (.attr (.var 4) 1)), (.bop .add (.attr (.var 3) 2) (.attr (.var 4) 2))]),
  .expr (.meth 4 (.var 1) [(.call 6 [(.attr (.var 1) 0), (.var 2)]), (.call 6 [(.attr (.var 1) 1), (.var 2)]), (.call 6 [(.attr (.var 1) 2), (.bop .add (.var 2) (.lit (.int 1)))])])]⟩
noncomputable def f_borrow_from_left : Fn := ⟨3, 7, [
  .assign 3 (.idx (.attr (.var 1) 2) (.bop .sub (.var 2) (.lit (.int 1)))),
  .assign 4 (.idx (.attr (.var 1) 2) (.var 2)),
  .assign 5 (.bop .sub (.prim .len [(.attr (.var 3) 0)]) (.lit (.int 1))),
  .assign 6 (.slice (.attr (.var 3) 2) (some (.bop .add (.var 5) (.lit (.int 1)))) none),
  .expr (.meth 4 (.var 4) [(.bop .add (.list [(.idx (.attr (.var 1) 0) (.bop .sub (.var 2) (.lit (.int 1))))]) (.attr (.var 4) 0)), (.bop .add (.list [(.idx (.attr (.var 1) 1) (.bop .sub (.var 2) (.lit (.int 1))))]) (.attr (.var 4) 1)), (.bop .add (.var 6) (.attr (.var 4) 2))]),
  .expr (.meth 4 (.var 1) [(.call 5 [(.attr (.var 1) 0), (.bop .sub (.var 2) (.lit (.int 1))), (.idx (.attr (.var 3) 0) (.var 5))]), (.call 5 [(.attr (.var 1) 1), (.bop .sub (.var 2) (.lit (.int 1))), (.idx (.attr (.var 3) 1) (.var 5))]), (.slice (.attr (.var 1) 2) none none)]),
  .expr (.meth 4 (.var 3) [(.slice (.attr (.var 3) 0) none (some (.var 5))), (.slice (.attr (.var 3) 1) none (some (.var 5))), (.slice (.attr (.var 3) 2) none (some (.bop .add (.var 5) (.lit (.int 1)))))])]⟩
noncomputable def f_borrow_from_right : Fn := ⟨3, 6, [
  .assign 3 (.idx (.attr (.var 1) 2) (.var 2)),
  .assign 4 (.idx (.attr (.var 1) 2) (.bop .add (.var 2) (.lit (.int 1)))),
  .assign 5 (.slice (.attr (.var 4) 2) none (some (.lit (.int 1)))),
  .expr (.meth 4 (.var 3) [(.bop .add (.attr (.var 3) 0) (.list [(.idx (.attr (.var 1) 0) (.var 2))])), (.bop .add (.attr (.var 3) 1) (.list [(.idx (.attr (.var 1) 1) (.var 2))])), (.bop .add (.attr (.var 3) 2) (.var 5))]),
  .expr (.meth 4 (.var 1) [(.call 5 [(.attr (.var 1) 0), (.var 2), (.idx (.attr (.var 4) 0) (.lit (.int 0)))]), (.call 5 [(.attr (.var 1) 1), (.var 2), (.idx (.attr (.var 4) 1) (.lit (.int 0)))]), (.slice (.attr (.var 1) 2) none none)]),
  .expr (.meth 4 (.var 4) [(.slice (.attr (.var 4) 0) (some (.lit (.int 1))) none), (.slice (.attr (.var 4) 1) (some (.lit (.int 1))) none), (.slice (.attr (.var 4) 2) (some (.lit (.int 1))) none)])]⟩
noncomputable def f_flat_below : Fn := ⟨2, 8, [
  .assign 2 (.list []),
  .assign 3 (.list [(.var 1)]),
  .whl (.cmp .gt (.prim .len [(.var 3)]) (.lit (.int 0))) [
    .assign 4 (.idx (.var 3) (.bop .sub (.prim .len [(.var 3)]) (.lit (.int 1)))),
    .delIdx (.var 3) (.bop .sub (.prim .len [(.var 3)]) (.lit (.int 1))),
    .append (.var 2) (.prim .len [(.attr (.var 4) 0)]),
    .for1 [5] (.of (.attr (.var 4) 0)) [
      .append (.var 2) (.var 5)],
    .for1 [6] (.of (.attr (.var 4) 1)) [
      .append (.var 2) (.var 6)],
    .append (.var 2) (.prim .len [(.attr (.var 4) 2)]),
    .for1 [7] (.rng3 (.bop .sub (.prim .len [(.attr (.var 4) 2)]) (.lit (.int 1))) (.neg (.lit (.int 1))) true) [
      .append (.var 3) (.idx (.attr (.var 4) 2) (.var 7))]],
  .ret (some (.var 2))]⟩
noncomputable def f_flat : Fn := ⟨1, 1, [
  .ret (some (.bop .add (.list [(.attr (.var 0) 3)]) (.meth 30 (.var 0) [(.attr (.var 0) 4)])))]⟩
end ML
namespace ML
open PySem (Expr Stmt Str NameKind Scope Comprehension)
structure Tab where
  fns : List (Str × Nat)
  cls : List (Str × Nat)
  mts : List (Str × Nat)
  ats : List (Str × Nat)
  sts : List (Str × Nat)
  lv : List (Nat × Nat)
  gen : Nat
  gtop : Nat
structure Ctx where
  kinds : List (Str × NameKind)
  ν : List (Str × Nat)
  next : Nat
  tab : Tab
  top : Nat
noncomputable def Ctx.fits (c : Ctx) (f : Nat) : Bool := match c.tab.lv.lookup f with
  | some l => l < c.top
  | none => false
noncomputable def Ctx.isGlob (c : Ctx) (x : Str) : Bool := c.kinds.lookup x == some .globalImplicit
noncomputable def isVarKind : NameKind → Bool
  | .local | .cell | .free => true
  | _ => false
noncomputable def innerNames (ν : List (Str × Nat)) : List (Str × NameKind) → Nat → List (Str × Nat)
  | [], _ => []
  | (x, .local) :: r, n => if x == ".0" then innerNames ν r n else (x, n) :: innerNames ν r (n + 1)
  | (x, .cell) :: r, n => (x, n) :: innerNames ν r (n + 1)
  | (x, .free) :: r, n => (match ν.lookup x with | some i => (x, i) :: innerNames ν r n | none => innerNames ν r n)
  | _ :: r, n => innerNames ν r n
noncomputable def innerCount : List (Str × NameKind) → Nat
  | [] => 0
  | (x, .local) :: r => if x == ".0" then innerCount r else innerCount r + 1
  | (_, .cell) :: r => innerCount r + 1
  | _ :: r => innerCount r
noncomputable def Ctx.inner (c : Ctx) (sc : Scope) : Ctx := { c with kinds := sc.names, ν := innerNames c.ν sc.names c.next, next := c.next + innerCount sc.names }
noncomputable def Ctx.inner1 (c : Ctx) (sc : Scope) (x : Str) : Ctx := { c with kinds := sc.names, ν := (x, c.next) :: c.ν, next := c.next + 1 }
noncomputable def compName (c : Ctx) (sc : Scope) (x : Str) (p : Str × NameKind) : Bool := match p.2 with
  | .cell => false
  | .free => (c.ν.lookup p.1).isSome && (c.kinds.lookup p.1 == some .cell || c.kinds.lookup p.1 == some .free)
  | .local => sc.names.lookup p.1 == some .local && (p.1 == x || c.ν.lookup p.1 == none)
  | _ => true
noncomputable def compOk (c : Ctx) (sc : Scope) (x : Str) : Bool := sc.kind == .function && sc.names.lookup x == some .local && sc.names.all (compName c sc x)
noncomputable def compNameC (c : Ctx) (sc : Scope) (x : Str) (p : Str × NameKind) : Bool := match p.2 with
  | .cell => p.1 == x
  | .free => (c.ν.lookup p.1).isSome && (c.kinds.lookup p.1 == some .cell || c.kinds.lookup p.1 == some .free)
  | .local => sc.names.lookup p.1 == some .local && c.ν.lookup p.1 == none && !(p.1 == x)
  | _ => true
noncomputable def compOkC (c : Ctx) (sc : Scope) (x : Str) : Bool := sc.kind == .function && sc.names.lookup x == some .cell && (sc.names.filter fun p => p.2 == .cell).length == 1 && sc.names.all (compNameC c sc x)
noncomputable def trOp : PySem.Operator → Option Bop
  | .Add => some .add | .Sub => some .sub | .Mult => some .mul | .FloorDiv => some .fdiv | .Mod => some .mod
  | _ => none
noncomputable def trCmp : PySem.CmpOp → Cop
  | .Eq => .eq | .NotEq => .ne | .Lt => .lt | .LtE => .le | .Gt => .gt | .GtE => .ge | .Is => .is | .IsNot => .isnot | .In => .isin | .NotIn => .notin
noncomputable def trPrim (x : Str) (n : Nat) : Option Prim :=
  if x == "len" && n == 1 then some .len
  else if x == "sum" && n == 1 then some .sum
  else if x == "sorted" && n == 1 then some .sorted
  else none
noncomputable def trTy (x : Str) : Option Prim :=
  none
noncomputable def trIsi (x : Str) : Option Prim :=
  none
noncomputable def trConst (c : Ctx) : PySem.Const → Option E
  | .none => some (.lit .none)
  | .bool b => some (.lit (.bool b))
  | .int i => some (.lit (.int i))
  | .float b => some (.lit (.flt b))
  | .str s => (c.tab.sts.lookup s).map fun k => .lit (.str k)
  | _ => none
noncomputable def nameOf (e : Expr) : Option Str := if h : e.ctorIdx = 23 then Expr.Name.elim (motive_1 := fun _ => Option Str) e h (fun x _ => some x) else none
structure CallX where
  f : Expr
  args : List Expr
  kws : List PySem.Keyword
  pos : PySem.Pos
noncomputable def callOf (e : Expr) : Option CallX := if h : e.ctorIdx = 16 then Expr.Call.elim (motive_1 := fun _ => Option CallX) e h (fun f a k p => some ⟨f, a, k, p⟩) else none
structure AttrX where
  o : Expr
  x : Str
  pos : PySem.Pos
noncomputable def attrOf (e : Expr) : Option AttrX := if h : e.ctorIdx = 20 then Expr.Attribute.elim (motive_1 := fun _ => Option AttrX) e h (fun o x p => some ⟨o, x, p⟩) else none
structure SubX where
  o : Expr
  i : Expr
noncomputable def subOf (e : Expr) : Option SubX := if h : e.ctorIdx = 21 then Expr.Subscript.elim (motive_1 := fun _ => Option SubX) e h (fun o i _ => some ⟨o, i⟩) else none
noncomputable def tupZ (e : Expr) : Option (List Expr) := if h : e.ctorIdx = 25 then Expr.Tuple.elim (motive_1 := fun _ => Option (List Expr)) e h (fun es _ _ => some es) else none
structure SliceX where
  lo : Option Expr
  hi : Option Expr
  st : Option Expr
noncomputable def sliceOf (e : Expr) : Option SliceX := if h : e.ctorIdx = 26 then Expr.Slice.elim (motive_1 := fun _ => Option SliceX) e h (fun l u t _ => some ⟨l, u, t⟩) else none
noncomputable def isNil {α : Type} : List α → Bool
  | [] => true
  | _ => false
noncomputable def bareCall (e : Expr) : Bool := match callOf e with
  | some c => isNil c.args && isNil c.kws && (nameOf c.f).isSome
  | none => false
noncomputable def isSlice (e : Expr) : Bool := e.ctorIdx == 26
noncomputable def isStar (e : Expr) : Bool := e.ctorIdx == 22
noncomputable def isComp (e : Expr) : Bool := e.ctorIdx == 8 || e.ctorIdx == 9 || e.ctorIdx == 10
noncomputable def asNot : Bool → E → E
  | true, e => .not e
  | false, e => e
noncomputable def gName (c : Ctx) (e : Expr) : Option Str := match nameOf e with
  | some y => if c.isGlob y then some y else none
  | none => none
noncomputable def typeOfArg (c : Ctx) (t : Expr) : List Expr → Option Expr
  | [a] => if gName c t == some "type" then some a else none
  | _ => none
noncomputable def typeCall (c : Ctx) (e : Expr) : Option Expr := match callOf e with
  | some x => if isNil x.kws then typeOfArg c x.f x.args else none
  | none => none
noncomputable def isOp : PySem.CmpOp → Option Bool
  | .Is => some false
  | .IsNot => some true
  | _ => none
noncomputable def typeTest (c : Ctx) (l : Expr) (op : PySem.CmpOp) (r : Expr) : Option (Expr × Prim × Bool) :=
  match typeCall c l with
  | some a => (match isOp op with
    | some neg => (match gName c r with
      | some y => (trTy y).map fun q => (a, q, neg)
      | none => none)
    | none => none)
  | none => none
noncomputable def mapO {α β : Type} (f : α → Option β) : List α → Option (List β)
  | [] => some []
  | a :: r => match f a with
    | some b => (match mapO f r with | some bs => some (b :: bs) | none => none)
    | none => none
noncomputable def trEs (f : Expr → Option E) (es : List Expr) : Option (List E) := if es.any isStar || !decide (es.length ≤ 20) then none else mapO f es
noncomputable def trO (f : Expr → Option E) : Option Expr → Option (Option E)
  | none => some none
  | some e => (f e).map some
noncomputable def trBool (f : Expr → Option E) (op : PySem.BoolOp) : List Expr → Option E
  | [] => none
  | [e] => f e
  | e :: r => match op with
    | .And => do some (.and (← f e) (← trBool f op r))
    | .Or => do some (.or (← f e) (← trBool f op r))
noncomputable def trIsiC (c : Ctx) (tr : Expr → Option E) : List Expr → Option E
  | [a, b] => (match gName c b with
    | some y => if isStar a then none else (match trIsi y with
      | some q => do some (.prim q [← tr a])
      | none => none
      )
    | none => none)
  | _ => none
noncomputable def isNanC : PySem.Const → Bool
  | .str x => x == "nan"
  | _ => false
noncomputable def isNanE (e : Expr) : Bool := if h : e.ctorIdx = 19 then Expr.Constant.elim (motive_1 := fun _ => Bool) e h (fun k _ _ => isNanC k) else false
noncomputable def trNan : List Expr → Option E
  | [e] => if isNanE e then some (.prim .nan []) else none
  | _ => none
noncomputable def trPrimC (c : Ctx) (tr : Expr → Option E) (f : Str) (args : List Expr) : Option E :=
    match trPrim f args.length with
    | some p => do some (.prim p (← trEs tr args))
    | none => none
structure GenX where
  elt : Expr
  gs : List Comprehension
  sc : Scope
  pos : PySem.Pos
noncomputable def genOf (e : Expr) : Option GenX := if h : e.ctorIdx = 11 then Expr.GeneratorExp.elim (motive_1 := fun _ => Option GenX) e h (fun a b d p => some ⟨a, b, d, p⟩) else none
structure CmpX where
  l : Expr
  ops : List PySem.CmpOp
  rs : List Expr
noncomputable def cmpOf (e : Expr) : Option CmpX := if h : e.ctorIdx = 15 then Expr.Compare.elim (motive_1 := fun _ => Option CmpX) e h (fun a b d _ => some ⟨a, b, d⟩) else none
noncomputable def genScope (sc : Scope) (x : Str) : Bool := sc.kind == .function && !sc.isCoroutine && sc.names.lookup (".0" : Str) == some .local && sc.names.lookup x == some .local && sc.names.all (fun p => !(p.2 == .cell) && !(p.2 == .free)) && sc.names.lookup ("type" : Str) == some .globalImplicit && sc.names.lookup ("int" : Str) == some .globalImplicit
noncomputable def nameIs (e : Expr) (y : Str) : Bool := nameOf e == some y
noncomputable def typeArg1 (x : Str) : List Expr → Bool
  | [a] => nameIs a x
  | _ => false
noncomputable def typeCallX (x : Str) (e : Expr) : Bool := match callOf e with
  | some y => isNil y.kws && nameIs y.f "type" && typeArg1 x y.args
  | none => false
noncomputable def isIs : List PySem.CmpOp → Bool
  | [.Is] => true
  | _ => false
noncomputable def isIntE : List Expr → Bool
  | [e] => nameIs e "int"
  | _ => false
noncomputable def eltOk (x : Str) (e : Expr) : Bool := match cmpOf e with
  | some y => typeCallX x y.l && isIs y.ops && isIntE y.rs
  | none => false
noncomputable def genSrc (x : Str) (ifs : List Expr) (n : Int) (iter : Expr) : Bool := isNil ifs && n == 0 && (nameOf iter).isSome && !(x == "type") && !(x == "int") && !(x == "__debug__")
structure SameX where
  g : Str
  w : Str
noncomputable def subName (j : Str) (e : Expr) : Option Str := match subOf e with
  | some x => if nameIs x.i j then nameOf x.o else none
  | none => none
noncomputable def sameR (j : Str) (g : Str) : List Expr → Option SameX
  | [r] => (subName j r).map fun w => ⟨g, w⟩
  | _ => none
noncomputable def sameElt (j : Str) (e : Expr) : Option SameX := match cmpOf e with
  | some y => if isIs y.ops then (match subName j y.l with | some g => sameR j g y.rs | none => none) else none
  | none => none
noncomputable def lenOf (w : Str) : List Expr → Bool
  | [e] => (match callOf e with | some y => isNil y.kws && nameIs y.f "len" && typeArg1 w y.args | none => false)
  | _ => false
noncomputable def rangeLen (w : Str) (e : Expr) : Bool := match callOf e with
  | some y => isNil y.kws && nameIs y.f "range" && lenOf w y.args
  | none => false
noncomputable def sameScope (c : Ctx) (sc : Scope) (j : Str) (x : SameX) : Bool := sc.kind == .function && !sc.isCoroutine && sc.names.lookup (".0" : Str) == some .local && sc.names.lookup j == some .local && sc.names.all (fun p => !(p.2 == .cell) && (!(p.2 == .free) || (c.kinds.lookup p.1 == some .cell && (c.ν.lookup p.1).isSome))) &&
  sc.names.lookup x.g == some .free && sc.names.lookup x.w == some .free && c.isGlob "range" && c.isGlob "len" && !(j == "__debug__") && !(x.g == "__debug__") && !(x.w == "__debug__") && !(x.g == "__classdict__") && !(x.w == "__classdict__")
noncomputable def trSame (c : Ctx) (g : GenX) (q : Comprehension) (j : Str) : Option E := match sameElt j g.elt with
  | some x => if c.top == c.tab.gtop && sameScope c g.sc j x && isNil q.ifs && q.is_async == 0 && rangeLen x.w q.iter then (match c.ν.lookup x.g, c.ν.lookup x.w with | some a, some b => some (.prim .same [.var a, .var b]) | _, _ => none) else none
  | none => none
noncomputable def isXY (x y : Str) (e : Expr) : Bool := match cmpOf e with
  | some z => isIs z.ops && nameIs z.l x && typeArg1 y z.rs
  | none => false
noncomputable def zipScope (sc : Scope) (x y : Str) : Bool := sc.kind == .function && !sc.isCoroutine && sc.names.lookup (".0" : Str) == some .local && sc.names.lookup x == some .local && sc.names.lookup y == some .local && sc.names.all (fun p => !(p.2 == .cell) && !(p.2 == .free)) && !(x == y) && !(x == "__debug__") && !(y == "__debug__") && !(x == "__classdict__") && !(y == "__classdict__")
noncomputable def zipNames : List Expr → Option SameX
  | [a, b] => (match nameOf a, nameOf b with | some x, some y => some ⟨x, y⟩ | _, _ => none)
  | _ => none
noncomputable def trSameZ (c : Ctx) (tr : Expr → Option E) (g : GenX) (q : Comprehension) (n : SameX) : Option E := match callOf q.iter with
  | some y => if c.top == c.tab.gtop && c.isGlob "zip" && zipScope g.sc n.g n.w && isXY n.g n.w g.elt && isNil q.ifs && q.is_async == 0 && isNil y.kws && nameIs y.f "zip" && !y.args.any isStar && y.args.length == 2 then do some (.prim .same (← mapO tr y.args)) else none
  | none => none
noncomputable def trGen (c : Ctx) (tr : Expr → Option E) (g : GenX) : List Comprehension → Option E
  | [q] => (match nameOf q.target with
    | some x => if c.top == c.tab.gtop && genScope g.sc x && eltOk x g.elt && genSrc x q.ifs q.is_async q.iter then do some (.prim .spare [← tr q.iter]) else trSame c g q x
    | none => (match tupZ q.target with
      | some es => (match zipNames es with | some n => trSameZ c tr g q n | none => none)
      | none => none))
  | _ => none
noncomputable def trAll (c : Ctx) (tr : Expr → Option E) : List Expr → Option E
  | [e] => (match genOf e with | some g => trGen c tr g g.gs | none => none)
  | _ => none
noncomputable def trCall (c : Ctx) (tr : Expr → Option E) (f : Str) (args : List Expr) : Option E :=
  if !c.isGlob f then none else
  match c.tab.fns.lookup f with
  | some i => if c.fits i then do some (.call i (← trEs tr args)) else none
  | none => match c.tab.cls.lookup f with
    | some i => if c.fits i then do some (.new i (← trEs tr args)) else none
    | none =>
      if f == "all" then trAll c tr args else
      if f == "isinstance" then none else
      trPrimC c tr f args
noncomputable def isOneC : PySem.Const → Bool
  | .int i => i == 1
  | _ => false
noncomputable def isOneE (e : Expr) : Bool := if h : e.ctorIdx = 19 then Expr.Constant.elim (motive_1 := fun _ => Bool) e h (fun k _ _ => isOneC k) else false
noncomputable def isSub : PySem.UnaryOp → Bool
  | .USub => true
  | _ => false
noncomputable def isOne (e : Expr) : Bool := if h : e.ctorIdx = 3 then Expr.UnaryOp.elim (motive_1 := fun _ => Bool) e h (fun op x _ => isSub op && isOneE x) else false
noncomputable def trRange (tr : Expr → Option E) : List Expr → Option Src
  | [n] => if isStar n then none else do some (.rng1 (← tr n))
  | _ => none
noncomputable def rangeArgs (c : Ctx) (e : Expr) : Option (List Expr) := match callOf e with
  | some x => if isNil x.kws && gName c x.f == some "range" then some x.args else none
  | none => none
noncomputable def isSetE (e : Expr) : Bool := e.ctorIdx == 7
noncomputable def trSrc (c : Ctx) (tr : Expr → Option E) (e : Expr) : Option Src := match rangeArgs c e with
  | some as => trRange tr as
  | none => if isSetE e then none else do some (.of (← tr e))
noncomputable def trCond (tr : Expr → Option E) : List Expr → Option (Option E)
  | [] => some none
  | [t] => do some (some (← tr t))
  | _ => none
noncomputable def trVar (c : Ctx) (x : Str) : Option E := match c.kinds.lookup x with
  | some k => if isVarKind k && !(x == "__debug__") && !(x == "__classdict__") then (c.ν.lookup x).map .var else none
  | none => none
noncomputable def trBin (f : Expr → Option E) (l : Expr) (op : PySem.Operator) (r : Expr) : Option E := do some (.bop (← trOp op) (← f l) (← f r))
noncomputable def trUn (f : Expr → Option E) (op : PySem.UnaryOp) (x : Expr) : Option E := match op with
  | .Not => do some (.not (← f x))
  | .USub => do some (.neg (← f x))
  | _ => none
noncomputable def trTy1 (f : Expr → Option E) (q : Prim) (neg : Bool) (a : Expr) : Option E := if isStar a then none else do some (asNot neg (.prim q [← f a]))
noncomputable def trCmp1 (c : Ctx) (f : Expr → Option E) (l : Expr) (op : PySem.CmpOp) (r : Expr) : Option E :=
  do some (.cmp (trCmp op) (← f l) (← f r))
noncomputable def trCmps (c : Ctx) (f : Expr → Option E) (l : Expr) : List PySem.CmpOp → List Expr → Option E
  | [op], [r] => trCmp1 c f l op r
  | _, _ => none
noncomputable def trMeth (c : Ctx) (f : Expr → Option E) (o : Expr) (name : Str) (args : List Expr) (fits : Bool) : Option E :=
  if bareCall o || !fits then none else
  match c.tab.mts.lookup name with
  | some i => if c.fits i then do some (.meth i (← f o) (← trEs f args)) else none
  | none => none
noncomputable def trCalls (c : Ctx) (f : Expr → Option E) (cp : PySem.Pos) (args : List Expr) (g : Expr) : Option E := match nameOf g with
  | some x => trCall c f x args
  | none => match attrOf g with
    | some a => trMeth c f a.o a.x args (a.pos.endLine == cp.line)
    | none => none
noncomputable def trAttr (c : Ctx) (f : Expr → Option E) (o : Expr) (a : Str) : Option E := if bareCall o then none else
  match c.tab.ats.lookup a with
  | some i => do some (.attr (← f o) i)
  | none => none
noncomputable def trSub (f : Expr → Option E) (o i : Expr) : Option E := match sliceOf i with
  | some x => if x.st.isSome then none else do some (.slice (← f o) (← trO f x.lo) (← trO f x.hi))
  | none => do some (.idx (← f o) (← f i))
noncomputable def trComp1 (c : Ctx) (f : Ctx → Expr → Option E) (elt : Expr) (sc : Scope) (iter : Expr) (ifs : List Expr) (t : Expr) : Option E := match nameOf t with
  | some x => if compOk c sc x || compOkC c sc x then do
      some (.comp (← f (c.inner1 sc x) elt) 1 (← trSrc c (f c) iter) (← trCond (f (c.inner1 sc x)) ifs))
    else none
  | none => none
noncomputable def kidsAttr (c : Ctx) (x : Str) (e : Expr) : Bool := match attrOf e with
  | some a => nameOf a.o == some x && c.tab.ats.lookup a.x == some 2
  | none => false
noncomputable def kidsOk (c : Ctx) (sc : Scope) (x y : Str) (elt iter2 : Expr) : Bool := compOk c sc x && kidsAttr c x iter2 && nameOf elt == some y && sc.names.lookup y == some .local && (c.ν.lookup y).isNone && !(x == y) && !(x == "__debug__") && !(y == "__debug__") && !(x == "__classdict__") && !(y == "__classdict__")
noncomputable def trKids (c : Ctx) (f : Ctx → Expr → Option E) (elt : Expr) (sc : Scope) (g g2 : Comprehension) : Option E := match nameOf g.target, nameOf g2.target, nameOf g.iter with
  | some x, some y, some v => if kidsOk c sc x y elt g2.iter then (trVar c v).map fun i => .prim .kidsOf [i] else none
  | _, _, _ => none
noncomputable def trComps (c : Ctx) (f : Ctx → Expr → Option E) (elt : Expr) (sc : Scope) : List Comprehension → Option E
  | [g] => if g.is_async == 0 then trComp1 c f elt sc g.iter g.ifs g.target else none
  | [g, g2] => if g.is_async == 0 && g2.is_async == 0 && isNil g.ifs && isNil g2.ifs then trKids c f elt sc g g2 else none
  | _ => none
noncomputable def trE1 (c : Ctx) (f : Ctx → Expr → Option E) : Expr → Option E
  | .Constant k _ _ => trConst c k
  | .Name x _ => trVar c x
  | .BinOp l op r _ => trBin (f c) l op r
  | .UnaryOp op x _ => trUn (f c) op x
  | .BoolOp op vs _ => trBool (f c) op vs
  | .Compare l ops rs _ => trCmps c (f c) l ops rs
  | .Call g args [] cp => trCalls c (f c) cp args g
  | .Attribute o a _ => trAttr c (f c) o a
  | .Subscript o i _ => trSub (f c) o i
  | .List es _ => do some (.list (← trEs (f c) es))
  | .Tuple es _ _ => do some (.tup (← trEs (f c) es))
  | .ListComp elt gs sc _ => trComps c f elt sc gs
  | _ => none
noncomputable def trE : Nat → Ctx → Expr → Option E
  | 0, _, _ => none
  | n + 1, c, e => trE1 c (trE n) e
noncomputable def trName (c : Ctx) (x : Str) : Option Nat :=
  match c.kinds.lookup x with
  | some .local | some .cell => c.ν.lookup x
  | _ => none
noncomputable def deep : Nat := 40
noncomputable def trSetIdx (c : Ctx) (v t : Expr) : Option S := match subOf t with
  | some x => if isComp v || isSlice x.i then none else do some (.setIdx (← trE deep c x.o) (← trE deep c x.i) (← trE deep c v))
  | none => none
noncomputable def trSetAttr (c : Ctx) (v : Expr) (x : AttrX) : Option S := if isComp v then none else match c.tab.ats.lookup x.x with
  | some i => do some (.setAttr (← trE deep c x.o) i (← trE deep c v))
  | none => none
noncomputable def trAssign (c : Ctx) (v t : Expr) : Option S := match nameOf t with
  | some x => do some (.assign (← trName c x) (← trE deep c v))
  | none => match attrOf t with
    | some x => trSetAttr c v x
    | none => none
noncomputable def trExprS (c : Ctx) (v : Expr) : Option S := if isComp v then none else do some (.expr (← trE deep c v))
noncomputable def one? {α : Type} : List α → Option α
  | [e] => some e
  | _ => none
structure AppX where
  o : Expr
  e : Expr
  fit : Bool
noncomputable def appendOf (v : Expr) : Option AppX := match callOf v with
  | some x => if isNil x.kws then (match attrOf x.f with
    | some a => if a.x == "append" then (one? x.args).map fun e => ⟨a.o, e, a.pos.endLine == x.pos.line⟩ else none
    | none => none) else none
  | none => none
noncomputable def trAppend (c : Ctx) (o e : Expr) (fit : Bool) : Option S := if bareCall o || isStar e || !fit then none else do some (.append (← trE deep c o) (← trE deep c e))
noncomputable def trDel (c : Ctx) (ts : List Expr) : Option S := match one? ts with
  | some t => (match subOf t with
    | some x => if isSlice x.i then none else do some (.delIdx (← trE deep c x.o) (← trE deep c x.i))
    | none => none)
  | none => none
noncomputable def trRet (c : Ctx) : Option Expr → Option S
  | none => some (.ret none)
  | some e => do some (.ret (some (← trE deep c e)))
noncomputable def forZ2 (c : Ctx) (x y : Str) (b : Option (List S)) : List Expr → Option S
  | [e1, e2] => if isStar e1 || isStar e2 then none else do some (.forz (← trName c x) (← trName c y) (← trE deep c e1) (← trE deep c e2) (← b))
  | _ => none
noncomputable def forZ1 (c : Ctx) (iter : Expr) (b : Option (List S)) : List Expr → Option S
  | [t1, t2] => (match nameOf t1, nameOf t2, callOf iter with
    | some x, some y, some z => if isNil z.kws && gName c z.f == some "zip" then forZ2 c x y b z.args else none
    | _, _, _ => none)
  | _ => none
noncomputable def trForZ (c : Ctx) (iter : Expr) (b : Option (List S)) (t : Expr) : Option S := match tupZ t with
  | some es => forZ1 c iter b es
  | none => none
noncomputable def trForS (c : Ctx) (iter : Expr) (b : Option (List S)) (t : Expr) : Option S := match nameOf t with
  | some x => do some (.for1 [← trName c x] (← trSrc c (trE deep c) iter) (← b))
  | none => trForZ c iter b t
noncomputable def trS1 (c : Ctx) (f : Stmt → Option S) : Stmt → Option S
  | .Assign [t] v _ => trAssign c v t
  | .Delete ts _ => trDel c ts
  | .Expr v _ => (match appendOf v with
    | some x => trAppend c x.o x.e x.fit
    | none => trExprS c v)
  | .Return e _ => trRet c e
  | .If t a b _ => do some (.ite (← trE deep c t) (← mapO f a) (← mapO f b))
  | .While t b [] _ => do some (.whl (← trE deep c t) (← mapO f b))
  | .For t iter b [] _ => trForS c iter (mapO f b) t
  | .Break _ => some .brk
  | .Pass _ => some .pass
  | _ => none
noncomputable def trS : Nat → Ctx → Stmt → Option S
  | 0, _, _ => none
  | n + 1, c, s => trS1 c (trS n c) s
noncomputable def ownNames (names : List (Str × NameKind)) : List Str := (names.filter fun p => p.2 == .local || p.2 == .cell).map (·.1)
noncomputable def nodupB : List Str → Bool
  | [] => true
  | x :: r => !r.contains x && nodupB r
noncomputable def fCtx (tab : Tab) (top : Nat) (sc : Scope) : Ctx := ⟨sc.names, (ownNames sc.names).zipIdx, (ownNames sc.names).length, tab, top⟩
noncomputable def fShape (params : List Str) (sc : Scope) : Bool :=
  nodupB (sc.names.map (·.1)) && (ownNames sc.names).take params.length == params && sc.kind == .function && !sc.isGenerator && !sc.isCoroutine && sc.names.all fun p => !(p.2 == .free)
noncomputable def trF (tab : Tab) (top : Nat) (params : List Str) (sc : Scope) (body : List Stmt) : Option Fn :=
  if fShape params sc then
    match mapO (trS deep (fCtx tab top sc)) body with
    | some b => some ⟨params.length, (ownNames sc.names).length, b⟩
    | none => none
  else none
theorem nameOf_ok {e : Expr} {y : Str} (h : nameOf e = some y) : ∃ p, e = .Name y p := by
  unfold nameOf at h
  by_cases q : e.ctorIdx = 23
  · revert h
    refine Expr.Name.elim e q fun x p h => ?_
    cases h
    exact ⟨p, rfl⟩
  · rw [dif_neg q] at h; cases h
theorem callOf_ok {e : Expr} {x : CallX} (h : callOf e = some x) : e = .Call x.f x.args x.kws x.pos := by
  unfold callOf at h
  by_cases q : e.ctorIdx = 16
  · revert h
    refine Expr.Call.elim e q fun f a k p h => ?_
    cases h
    rfl
  · rw [dif_neg q] at h; cases h
theorem attrOf_ok {e : Expr} {x : AttrX} (h : attrOf e = some x) : e = .Attribute x.o x.x x.pos := by
  unfold attrOf at h
  by_cases q : e.ctorIdx = 20
  · revert h
    refine Expr.Attribute.elim e q fun o x p h => ?_
    cases h
    rfl
  · rw [dif_neg q] at h; cases h
theorem subOf_ok {e : Expr} {x : SubX} (h : subOf e = some x) : ∃ p, e = .Subscript x.o x.i p := by
  unfold subOf at h
  by_cases q : e.ctorIdx = 21
  · revert h
    refine Expr.Subscript.elim e q fun o i p h => ?_
    cases h
    exact ⟨p, rfl⟩
  · rw [dif_neg q] at h; cases h
theorem sliceOf_ok {e : Expr} {x : SliceX} (h : sliceOf e = some x) : ∃ p, e = .Slice x.lo x.hi x.st p := by
  unfold sliceOf at h
  by_cases q : e.ctorIdx = 26
  · revert h
    refine Expr.Slice.elim e q fun l u t p h => ?_
    cases h
    exact ⟨p, rfl⟩
  · rw [dif_neg q] at h; cases h
theorem isNil_ok {α : Type} {l : List α} (h : isNil l = true) : l = [] := by
  cases l with
  | nil => rfl
  | cons _ _ => cases h
theorem one_ok {α : Type} {l : List α} {e : α} (h : one? l = some e) : l = [e] := by
  match l, h with
  | [x], h => cases h; rfl
  | [], h => cases h
  | _ :: _ :: _, h => cases h
end ML
namespace ML
open PySem (Str)
noncomputable def coreFns : List (Str × Nat) := [("row_with", 5), ("row_without", 6), ("model_put", 32), ("model_delete", 33), ("run_on_canopy", 34), ("run_on_model", 35), ("law_invariants_hold_after_every_deed", 36), ("law_canopy_agrees_with_the_model", 37),
  ("law_get_agrees_with_the_model", 38), ("law_remove_tells_the_truth", 39), ("law_remove_undoes_put", 40), ("law_the_order_of_putting_does_not_matter", 41), ("law_range_is_a_filter", 42), ("law_rank_and_select_are_inverse", 43),
  ("law_next_key_is_the_least_greater", 44), ("squares_by_canopy", 45), ("height_after_counting_up", 46)]
noncomputable def coreMts : List (Str × Nat) := [("is_leaf", 2), ("slot", 3), ("lay", 4), ("adopt", 7), ("lookup", 8), ("height", 9), ("split_child", 10), ("put", 11), ("merge_children", 12), ("borrow_from_left", 13), ("borrow_from_right", 14), ("fill_child", 15),
  ("least_below", 16), ("greatest_below", 17), ("delete", 18), ("pairs_below", 19), ("pairs", 20), ("shape_ok", 21), ("keys_ok", 22), ("leaf_level", 23), ("check", 24), ("range_below", 25), ("count_below", 26), ("rank_of", 27), ("select_key", 28),
  ("next_key", 29), ("flat_below", 30), ("flat", 31)]
noncomputable def coreCls : List (Str × Nat) := [("Node", 0), ("Canopy", 1)]
noncomputable def coreAts : List (Str × Nat) := [("key_row", 0), ("value_row", 1), ("children", 2), ("t", 3), ("root", 4), ("size", 5)]
noncomputable def coreStrs : List (Str × Nat) := [("put", 0), ("del", 1)]
noncomputable def coreLv : List (Nat × Nat) := [(0, 0), (1, 1), (2, 0), (3, 0), (4, 0), (5, 0), (6, 0), (7, 0), (8, 1), (9, 1), (10, 1), (11, 2), (12, 1), (13, 1), (14, 1), (15, 2), (16, 1), (17, 1), (18, 3), (19, 1), (20, 2), (21, 0), (22, 0), (23, 1), (24, 2), (25, 1), (26, 0), (27, 1),
  (28, 2), (29, 1), (30, 0), (31, 1), (32, 0), (33, 0), (34, 4), (35, 1), (36, 5), (37, 6), (38, 6), (39, 6), (40, 6), (41, 5), (42, 6), (43, 6), (44, 6), (45, 5), (46, 5)]
noncomputable def mkTab (helpers : List (Str × Nat × Nat)) : Tab :=
  ⟨coreFns ++ helpers.map fun h => (h.1, h.2.1), coreCls, coreMts, coreAts, coreStrs, coreLv ++ helpers.map fun h => (h.2.1, h.2.2)
  , 0, 15
  ⟩
end ML
namespace ML
open PySem PySem.W PySem.Calls PyProof.Rows
noncomputable abbrev PHeap := PySem.Heap
structure Cfg where
  prog : Program
  w : World
  K : Frag
  h₀ : PHeap
  p : Program
  loose : List Str
  mg : Str → Option Value
  mb : Str → Option Value
  os : OsState
  tab : Tab
  fnA : List (Nat × Addr)
  clsA : List (Nat × Addr)
noncomputable abbrev Cfg.M (C : Cfg) : Model := model C.prog C.w
noncomputable def strIs (k : Nat) (x : Str) : Prop := coreStrs.lookup x = some k
noncomputable def attrIs (i : Nat) (x : Str) : Prop := coreAts.lookup x = some i
noncomputable def RepV : Value → V → Prop
  | .none, .none => True
  | .bool a, .bool b => a = b
  | .int i _, .int j => i = j
  | .float a _, .flt b => a = b
  | .str x _, .str k => strIs k x
  | .ref a, .ref b => a = b
  | _, _ => False
noncomputable def RepE (e : DictEntry) (f : Nat × V) : Prop := ∃ x t, e.key = .str x t ∧ attrIs f.1 x ∧ RepV e.val f.2
noncomputable def RepK (e : Int × Value) (f : Int × V) : Prop := e.1 = f.1 ∧ RepV e.2 f.2
noncomputable def CodeHead (C : Cfg) (a : Addr) : Prop := ∃ o vs file tf flags tg inF text tt, C.h₀.get? C.tab.gen = some o ∧ o.cls = .type "code" ∧ o.data = .fields vs ∧ vs[11]? = some (.ref a) ∧ vs.getD 11 .none = .ref a ∧ vs.getD 18 .none = .str file tf ∧
  vs.getD 7 .none = .int flags tg ∧ vs.getD 9 .none = .bool inF ∧ vs.getD 10 .none = .int text tt
noncomputable def RepO (C : Cfg) (h : PHeap) (a : Addr) : O → Prop
  | .list xs => ∃ vs n, IsL h a vs.toArray n ∧ All2 RepV vs xs ∧ vs.length ≤ 2 * lim
  | .ro xs => ∃ vs, h.IsList a vs.toArray ∧ All2 RepV vs xs ∧ vs.length ≤ 1000
  | .tup xs => ∃ vs, IsTup h a vs.toArray ∧ All2 RepV vs xs ∧ vs.length ≤ 2 * lim
  | .inst c fs => ∃ Ca d es n, C.clsA.lookup c = some Ca ∧ h.get? a = some (instObj Ca d) ∧ h.get? d = some { cls := .type "dict", data := .dict es n } ∧ All2 RepE es.toList fs
  | .dict es => es = [] ∧ CodeHead C a ∧ C.tab.gen ≠ a ∧ ∃ ps, h.get? a = some { cls := .none, data := .fields ps } ∧ TriplesOk ps.toList
noncomputable def Hid (H : Heap) (h : PHeap) (b : Addr) : Prop := ∃ a c fs o, H a = some (.inst c fs) ∧ h.get? a = some o ∧ o.dict = some b
noncomputable def Fp (H : Heap) (h : PHeap) (b : Addr) : Prop := (∃ xs, H b = some (.list xs)) ∨ (∃ es, H b = some (.dict es)) ∨ Hid H h b
structure StH (C : Cfg) (H : Heap) (s : Shared) : Prop where
  base : ∀ b o, C.h₀.get? b = some o → s.heap.get? b = some o
  rep : ∀ a o, H a = some o → RepO C s.heap a o
  own : ∀ b, Fp H s.heap b → C.h₀.get? b = none
  hid : ∀ b, Hid H s.heap b → H b = none
  inj : ∀ a a' c fs c' fs' o o' d, H a = some (.inst c fs) → H a' = some (.inst c' fs') → s.heap.get? a = some o → s.heap.get? a' = some o' → o.dict = some d → o'.dict = some d → a = a'
  gens : AllBare s.gens
  os : s.os = C.os
structure Ext (H : Heap) (h : PHeap) (H' : Heap) (h' : PHeap) : Prop where
  keep : ∀ b o, h.get? b = some o → ¬ Fp H h b → h'.get? b = some o
  alive : ∀ b, h'.get? b = none → h.get? b = none
  fresh : ∀ b, Fp H' h' b → Fp H h b ∨ h.get? b = none
  dom : ∀ b o, H' b = some o → (∃ o', H b = some o') ∨ h.get? b = none
variable {C : Cfg} {H H' H'' : Heap} {s s' : Shared} {h h' h'' : PHeap}
theorem Ext.refl : Ext H h H h := ⟨fun _ _ e _ => e, fun _ x => x, fun _ x => .inl x, fun _ o e => .inl ⟨o, e⟩⟩
theorem Ext.trans (x : Ext H h H' h') (y : Ext H' h' H'' h'') : Ext H h H'' h'' where
  keep b o e n := y.keep b o (x.keep b o e n) fun f => (x.fresh b f).elim n fun z => by rw [z] at e; cases e
  alive b e := x.alive b (y.alive b e)
  fresh b f := (y.fresh b f).elim (x.fresh b) fun z => .inr (x.alive b z)
  dom b o e := (y.dom b o e).elim (fun ⟨o', e'⟩ => x.dom b o' e') fun z => .inr (x.alive b z)
theorem RepO.look {a : Addr} {o : O} (r : RepO C h a o) : ∃ ob, h.get? a = some ob := by
  cases o with
  | list xs => obtain ⟨vs, n, e, _⟩ := r; exact ⟨_, e⟩
  | ro xs => obtain ⟨vs, ⟨ob, e, _⟩, _⟩ := r; exact ⟨_, e⟩
  | tup xs => obtain ⟨vs, ⟨ob, e, _⟩, _⟩ := r; exact ⟨_, e⟩
  | inst c fs => obtain ⟨Ca, d, es, n, _, e, _⟩ := r; exact ⟨_, e⟩
  | dict es => obtain ⟨_, _, _, ps, e, _⟩ := r; exact ⟨_, e⟩
theorem RepO.keeps {a : Addr} {o : O} (r : RepO C h a o) (k : ∀ x, h.get? a = some x → h'.get? a = some x)
    (kd : ∀ c fs, o = .inst c fs → ∀ ob b x, h.get? a = some ob → ob.dict = some b → h.get? b = some x → h'.get? b = some x) : RepO C h' a o := by
  cases o with
  | list xs => obtain ⟨vs, n, e, q⟩ := r; exact ⟨vs, n, k _ e, q⟩
  | ro xs => obtain ⟨vs, ⟨ob, e, q⟩, z⟩ := r; exact ⟨vs, ⟨ob, k _ e, q⟩, z⟩
  | tup xs => obtain ⟨vs, ⟨ob, e, q⟩, z⟩ := r; exact ⟨vs, ⟨ob, k _ e, q⟩, z⟩
  | inst c fs => obtain ⟨Ca, d, es, n, hc, e, ed, z⟩ := r; exact ⟨Ca, d, es, n, hc, k _ e, kd _ _ rfl _ _ _ e rfl ed, z⟩
  | dict es => obtain ⟨q1, q2, q3, ps, e, z⟩ := r; exact ⟨q1, q2, q3, ps, k _ e, z⟩
theorem StH.fresh_none (S : StH C H s) : H s.heap.objs.size = none := by
  cases q : H s.heap.objs.size with
  | none => rfl
  | some o => obtain ⟨ob, e⟩ := (S.rep _ _ q).look; exact absurd (Heap.lt_size e) (Nat.lt_irrefl _)
theorem look_size (h : PHeap) : h.get? h.objs.size = none := by
  cases q : h.get? h.objs.size with
  | none => rfl
  | some o => exact absurd (Heap.lt_size q) (Nat.lt_irrefl _)
theorem StH.base_none (S : StH C H s) {b : Addr} (e : s.heap.get? b = none) : C.h₀.get? b = none := by
  cases q : C.h₀.get? b with
  | none => rfl
  | some o => rw [S.base _ _ q] at e; cases e
theorem StH.none_of (S : StH C H s) {b : Addr} (e : s.heap.get? b = none) : H b = none := by
  cases q : H b with
  | none => rfl
  | some o => obtain ⟨ob, x⟩ := (S.rep _ _ q).look; rw [x] at e; cases e
theorem Hid.look (S : StH C H s) {b : Addr} (x : Hid H s.heap b) : ∃ o, s.heap.get? b = some o := by
  obtain ⟨a, c, fs, o, e1, e2, e3⟩ := x
  obtain ⟨Ca, d, es, n, _, e, ed, _⟩ := S.rep _ _ e1
  rw [e] at e2; cases e2; cases e3; exact ⟨_, ed⟩
theorem StH.quiet (S : StH C H s) (P : Addr → Prop) (hk : ∀ b o, s.heap.get? b = some o → ¬ P b → s'.heap.get? b = some o)
    (hP : ∀ b, P b → H b = none ∧ C.h₀.get? b = none ∧ ¬ Hid H s.heap b) (hg : s'.gens = s.gens) (hos : s'.os = s.os) : StH C H s' := by
  have same : ∀ a c fs o, H a = some (.inst c fs) → s'.heap.get? a = some o → s.heap.get? a = some o := fun a c fs o e e' => by
    obtain ⟨ob, x⟩ := (S.rep _ _ e).look
    have := hk _ _ x fun p => by rw [(hP _ p).1] at e; cases e
    rw [this] at e'; cases e'; exact x
  have hid' : ∀ b, Hid H s'.heap b → Hid H s.heap b := fun b ⟨a, c, fs, o, e1, e2, e3⟩ => ⟨a, c, fs, o, e1, same _ _ _ _ e1 e2, e3⟩
  refine ⟨fun b o e => hk _ _ (S.base _ _ e) fun p => (by rw [(hP _ p).2.1] at e; cases e), fun a o e => (S.rep a o e).keeps (fun x hx => hk _ _ hx fun p => (by rw [(hP _ p).1] at e; cases e)) fun c fs ho ob b x e1 e2 hx => hk _ _ hx fun p => ?_,
    fun b f => ?_, fun b x => S.hid _ (hid' _ x), ?_, by rw [hg]; exact S.gens, hos.trans S.os⟩
  · subst ho; exact (hP _ p).2.2 ⟨a, c, fs, ob, e, e1, e2⟩
  · rcases f with f | f | f
    · exact S.own _ (.inl f)
    · exact S.own _ (.inr (.inl f))
    · exact S.own _ (.inr (.inr (hid' _ f)))
  · intro a a' c fs c' fs' o o' d e1 e2 e3 e4
    exact S.inj a a' c fs c' fs' o o' d e1 e2 (same _ _ _ _ e1 e3) (same _ _ _ _ e2 e4)
theorem Hid.same (k : ∀ a c fs, H a = some (.inst c fs) → ∀ o, h.get? a = some o → h'.get? a = some o) (S : ∀ a o, H a = some o → ∃ ob, h.get? a = some ob) {b : Addr} (x : Hid H h' b) : Hid H h b := by
  obtain ⟨a, c, fs, o, e1, e2, e3⟩ := x
  obtain ⟨ob, z⟩ := S _ _ e1
  have := k _ _ _ e1 _ z
  rw [this] at e2; cases e2
  exact ⟨a, c, fs, _, e1, z, e3⟩
theorem StH.quietExt (S : StH C H s) (P : Addr → Prop) (hk : ∀ b o, s.heap.get? b = some o → ¬ P b → s'.heap.get? b = some o)
    (hP : ∀ b, P b → s.heap.get? b = none) : Ext H s.heap H s'.heap := by
  have hk' : ∀ b o, s.heap.get? b = some o → s'.heap.get? b = some o := fun b o e => hk b o e fun p => by rw [hP b p] at e; cases e
  have hid' : ∀ b, Hid H s'.heap b → Hid H s.heap b := fun b x => x.same (fun a c fs e o z => hk' _ _ z) fun a o e => (S.rep _ _ e).look
  refine ⟨fun b o e _ => hk' b o e, fun b e => ?_, fun b f => .inl ?_, fun b o e => .inl ⟨o, e⟩⟩
  · cases q : s.heap.get? b with
    | none => rfl
    | some o => rw [hk' _ _ q] at e; cases e
  · rcases f with f | f | f
    · exact .inl f
    · exact .inr (.inl f)
    · exact .inr (.inr (hid' _ f))
theorem StH.table (S : StH C H s) {P : Addr} (hP : H P = some (.dict [])) (hk : ∀ b o, b ≠ P → s.heap.get? b = some o → s'.heap.get? b = some o) (ht : ∃ ps : Array Value, s'.heap.get? P = some { cls := .none, data := .fields ps } ∧ TriplesOk ps.toList) (hg : AllBare s'.gens) (hos : s'.os = s.os) :
    StH C H s' ∧ Ext H s.heap H s'.heap := by
  have hfp : Fp H s.heap P := .inr (.inl ⟨_, hP⟩)
  have ne : ∀ a c fs, H a = some (.inst c fs) → a ≠ P := fun a c fs e q => by rw [q, hP] at e; cases e
  have nh : ¬ Hid H s.heap P := fun x => by rw [S.hid _ x] at hP; cases hP
  have same : ∀ a c fs o, H a = some (.inst c fs) → s'.heap.get? a = some o → s.heap.get? a = some o := fun a c fs o e e' => by
    obtain ⟨ob, x⟩ := (S.rep _ _ e).look
    have := hk _ _ (ne a c fs e) x
    rw [this] at e'; cases e'; exact x
  have hid' : ∀ b, Hid H s'.heap b → Hid H s.heap b := fun b ⟨a, c, fs, o, e1, e2, e3⟩ => ⟨a, c, fs, o, e1, same _ _ _ _ e1 e2, e3⟩
  have fp' : ∀ b, Fp H s'.heap b → Fp H s.heap b := fun b f => f.imp id fun f => f.imp id (hid' b)
  have h0 := S.own _ hfp
  refine ⟨⟨fun b o e => hk _ _ (fun q => by rw [q, h0] at e; cases e) (S.base _ _ e), fun a o e => ?_, fun b f => S.own _ (fp' b f), fun b x => S.hid _ (hid' _ x), ?_, hg, hos.trans S.os⟩, ⟨fun b o e n => hk _ _ (fun q => n (q ▸ hfp)) e, fun b e => ?_, fun b f => .inl (fp' b f), fun b o e => .inl ⟨o, e⟩⟩⟩
  · by_cases q : a = P
    · subst q
      rw [hP] at e; cases e
      obtain ⟨_, q1, q2, _⟩ := S.rep _ _ hP
      exact ⟨rfl, q1, q2, ht⟩
    · refine (S.rep a o e).keeps (fun x hx => hk _ _ q hx) fun c fs ho ob b x e1 e2 hx => hk _ _ (fun z => ?_) hx
      subst ho; subst z; exact nh ⟨a, c, fs, ob, e, e1, e2⟩
  · intro a a' c fs c' fs' o o' d e1 e2 e3 e4
    exact S.inj a a' c fs c' fs' o o' d e1 e2 (same _ _ _ _ e1 e3) (same _ _ _ _ e2 e4)
  · by_cases q : b = P
    · obtain ⟨ps, z, _⟩ := ht; rw [q, z] at e; cases e
    · cases z : s.heap.get? b with
      | none => rfl
      | some o => rw [hk _ _ q z] at e; cases e
theorem StH.grow (S : StH C H s) (hk : ∀ b o, s.heap.get? b = some o → s'.heap.get? b = some o) (hg : s'.gens = s.gens) (hos : s'.os = s.os) : StH C H s' ∧ Ext H s.heap H s'.heap :=
  ⟨S.quiet (fun _ => False) (fun b o e _ => hk b o e) (fun _ f => f.elim) hg hos, S.quietExt (fun _ => False) (fun b o e _ => hk b o e) fun _ f => f.elim⟩
theorem push_keeps (h : PHeap) (o : Obj) : ∀ b x, h.get? b = some x → (h.push o).get? b = some x := fun _ _ e => Heap.get?_push_of_some o e
theorem StH.push (S : StH C H s) (o : Obj) (tk : Nat) : StH C H { s with heap := s.heap.push o, toks := tk } ∧ Ext H s.heap H (s.heap.push o) :=
  S.grow (s' := { s with heap := s.heap.push o, toks := tk }) (push_keeps _ _) rfl rfl
theorem StH.toks (S : StH C H s) (tk : Nat) : StH C H { s with toks := tk } := (S.grow (s' := { s with toks := tk }) (fun _ _ e => e) rfl rfl).1
theorem StH.forget (S : StH C H s) (l : H'.le H) : StH C H' s :=
  have hd : ∀ b, Hid H' s.heap b → Hid H s.heap b := fun b ⟨a, c, fs, o, e1, e2, e3⟩ => ⟨a, c, fs, o, l _ _ e1, e2, e3⟩
  ⟨S.base, fun a o e => S.rep a o (l _ _ e), fun b f => S.own b (f.imp (fun ⟨x, e⟩ => ⟨x, l _ _ e⟩) fun f => f.imp (fun ⟨x, e⟩ => ⟨x, l _ _ e⟩) (hd b)),
    fun b x => (by
      cases q : H' b with
      | none => rfl
      | some o => have := S.hid b (hd b x); rw [l _ _ q] at this; cases this),
    fun a a' c fs c' fs' o o' d e1 e2 => S.inj a a' c fs c' fs' o o' d (l _ _ e1) (l _ _ e2), S.gens, S.os⟩
theorem Ext.forget (x : Ext H h H' h') (l : H''.le H') : Ext H h H'' h' :=
  ⟨x.keep, x.alive, fun b f => x.fresh b (f.imp (fun ⟨y, e⟩ => ⟨y, l _ _ e⟩) fun f => f.imp (fun ⟨y, e⟩ => ⟨y, l _ _ e⟩) fun ⟨a, c, fs, o, e1, e2, e3⟩ => ⟨a, c, fs, o, l _ _ e1, e2, e3⟩), fun b o e => x.dom b o (l _ _ e)⟩
theorem StH.alloc (S : StH C H s) {ob : Obj} {o : O} {tk : Nat} (hf : ob.isFreed = false) (hn : ∀ c fs, o ≠ .inst c fs) (hr : RepO C (s.heap.push ob) s.heap.objs.size o) :
    StH C (H.upd s.heap.objs.size o) { s with heap := s.heap.push ob, toks := tk } ∧ Ext H s.heap (H.upd s.heap.objs.size o) (s.heap.push ob) := by
  have hz := S.fresh_none
  have hl := look_size s.heap
  obtain ⟨S', E'⟩ := S.push ob tk
  have cases' : ∀ b x, (H.upd s.heap.objs.size o) b = some x → (b = s.heap.objs.size ∧ x = o) ∨ H b = some x := fun b x e => by
    by_cases q : b = s.heap.objs.size
    · subst q; simp [Heap.upd] at e; exact .inl ⟨rfl, e.symm⟩
    · simp [Heap.upd, q] at e; exact .inr e
  have hid' : ∀ b, Hid (H.upd s.heap.objs.size o) (s.heap.push ob) b → Hid H (s.heap.push ob) b := fun b ⟨a, c, fs, x, e1, e2, e3⟩ =>
    (cases' _ _ e1).elim (fun ⟨_, q⟩ => absurd q.symm (hn c fs)) fun e1 => ⟨a, c, fs, x, e1, e2, e3⟩
  have hidO : ∀ b, Hid H (s.heap.push ob) b → Hid H s.heap b := fun b x => x.same (fun _ _ _ _ o e => push_keeps _ _ _ _ e) fun a o e => (S.rep _ _ e).look
  refine ⟨⟨S'.base, fun a x e => ?_, fun b f => ?_, fun b x => ?_, ?_, S'.gens, S'.os⟩, ⟨E'.keep, E'.alive, fun b f => ?_, fun b x e => ?_⟩⟩
  · rcases cases' _ _ e with ⟨rfl, rfl⟩ | e
    · exact hr
    · exact S'.rep _ _ e
  · rcases f with ⟨x, f⟩ | ⟨x, f⟩ | f
    · rcases cases' _ _ f with ⟨rfl, _⟩ | f
      · exact S.base_none hl
      · exact S'.own _ (.inl ⟨x, f⟩)
    · rcases cases' _ _ f with ⟨rfl, _⟩ | f
      · exact S.base_none hl
      · exact S'.own _ (.inr (.inl ⟨x, f⟩))
    · exact S'.own _ (.inr (.inr (hid' _ f)))
  · have y := hid' _ x
    have z := hidO _ y
    obtain ⟨ob', lk⟩ := z.look S
    have ne : b ≠ s.heap.objs.size := fun q => by rw [q, hl] at lk; cases lk
    simp only [Heap.upd, ne, if_false]; exact S'.hid _ y
  · intro a a' c fs c' fs' x x' d e1 e2
    rcases cases' _ _ e1 with ⟨_, q⟩ | e1
    · exact absurd q.symm (hn c fs)
    · rcases cases' _ _ e2 with ⟨_, q⟩ | e2
      · exact absurd q.symm (hn c' fs')
      · exact S'.inj a a' c fs c' fs' x x' d e1 e2
  · rcases f with ⟨x, f⟩ | ⟨x, f⟩ | f
    · rcases cases' _ _ f with ⟨rfl, _⟩ | f
      · exact .inr hl
      · exact .inl (.inl ⟨x, f⟩)
    · rcases cases' _ _ f with ⟨rfl, _⟩ | f
      · exact .inr hl
      · exact .inl (.inr (.inl ⟨x, f⟩))
    · exact .inl (.inr (.inr (hidO _ (hid' _ f))))
  · rcases cases' _ _ e with ⟨rfl, _⟩ | e
    · exact .inr hl
    · exact .inl ⟨x, e⟩
theorem StH.over (S : StH C H s) {l : Addr} {o o' : O} {g : PHeap} {tk : Nat} (ho : H l = some o) (hk : (∃ xs, o = .list xs) ∨ ∃ es, o = .dict es) (hk' : (∃ xs, o' = .list xs) ∨ ∃ es, o' = .dict es)
    (same : ∀ b, b ≠ l → g.get? b = s.heap.get? b) (hl : ∃ ob, g.get? l = some ob) (hr : RepO C g l o') :
    StH C (H.upd l o') { s with heap := g, toks := tk } ∧ Ext H s.heap (H.upd l o') g := by
  have hfp : Fp H s.heap l := by rcases hk with ⟨xs, rfl⟩ | ⟨es, rfl⟩; exact .inl ⟨xs, ho⟩; exact .inr (.inl ⟨es, ho⟩)
  have hne : ∀ c fs, o' ≠ .inst c fs := by rcases hk' with ⟨xs, rfl⟩ | ⟨es, rfl⟩ <;> intro c fs q <;> cases q
  have hnl : ∀ a c fs, H a = some (.inst c fs) → a ≠ l := fun a c fs e q => by subst q; rw [ho] at e; cases e; rcases hk with ⟨xs, q⟩ | ⟨es, q⟩ <;> cases q
  have hnh : ¬ Hid H s.heap l := fun x => by rw [S.hid _ x] at ho; cases ho
  have keep : ∀ b x, s.heap.get? b = some x → b ≠ l → g.get? b = some x := fun b x e n => (same b n).trans e
  have cases' : ∀ b x, (H.upd l o') b = some x → (b = l ∧ x = o') ∨ (b ≠ l ∧ H b = some x) := fun b x e => by
    by_cases q : b = l
    · subst q; simp [Heap.upd] at e; exact .inl ⟨rfl, e.symm⟩
    · simp [Heap.upd, q] at e; exact .inr ⟨q, e⟩
  have hid1 : ∀ b, Hid (H.upd l o') g b → Hid H s.heap b := fun b ⟨a, c, fs, x, e1, e2, e3⟩ =>
    (cases' _ _ e1).elim (fun ⟨_, q⟩ => absurd q.symm (hne c fs)) fun ⟨n, e1⟩ => ⟨a, c, fs, x, e1, by rw [same _ n] at e2; exact e2, e3⟩
  have fp1 : ∀ b, Fp (H.upd l o') g b → Fp H s.heap b := fun b q => by
    rcases q with ⟨x, q⟩ | ⟨x, q⟩ | q
    · rcases cases' _ _ q with ⟨rfl, _⟩ | ⟨_, q⟩
      · exact hfp
      · exact .inl ⟨x, q⟩
    · rcases cases' _ _ q with ⟨rfl, _⟩ | ⟨_, q⟩
      · exact hfp
      · exact .inr (.inl ⟨x, q⟩)
    · exact .inr (.inr (hid1 _ q))
  refine ⟨⟨fun b x e => keep _ _ (S.base _ _ e) fun q => ?_, fun a x e => ?_, fun b q => S.own _ (fp1 _ q), fun b x => ?_, ?_, S.gens, S.os⟩, ⟨fun b x e n => keep _ _ e fun q => n (q ▸ hfp), fun b e => ?_, fun b q => .inl (fp1 _ q), fun b x e => ?_⟩⟩
  · rw [q, S.own _ hfp] at e; cases e
  · rcases cases' _ _ e with ⟨rfl, rfl⟩ | ⟨n, e⟩
    · exact hr
    · refine (S.rep _ _ e).keeps (fun y hy => keep _ _ hy n) fun c fs q ob' b y e1 e2 hy => keep _ _ hy fun z => ?_
      subst q; exact hnh ⟨a, c, fs, ob', e, e1, z ▸ e2⟩
  · have y := hid1 _ x
    have ne : b ≠ l := fun q => hnh (q ▸ y)
    simp only [Heap.upd, ne, if_false]; exact S.hid _ y
  · intro a a' c fs c' fs' x x' d e1 e2 e3 e4
    rcases cases' _ _ e1 with ⟨_, q⟩ | ⟨n1, e1⟩
    · exact absurd q.symm (hne c fs)
    · rcases cases' _ _ e2 with ⟨_, q⟩ | ⟨n2, e2⟩
      · exact absurd q.symm (hne c' fs')
      · have e3 : g.get? a = some x := e3
        have e4 : g.get? a' = some x' := e4
        rw [same _ n1] at e3
        rw [same _ n2] at e4
        exact S.inj a a' c fs c' fs' x x' d e1 e2 e3 e4
  · by_cases q : b = l
    · obtain ⟨ob, z⟩ := hl; subst q; rw [z] at e; cases e
    · rw [same _ q] at e; exact e
  · rcases cases' _ _ e with ⟨rfl, _⟩ | ⟨_, e⟩
    · exact .inl ⟨_, ho⟩
    · exact .inl ⟨x, e⟩
theorem StH.write (S : StH C H s) {l : Addr} {f : Obj → Obj} {o o' : O} {ob : Obj} {tk : Nat} (ho : H l = some o) (hob : s.heap.get? l = some ob) (hk : (∃ xs, o = .list xs) ∨ ∃ es, o = .dict es) (hk' : (∃ xs, o' = .list xs) ∨ ∃ es, o' = .dict es)
    (hf : (f ob).isFreed = false) (hr : RepO C (s.heap.update l f) l o') :
    StH C (H.upd l o') { s with heap := s.heap.update l f, toks := tk } ∧ Ext H s.heap (H.upd l o') (s.heap.update l f) :=
  S.over ho hk hk' (fun b n => Heap.get?_update_other _ f (Ne.symm n)) ⟨_, Heap.get?_update_self f hob hf⟩ hr
end ML
namespace ML
open PySem PySem.W PySem.Calls PyProof.Rows
variable {C : Cfg} {H H' H'' : Heap} {s s' : Shared} {h h' h'' : PHeap}
theorem StH.make (S : StH C H s) {c : Nat} {Ca : Addr} {tk : Nat} (hc : C.clsA.lookup c = some Ca) :
    StH C (H.upd (s.heap.objs.size + 1) (.inst c [])) { s with heap := (s.heap.push emptyDict).push (instObj Ca s.heap.objs.size), toks := tk } ∧
    Ext H s.heap (H.upd (s.heap.objs.size + 1) (.inst c [])) ((s.heap.push emptyDict).push (instObj Ca s.heap.objs.size)) := by
  have h2 : ∀ b x, s.heap.get? b = some x → ((s.heap.push emptyDict).push (instObj Ca s.heap.objs.size)).get? b = some x := fun b x e => push_keeps _ _ _ _ (push_keeps _ _ _ _ e)
  obtain ⟨S', E'⟩ := S.grow (s' := { s with heap := (s.heap.push emptyDict).push (instObj Ca s.heap.objs.size), toks := tk }) h2 rfl rfl
  have hl0 := look_size s.heap
  have hl1 : s.heap.get? (s.heap.objs.size + 1) = none := by
    cases q : s.heap.get? (s.heap.objs.size + 1) with
    | none => rfl
    | some o => exact absurd (Heap.lt_size q) (Nat.not_lt.mpr (Nat.le_succ _))
  have ed : ((s.heap.push emptyDict).push (instObj Ca s.heap.objs.size)).get? s.heap.objs.size = some emptyDict := push_keeps _ _ _ _ (Heap.get?_push_size _ rfl)
  have ei : ((s.heap.push emptyDict).push (instObj Ca s.heap.objs.size)).get? (s.heap.objs.size + 1) = some (instObj Ca s.heap.objs.size) := by
    have := Heap.get?_push_size (s.heap.push emptyDict) (o := instObj Ca s.heap.objs.size) rfl
    rwa [Heap.size_push] at this
  have cases' : ∀ b x, (H.upd (s.heap.objs.size + 1) (.inst c [])) b = some x → (b = s.heap.objs.size + 1 ∧ x = .inst c []) ∨ H b = some x := fun b x e => by
    by_cases q : b = s.heap.objs.size + 1
    · subst q; simp [Heap.upd] at e; exact .inl ⟨rfl, e.symm⟩
    · simp [Heap.upd, q] at e; exact .inr e
  have hid' : ∀ b, Hid (H.upd (s.heap.objs.size + 1) (.inst c [])) ((s.heap.push emptyDict).push (instObj Ca s.heap.objs.size)) b → b = s.heap.objs.size ∨ Hid H s.heap b := fun b ⟨a, c', fs, x, e1, e2, e3⟩ => by
    rcases cases' _ _ e1 with ⟨rfl, _⟩ | e1
    · rw [ei] at e2; cases e2; cases e3; exact .inl rfl
    · refine .inr (Hid.same (h := s.heap) (fun _ _ _ _ o e => h2 _ _ e) (fun a o e => (S.rep _ _ e).look) ⟨a, c', fs, x, e1, e2, e3⟩)
  have noneD : H s.heap.objs.size = none := S.none_of hl0
  refine ⟨⟨S'.base, fun a x e => ?_, fun b f => ?_, fun b x => ?_, ?_, S'.gens, S'.os⟩, ⟨E'.keep, E'.alive, fun b f => ?_, fun b x e => ?_⟩⟩
  · rcases cases' _ _ e with ⟨rfl, rfl⟩ | e
    · exact ⟨Ca, _, #[], 0, hc, ei, ed, .nil⟩
    · exact S'.rep _ _ e
  · rcases f with ⟨x, f⟩ | ⟨x, f⟩ | f
    · rcases cases' _ _ f with ⟨_, q⟩ | f
      · cases q
      · exact S.own _ (.inl ⟨x, f⟩)
    · rcases cases' _ _ f with ⟨_, q⟩ | f
      · cases q
      · exact S.own _ (.inr (.inl ⟨x, f⟩))
    · rcases hid' _ f with rfl | f
      · exact S.base_none hl0
      · exact S.own _ (.inr (.inr f))
  · rcases hid' _ x with rfl | y
    · simp only [Heap.upd, show s.heap.objs.size ≠ s.heap.objs.size + 1 from Nat.ne_of_lt (Nat.lt_succ_self _), if_false]; exact noneD
    · obtain ⟨ob', lk⟩ := y.look S
      have ne : b ≠ s.heap.objs.size + 1 := fun q => by rw [q, hl1] at lk; cases lk
      simp only [Heap.upd, ne, if_false]; exact S.hid _ y
  · intro a a' c1 fs c2 fs' x x' d e1 e2 e3 e4 e5 e6
    have e3 : ((s.heap.push emptyDict).push (instObj Ca s.heap.objs.size)).get? a = some x := e3
    have e4 : ((s.heap.push emptyDict).push (instObj Ca s.heap.objs.size)).get? a' = some x' := e4
    have old : ∀ a c fs x d, H a = some (.inst c fs) → ((s.heap.push emptyDict).push (instObj Ca s.heap.objs.size)).get? a = some x → x.dict = some d → d ≠ s.heap.objs.size := fun a c fs x d e1 e2 e3 q => by
      have := Hid.same (h := s.heap) (fun _ _ _ _ o e => h2 _ _ e) (fun a o e => (S.rep _ _ e).look) (⟨a, c, fs, x, e1, e2, e3⟩ : Hid H _ d)
      obtain ⟨ob', lk⟩ := this.look S
      rw [q, hl0] at lk; cases lk
    rcases cases' _ _ e1 with ⟨rfl, _⟩ | e1
    · rcases cases' _ _ e2 with ⟨rfl, _⟩ | e2
      · rfl
      · rw [ei] at e3; cases e3; cases e5
        exact absurd rfl (old _ _ _ _ _ e2 e4 e6)
    · rcases cases' _ _ e2 with ⟨rfl, _⟩ | e2
      · rw [ei] at e4; cases e4; cases e6
        exact absurd rfl (old _ _ _ _ _ e1 e3 e5)
      · exact S'.inj a a' c1 fs c2 fs' x x' d e1 e2 e3 e4 e5 e6
  · rcases f with ⟨x, f⟩ | ⟨x, f⟩ | f
    · rcases cases' _ _ f with ⟨_, q⟩ | f
      · cases q
      · exact .inl (.inl ⟨x, f⟩)
    · rcases cases' _ _ f with ⟨_, q⟩ | f
      · cases q
      · exact .inl (.inr (.inl ⟨x, f⟩))
    · rcases hid' _ f with rfl | f
      · exact .inr hl0
      · exact .inl (.inr (.inr f))
  · rcases cases' _ _ e with ⟨rfl, _⟩ | e
    · exact .inr hl1
    · exact .inl ⟨x, e⟩
theorem StH.field (S : StH C H s) {a d : Addr} {c : Nat} {fs fs' : List (Nat × V)} {ob : Obj} {f : Obj → Obj} {tk : Nat} (ho : H a = some (.inst c fs)) (hob : s.heap.get? a = some ob) (hd : ob.dict = some d) (hf : ∀ o, s.heap.get? d = some o → (f o).isFreed = false)
    (hr : RepO C (s.heap.update d f) a (.inst c fs')) :
    StH C (H.upd a (.inst c fs')) { s with heap := s.heap.update d f, toks := tk } ∧ Ext H s.heap (H.upd a (.inst c fs')) (s.heap.update d f) := by
  have hh : Hid H s.heap d := ⟨a, c, fs, ob, ho, hob, hd⟩
  have hfp : Fp H s.heap d := .inr (.inr hh)
  have hnd : H d = none := S.hid _ hh
  have keep : ∀ b x, s.heap.get? b = some x → b ≠ d → (s.heap.update d f).get? b = some x := fun b x e n => (Heap.get?_update_other _ f (Ne.symm n)).trans e
  have cases' : ∀ b x, (H.upd a (.inst c fs')) b = some x → (b = a ∧ x = .inst c fs') ∨ (b ≠ a ∧ H b = some x) := fun b x e => by
    by_cases q : b = a
    · subst q; simp [Heap.upd] at e; exact .inl ⟨rfl, e.symm⟩
    · simp [Heap.upd, q] at e; exact .inr ⟨q, e⟩
  have nd : ∀ b x, H b = some x → b ≠ d := fun b x e q => by rw [q, hnd] at e; cases e
  have nda : a ≠ d := nd _ _ ho
  have hid1 : ∀ b, Hid (H.upd a (.inst c fs')) (s.heap.update d f) b → Hid H s.heap b := fun b ⟨a', c', fs1, x, e1, e2, e3⟩ => by
    rcases cases' _ _ e1 with ⟨rfl, _⟩ | ⟨n, e1⟩
    · rw [Heap.get?_update_other _ f (Ne.symm nda)] at e2; exact ⟨a', c, fs, x, ho, e2, e3⟩
    · rw [Heap.get?_update_other _ f (Ne.symm (nd _ _ e1))] at e2; exact ⟨a', c', fs1, x, e1, e2, e3⟩
  have fp1 : ∀ b, Fp (H.upd a (.inst c fs')) (s.heap.update d f) b → Fp H s.heap b := fun b q => by
    rcases q with ⟨x, q⟩ | ⟨x, q⟩ | q
    · rcases cases' _ _ q with ⟨_, q⟩ | ⟨_, q⟩
      · cases q
      · exact .inl ⟨x, q⟩
    · rcases cases' _ _ q with ⟨_, q⟩ | ⟨_, q⟩
      · cases q
      · exact .inr (.inl ⟨x, q⟩)
    · exact .inr (.inr (hid1 _ q))
  refine ⟨⟨fun b x e => keep _ _ (S.base _ _ e) fun q => ?_, fun b x e => ?_, fun b q => S.own _ (fp1 _ q), fun b x => ?_, ?_, S.gens, S.os⟩, ⟨fun b x e n => keep _ _ e fun q => n (q ▸ hfp), fun b e => ?_, fun b q => .inl (fp1 _ q), fun b x e => ?_⟩⟩
  · rw [q, S.own _ hfp] at e; cases e
  · rcases cases' _ _ e with ⟨rfl, rfl⟩ | ⟨n, e⟩
    · exact hr
    · refine (S.rep _ _ e).keeps (fun y hy => keep _ _ hy (nd _ _ e)) fun c1 fs1 q ob' b' y e1 e2 hy => keep _ _ hy fun z => ?_
      subst q z
      exact n (S.inj b a c1 fs1 c fs ob' ob b' e ho e1 hob e2 hd)
  · have y := hid1 _ x
    have ne : b ≠ a := fun q => by rw [q] at y; have := S.hid _ y; rw [ho] at this; cases this
    simp only [Heap.upd, ne, if_false]; exact S.hid _ y
  · intro a1 a2 c1 fs1 c2 fs2 x x' d' e1 e2 e3 e4 e5 e6
    have e3 : (s.heap.update d f).get? a1 = some x := e3
    have e4 : (s.heap.update d f).get? a2 = some x' := e4
    have g1 : ∃ c1 fs1, H a1 = some (.inst c1 fs1) := by rcases cases' _ _ e1 with ⟨rfl, _⟩ | ⟨_, e⟩; exact ⟨_, _, ho⟩; exact ⟨_, _, e⟩
    have g2 : ∃ c2 fs2, H a2 = some (.inst c2 fs2) := by rcases cases' _ _ e2 with ⟨rfl, _⟩ | ⟨_, e⟩; exact ⟨_, _, ho⟩; exact ⟨_, _, e⟩
    refine absG fun Cg hCg => ?_
    obtain ⟨_, _, g1⟩ := g1
    obtain ⟨_, _, g2⟩ := g2
    refine hCg ?_; clear hCg
    rw [Heap.get?_update_other _ f (Ne.symm (nd _ _ g1))] at e3
    rw [Heap.get?_update_other _ f (Ne.symm (nd _ _ g2))] at e4
    exact S.inj a1 a2 _ _ _ _ x x' d' g1 g2 e3 e4 e5 e6
  · by_cases q : b = d
    · obtain ⟨od, lk⟩ := hh.look S
      rw [q, Heap.get?_update_self f lk (hf _ lk)] at e; cases e
    · rw [Heap.get?_update_other _ f (Ne.symm q)] at e; exact e
  · rcases cases' _ _ e with ⟨rfl, _⟩ | ⟨_, e⟩
    · exact .inl ⟨_, ho⟩
    · exact .inl ⟨x, e⟩
noncomputable def OptRep : Option Value → Option V → Prop
  | none, none => True
  | some v, some w => RepV v w
  | _, _ => False
structure EnvOk (c : Ctx) (env : Env) : Prop where
  glob : env.globals = mainGlobals
  blts : env.builtins = builtinsNs
  kind : env.scope.kind = .function
  kglob : ∀ x, c.kinds.lookup x = some .globalImplicit → env.kindOf x = some .globalImplicit
  kloc : ∀ x, c.kinds.lookup x = some .local → env.kindOf x = some .local
  kcell : ∀ x, c.kinds.lookup x = some .cell → env.kindOf x = some .cell
  kfree : ∀ x, c.kinds.lookup x = some .free → env.kindOf x = some .free ∨ env.kindOf x = some .cell
  inj : ∀ x y i, c.ν.lookup x = some i → c.ν.lookup y = some i → x = y
  bnd : ∀ x i, c.ν.lookup x = some i → i < c.next
  code : c.top = c.tab.gtop → env.code = .ref c.tab.gen
noncomputable def isCell (c : Ctx) (x : Str) : Prop := c.kinds.lookup x = some .cell ∨ c.kinds.lookup x = some .free
structure EnvSt (C : Cfg) (c : Ctx) (env : Env) (m : Loc) (H : Heap) (h : PHeap) : Prop where
  len : m.length = c.next
  ns : ∃ mm, h.Ns env.locals mm ∧ ∀ x i, c.ν.lookup x = some i → c.kinds.lookup x = some .local → OptRep (mm x) (m[i]?.join)
  cells : ∀ x i, c.ν.lookup x = some i → isCell c x → ∃ a ov, env.cells.lookup x = some a ∧ h.IsCell a ov ∧ OptRep ov (m[i]?.join)
  apL : H env.locals = none ∧ ¬ Hid H h env.locals ∧ C.h₀.get? env.locals = none
  apC : ∀ x a, env.cells.lookup x = some a → H a = none ∧ ¬ Hid H h a ∧ C.h₀.get? a = none ∧ a ≠ env.locals ∧ ∃ o, h.get? a = some o
  injC : ∀ x y a, env.cells.lookup x = some a → env.cells.lookup y = some a → x = y
theorem not_fp {b : Addr} (a : H b = none) (n : ¬ Hid H h b) : ¬ Fp H h b := fun f => by
  rcases f with ⟨x, f⟩ | ⟨x, f⟩ | f
  · rw [a] at f; cases f
  · rw [a] at f; cases f
  · exact n f
theorem Ext.apart (x : Ext H h H' h') {b : Addr} {o : Obj} (e : h.get? b = some o) (a : H b = none) (n : ¬ Hid H h b) : h'.get? b = some o ∧ H' b = none ∧ ¬ Hid H' h' b := by
  refine ⟨x.keep _ _ e (not_fp a n), ?_, fun y => ?_⟩
  · cases q : H' b with
    | none => rfl
    | some o' =>
      rcases x.dom _ _ q with ⟨z, q⟩ | q
      · rw [a] at q; cases q
      · rw [e] at q; cases q
  · rcases x.fresh _ (.inr (.inr y)) with f | q
    · exact not_fp a n f
    · rw [e] at q; cases q
theorem EnvSt.ext {c : Ctx} {env : Env} {m : Loc} (x : EnvSt C c env m H h) (y : Ext H h H' h') : EnvSt C c env m H' h' := by
  refine absG fun Cg hCg => ?_
  obtain ⟨mm, ⟨o, es, ep, ho, hr⟩, hm⟩ := x.ns
  have l := y.apart ho x.apL.1 x.apL.2.1
  refine hCg ?_; clear hCg
  refine ⟨x.len, ⟨mm, ⟨o, es, ep, l.1, hr⟩, hm⟩, fun z i e k => ?_, ⟨l.2.1, l.2.2, x.apL.2.2⟩, fun z a e => ?_, x.injC⟩
  · refine absG fun Cg hCg => ?_
    obtain ⟨a, ov, e1, ⟨oc, e2, e3⟩, e4⟩ := x.cells z i e k
    obtain ⟨n1, n2, n3, n4, _⟩ := x.apC _ _ e1
    refine hCg ?_; clear hCg
    exact ⟨a, ov, e1, ⟨oc, (y.apart e2 n1 n2).1, e3⟩, e4⟩
  · refine absG fun Cg hCg => ?_
    obtain ⟨n1, n2, n3, n4, o', lk⟩ := x.apC _ _ e
    have q := y.apart lk n1 n2
    refine hCg ?_; clear hCg
    exact ⟨q.2.1, q.2.2, n3, n4, o', q.1⟩
end ML
namespace ML
open PySem PySem.W PySem.Calls PyProof.Rows
variable {C : Cfg} {H H' H'' : Heap} {s s' : Shared} {h h' h'' : PHeap} {A : Around}
noncomputable def PE (C : Cfg) (H : Heap) (s : Shared) (Q : PV) : Value → Shared → Prop := fun v s' => ∃ mv H', RepV v mv ∧ StH C H' s' ∧ Ext H s.heap H' s'.heap ∧ Q mv H'
noncomputable def PB (C : Cfg) (H : Heap) (s : Shared) (Q : Bool → Prop) : Value → Shared → Prop := fun v s' => ∃ r, v = .bool r ∧ StH C H s' ∧ Ext H s.heap H s'.heap ∧ Q r
noncomputable def NoE : Value → Shared → Prop := fun _ _ => False
structure AOk (A : Around) (n : Nat) : Prop where
  hd : A.handled = none
  dp : A.depth + 4 * n ≤ 900
  un : A.units + 20 * n ≤ 9000
theorem RepV.int {v : Value} {i : Int} (r : RepV v (.int i)) : ∃ t, v = .int i t := by cases v <;> first | exact r.elim | (cases (show _ = _ from r); exact ⟨_, rfl⟩)
theorem RepV.ref {v : Value} {a : Nat} (r : RepV v (.ref a)) : v = .ref a := by cases v <;> first | exact r.elim | (cases (show _ = _ from r); rfl)
theorem RepV.none {v : Value} (r : RepV v .none) : v = .none := by cases v <;> first | exact r.elim | rfl
theorem RepV.bool {v : Value} {b : Bool} (r : RepV v (.bool b)) : v = .bool b := by cases v <;> first | exact r.elim | (cases (show _ = _ from r); rfl)
theorem RepV.str {v : Value} {k : Nat} (r : RepV v (.str k)) : ∃ x t, v = .str x t ∧ strIs k x := by cases v <;> first | exact r.elim | exact ⟨_, _, rfl, r⟩
theorem RepV.flt {v : Value} {k : UInt64} (r : RepV v (.flt k)) : ∃ t, v = .float k t := by cases v <;> first | exact r.elim | (cases (show _ = _ from r); exact ⟨_, rfl⟩)
theorem PE.here {Q : PV} {v : Value} {mv : V} (S : StH C H s) (r : RepV v mv) (q : Q mv H) (tk : Nat) : PE C H s Q v { s with toks := tk } := ⟨mv, H, r, S.toks tk, Ext.refl, q⟩
theorem PE.at {Q : PV} {v : Value} {mv : V} (S : StH C H s) (r : RepV v mv) (q : Q mv H) : PE C H s Q v s := ⟨mv, H, r, S, Ext.refl, q⟩
theorem PB.at {Q : Bool → Prop} {r : Bool} (S : StH C H s) (q : Q r) : PB C H s Q (.bool r) s := ⟨r, rfl, S, Ext.refl, q⟩
theorem All2.take {α β : Type} {R : α → β → Prop} : ∀ {l : List α} {m : List β} (i : Nat), All2 R l m → All2 R (l.take i) (m.take i)
  | _, _, 0, _ => by simpa using .nil
  | _, _, i + 1, .nil => by simpa using .nil
  | _, _, i + 1, .cons a r => .cons a (r.take i)
theorem All2.drop {α β : Type} {R : α → β → Prop} : ∀ {l : List α} {m : List β} (i : Nat), All2 R l m → All2 R (l.drop i) (m.drop i)
  | _, _, 0, r => r
  | _, _, i + 1, .nil => by simpa using .nil
  | _, _, i + 1, .cons _ r => r.drop i
theorem All2.eraseIdx {α β : Type} {R : α → β → Prop} : ∀ {l : List α} {m : List β} (i : Nat), All2 R l m → All2 R (l.eraseIdx i) (m.eraseIdx i)
  | _, _, _, .nil => by simpa using .nil
  | _, _, 0, .cons _ r => r
  | _, _, i + 1, .cons a r => .cons a (r.eraseIdx i)
theorem All2.set {α β : Type} {R : α → β → Prop} {x : α} {y : β} (h : R x y) : ∀ {l : List α} {m : List β} (i : Nat), All2 R l m → All2 R (l.set i x) (m.set i y)
  | _, _, _, .nil => by simpa using .nil
  | _, _, 0, .cons _ r => .cons h r
  | _, _, i + 1, .cons a r => .cons a (r.set h i)
theorem sizeLine_lim {n : Nat} (h : n ≤ lim) : n ≤ sizeLine := by
  have : lim ≤ sizeLine := by decide
  (first | lia | omega)
theorem PE.list {Q : PV} {vs : List Value} {xs : List V} (S : StH C H s) (hr : All2 RepV vs xs) (hz : xs.length ≤ 2 * lim) (hw : allocW (.list xs) H Q) {n : Nat} :
    PE C H s Q (.ref s.heap.objs.size) { s with heap := s.heap.push { cls := .type "list", data := .seq vs.toArray n } } := by
  obtain ⟨S', E'⟩ := S.alloc (ob := { cls := .type "list", data := .seq vs.toArray n }) (o := .list xs) (tk := s.toks) rfl (fun _ _ q => by cases q) ⟨vs, n, Heap.get?_push_size _ rfl, hr, hr.length ▸ hz⟩
  exact ⟨.ref _, _, rfl, S', E', hw _ S.fresh_none⟩
theorem PE.tup {Q : PV} {vs : List Value} {xs : List V} (S : StH C H s) (hr : All2 RepV vs xs) (hz : xs.length ≤ 2 * lim) (hw : allocW (.tup xs) H Q) {n : Nat} :
    PE C H s Q (.ref s.heap.objs.size) { s with heap := s.heap.push { cls := .type "tuple", data := .seq vs.toArray n } } := by
  obtain ⟨S', E'⟩ := S.alloc (ob := { cls := .type "tuple", data := .seq vs.toArray n }) (o := .tup xs) (tk := s.toks) rfl (fun _ _ q => by cases q) ⟨vs, ⟨_, Heap.get?_push_size _ rfl, rfl, n, rfl⟩, hr, hr.length ▸ hz⟩
  exact ⟨.ref _, _, rfl, S', E', hw _ S.fresh_none⟩
theorem mulOk {x y : Int} (h : mid x ∨ mid y) : IntMulOk x y := by
  rcases h with h | h
  · exact .of_left (intBits_le_64 (by have := h.1; (first | lia | omega)) (by have := h.2; (first | lia | omega)))
  · exact .of_right (intBits_le_64 (by have := h.1; (first | lia | omega)) (by have := h.2; (first | lia | omega)))
theorem PE.int {Q : PV} {i : Int} {t : Tok} (S : StH C H s) (q : Q (.int i) H) (tk : Nat) : PE C H s Q (.int i t) { s with toks := tk } := ⟨.int i, H, rfl, S.toks tk, Ext.refl, q⟩
theorem int2_get {F : Int → Int → Prop} {x y : V} (h : intW2 x y F) : ∃ i j, x = .int i ∧ y = .int j ∧ F i j := by
  cases x with
  | int i => cases y with
    | int j => exact ⟨i, j, rfl, rfl, h⟩
    | _ => exact h.elim
  | _ => exact h.elim
theorem two_ints {a b : Value} {i j : Int} (ha : RepV a (.int i)) (hb : RepV b (.int j)) : ∃ t u, a = .int i t ∧ b = .int j u := by
  obtain ⟨t, rfl⟩ := ha.int; obtain ⟨u, rfl⟩ := hb.int; exact ⟨t, u, rfl, rfl⟩
theorem bop_ok {op : Bop} {pop : Operator} {a b : Value} {x y : V} {Q : PV} (S : StH C H s) (ha : RepV a x) (hb : RepV b y) (ho : trOp pop = some op) (hw : bopW op x y H Q) :
    wpAny C.M A (binaryOp pop a b) (PE C H s Q) NoE s := by
  cases pop <;> simp only [trOp, Option.some.injEq, reduceCtorEq] at ho <;> subst ho
  case Add =>
    cases x with
    | int x => cases y with
      | int y =>
        obtain ⟨t, rfl⟩ := ha.int; obtain ⟨u, rfl⟩ := hb.int
        exact P.add_int (PE.int S hw _)
      | _ => exact hw.elim
    | ref p => cases y with
      | ref q =>
        cases ha.ref; cases hb.ref
        replace hw : addL p q H Q := hw
        unfold addL at hw
        split at hw
        case h_2 => exact hw.elim
        rename_i xs hx
        split at hw
        · rename_i ys hy
          obtain ⟨vs, n, l1, r1, _⟩ := S.rep _ _ hx
          obtain ⟨us, n', l2, r2, _⟩ := S.rep _ _ hy
          have z : (vs.toArray ++ us.toArray) = (vs ++ us).toArray := by simp
          refine P.add_list l1 l2 (by rw [z]; exact PE.list S (r1.append r2) (by rw [List.length_append]; have := hw.1; (first | lia | omega)) hw.2) (by have := sizeLine_lim hw.1; simp only [List.size_toArray, r1.length, r2.length]; (first | lia | omega))
        · exact hw.elim
      | _ => exact hw.elim
    | _ => exact hw.elim
  case Sub =>
    obtain ⟨i, j, rfl, rfl, q⟩ := int2_get hw; obtain ⟨t, u, rfl, rfl⟩ := two_ints ha hb; exact P.sub_int (PE.int S q _)
  case Mult =>
    cases x with
    | int x => cases y with
      | int y =>
        obtain ⟨t, rfl⟩ := ha.int; obtain ⟨u, rfl⟩ := hb.int
        exact P.mul_int (PE.int S hw.2 _) (mulOk hw.1)
      | _ => exact hw.elim
    | _ => exact hw.elim
  case Mod =>
    obtain ⟨x, y, rfl, rfl, hw⟩ := int2_get hw; obtain ⟨t, u, rfl, rfl⟩ := two_ints ha hb
    have e : x.fmod y = x % y := Int.fmod_eq_emod_of_nonneg _ (Int.le_of_lt hw.1)
    exact mod_int' (fun q => by rw [q] at hw; exact absurd hw.1 (by decide)) (by rw [e]; exact PE.int S hw.2 _)
  case FloorDiv =>
    obtain ⟨x, y, rfl, rfl, hw⟩ := int2_get hw; obtain ⟨t, u, rfl, rfl⟩ := two_ints ha hb
    have e : x.fdiv y = x / y := Int.fdiv_eq_ediv_of_nonneg _ (Int.le_of_lt hw.1)
    exact floordiv_int (fun q => by rw [q] at hw; exact absurd hw.1 (by decide)) (by rw [e]; exact PE.int S hw.2.2 _) (.inl (PyProof.noPylong_small (by have := hw.1; have := hw.2.1; (first | lia | omega))))
theorem neg_ok {a : Value} {x : V} {Q : PV} (S : StH C H s) (ha : RepV a x) (hw : negW x H Q) : wpAny C.M A (unaryOp .USub a) (PE C H s Q) NoE s := by
  unfold negW at hw
  split at hw
  · obtain ⟨t, rfl⟩ := ha.int
    exact P.neg_int (PE.int S hw _)
  · exact hw.elim
theorem truthy_ok {a : Value} {x : V} {Q : Bool → Prop} (S : StH C H s) (ha : RepV a x) (hw : truthW x H Q) : wpAny C.M A (truthy a) (fun r s' => s' = s ∧ Q r) NoE s := by
  unfold truthW at hw
  split at hw
  · cases ha.none; exact fun _ _ _ => ⟨rfl, hw⟩
  · cases ha.bool; exact wpAny_truthy_bool ⟨rfl, hw⟩
  · rename_i i
    obtain ⟨t, rfl⟩ := ha.int
    refine P.truthy_int ⟨rfl, ?_⟩
    have : (i != 0) = decide (i ≠ 0) := by by_cases q : i = 0 <;> simp [q]
    rw [this]; exact hw
  · exact hw.elim
theorem is_ok {a b : Value} {x y : V} {Q : Bool → Prop} (S : StH C H s) (ha : RepV a x) (hb : RepV b y) (hw : isW x y H Q) : wpAny C.M A (isSame a b) (fun r s' => s' = s ∧ Q r) NoE s := by
  have plain : ∀ {r : Bool}, plainIs a b = true → (a == b) = r → Q r → wpAny C.M A (isSame a b) (fun r s' => s' = s ∧ Q r) NoE s := fun hp e q => wpAny_isSame_plain hp ⟨rfl, e ▸ q⟩
  cases x with
  | ref p => cases y with
    | ref q =>
      cases ha.ref; cases hb.ref
      by_cases e : p = q
      · subst e; exact wpAny_isSame_ref_self ⟨rfl, hw.1 rfl⟩
      · obtain ⟨n, i, k⟩ := hw.2 e
        obtain ⟨oq, hq⟩ := Option.isSome_iff_exists.mp i
        obtain ⟨ob, lq⟩ := (S.rep _ _ hq).look
        cases hp : H p with
        | none => rw [hp] at n; exact n.elim
        | some op =>
          rw [hp] at n
          have r := S.rep _ _ hp
          cases op with
          | tup => exact n.elim
          | list xs => obtain ⟨vs, k', l, _⟩ := r; exact wpAny_isSame_ref_other e l lq (by show Value.type "list" ≠ _; decide) ⟨rfl, k⟩
          | ro xs => obtain ⟨vs, ⟨o, l, c, _⟩, _⟩ := r; exact wpAny_isSame_ref_other e l lq (by rw [c]; decide) ⟨rfl, k⟩
          | inst c fs => obtain ⟨Ca, d, es, n', _, l, _⟩ := r; exact wpAny_isSame_ref_other e l lq (by intro z; cases z) ⟨rfl, k⟩
          | dict es => obtain ⟨_, _, _, ps, l, _⟩ := r; exact wpAny_isSame_ref_other e l lq (by intro z; cases z) ⟨rfl, k⟩
    | none => cases ha.ref; cases hb.none; exact plain rfl rfl hw
    | bool c => cases ha.ref; cases hb.bool; exact plain rfl rfl hw
    | _ => exact hw.elim
  | none => cases y with
    | none => cases ha.none; cases hb.none; exact plain rfl rfl hw
    | bool c => cases ha.none; cases hb.bool; exact plain rfl rfl hw
    | ref q => cases ha.none; cases hb.ref; exact plain rfl rfl hw
    | int i => cases ha.none; obtain ⟨t, rfl⟩ := hb.int; exact plain rfl rfl hw
    | flt i => cases ha.none; obtain ⟨t, rfl⟩ := hb.flt; exact plain rfl rfl hw
    | _ => exact hw.elim
  | bool c => cases y with
    | none => cases ha.bool; cases hb.none; exact plain rfl rfl hw
    | bool c' =>
      cases ha.bool; cases hb.bool
      refine plain rfl ?_ hw
      cases c <;> cases c' <;> rfl
    | ref q => cases ha.bool; cases hb.ref; exact plain rfl rfl hw
    | _ => exact hw.elim
  | int i => cases y with
    | none => obtain ⟨t, rfl⟩ := ha.int; cases hb.none; exact plain rfl rfl hw
    | bool c => obtain ⟨t, rfl⟩ := ha.int; cases hb.bool; exact plain rfl rfl hw
    | ref c => obtain ⟨t, rfl⟩ := ha.int; cases hb.ref; exact plain rfl rfl hw
    | _ => exact hw.elim
  | flt i => cases y with
    | none => obtain ⟨t, rfl⟩ := ha.flt; cases hb.none; exact plain rfl rfl hw
    | _ => exact hw.elim
  | str i => cases y with
    | none => obtain ⟨x, t, rfl, _⟩ := ha.str; cases hb.none; exact plain rfl rfl hw
    | _ => exact hw.elim
theorem strIs.inj {k l : Nat} {x : Str} (a : strIs k x) (b : strIs l x) : k = l := by unfold strIs at a b; rw [a] at b; exact Option.some.inj b
theorem strIs.uniq {k : Nat} {x y : Str} (a : strIs k x) (b : strIs k y) : x = y := by
  have key : ∀ z : Str, strIs k z → (k = 0 ∧ z = "put") ∨ (k = 1 ∧ z = "del") := fun z e => by
    unfold strIs coreStrs at e
    simp only [List.lookup] at e
    split at e
    · rename_i q; exact .inl ⟨(Option.some.inj e).symm, beq_iff_eq.mp q⟩
    · split at e
      · rename_i q; exact .inr ⟨(Option.some.inj e).symm, beq_iff_eq.mp q⟩
      · cases e
  rcases key x a with ⟨e1, e2⟩ | ⟨e1, e2⟩ <;> rcases key y b with ⟨e3, e4⟩ | ⟨e3, e4⟩
  · rw [e2, e4]
  · rw [e1] at e3; cases e3
  · rw [e1] at e3; cases e3
  · rw [e2, e4]
end ML
namespace ML
open PySem PySem.W PySem.Calls PyProof.Rows
variable {C : Cfg} {Φ : Orac} {c : Ctx} {H H' H'' H1 : Heap} {s s' s1 : Shared} {h h' h'' : PHeap} {A : Around} {env : Env} {m : Loc}
noncomputable def PEs (C : Cfg) (n : Nat) (H : Heap) (s : Shared) (Q : List V → Heap → Prop) : List Value → Shared → Prop := fun vs s' => ∃ xs H', vs.length = n ∧ All2 RepV vs xs ∧ StH C H' s' ∧ Ext H s.heap H' s'.heap ∧ Q xs H'
noncomputable def PT (C : Cfg) (H : Heap) (s : Shared) (Q : Bool → Heap → Prop) : Bool → Shared → Prop := fun r s' => ∃ H', StH C H' s' ∧ Ext H s.heap H' s'.heap ∧ Q r H'
theorem PE.ext {Q : PV} {v : Value} (x : Ext H s.heap H1 s1.heap) (y : PE C H1 s1 Q v s') : PE C H s Q v s' := let ⟨mv, H', r, S, e, q⟩ := y; ⟨mv, H', r, S, x.trans e, q⟩
theorem PT.ext {Q : Bool → Heap → Prop} {v : Bool} (x : Ext H s.heap H1 s1.heap) (y : PT C H1 s1 Q v s') : PT C H s Q v s' := let ⟨H', S, e, q⟩ := y; ⟨H', S, x.trans e, q⟩
structure At (C : Cfg) (c : Ctx) (env : Env) (A : Around) (m : Loc) (H : Heap) (s : Shared) : Prop where
  eo : EnvOk c env
  ao : AOk A c.top
  S : StH C H s
  N : EnvSt C c env m H s.heap
theorem At.on (a : At C c env A m H s) (S : StH C H1 s1) (x : Ext H s.heap H1 s1.heap) : At C c env A m H1 s1 := ⟨a.eo, a.ao, S, a.N.ext x⟩
noncomputable def SndE (C : Cfg) (Φ : Orac) (c : Ctx) (e : Expr) (me : E) : Prop :=
  ∀ {env : Env} {A : Around} {m : Loc} {H : Heap} {s : Shared} {Q : PV}, At C c env A m H s → wpE Φ me m H Q → wpAny C.M A (eval e env) (PE C H s Q) NoE s
noncomputable def SndT (C : Cfg) (Φ : Orac) (c : Ctx) (e : Expr) (me : E) : Prop :=
  ∀ {env : Env} {A : Around} {m : Loc} {H : Heap} {s : Shared} {Q : Bool → Heap → Prop}, At C c env A m H s → wpT Φ me m H Q → wpAny C.M A (isTrue e env (eval e env)) (PT C H s Q) NoE s
noncomputable def SndEs (C : Cfg) (Φ : Orac) (c : Ctx) (es : List Expr) (mes : List E) : Prop :=
  ∀ {env : Env} {A : Around} {m : Loc} {H : Heap} {s : Shared} {Q : List V → Heap → Prop} {pos : Pos}, At C c env A m H s → wpEs Φ mes m H Q → wpAny C.M A (spliced (backTo pos (starEach es env))) (PEs C es.length H s Q) NoE s
theorem SndE.then {e : Expr} {me : E} {Q : PV} {R : Value → Shared → Prop} (h : SndE C Φ c e me) (a : At C c env A m H s) (hw : wpE Φ me m H Q)
    (k : ∀ v s1 x H1, RepV v x → At C c env A m H1 s1 → Ext H s.heap H1 s1.heap → Q x H1 → R v s1) : wpAny C.M A (eval e env) R NoE s :=
  wpAny_mono (h a hw) (fun v s1 ⟨x, H1, r, S1, E1, q⟩ => k v s1 x H1 r (a.on S1 E1) E1 q) fun _ _ f => f.elim
theorem SndT.then {e : Expr} {me : E} {Q : Bool → Heap → Prop} {R : Bool → Shared → Prop} (h : SndT C Φ c e me) (a : At C c env A m H s) (hw : wpT Φ me m H Q)
    (k : ∀ r s1 H1, At C c env A m H1 s1 → Ext H s.heap H1 s1.heap → Q r H1 → R r s1) : wpAny C.M A (isTrue e env (eval e env)) R NoE s :=
  wpAny_mono (h a hw) (fun r s1 ⟨H1, S1, E1, q⟩ => k r s1 H1 (a.on S1 E1) E1 q) fun _ _ f => f.elim
theorem SndEs.then {es : List Expr} {mes : List E} {pos : Pos} {Q : List V → Heap → Prop} {R : List Value → Shared → Prop} (h : SndEs C Φ c es mes) (a : At C c env A m H s) (hw : wpEs Φ mes m H Q)
    (k : ∀ vs s1 xs H1, vs.length = es.length → All2 RepV vs xs → At C c env A m H1 s1 → Ext H s.heap H1 s1.heap → Q xs H1 → R vs s1) : wpAny C.M A (spliced (backTo pos (starEach es env))) R NoE s :=
  wpAny_mono (h a hw) (fun v s1 ⟨x, H1, l, r, S1, E1, q⟩ => k v s1 x H1 l r (a.on S1 E1) E1 q) fun _ _ f => f.elim
theorem wpAny_noE {α : Type} {t : Sem α} {R : α → Shared → Prop} {E' : Value → Shared → Prop} (h : wpAny C.M A t R NoE s) : wpAny C.M A t R E' s := wpAny_mono h (fun _ _ z => z) fun _ _ f => f.elim
theorem wpAny_ext {α : Type} {t : Sem α} {R : α → Shared → Prop} {R' : α → Shared → Prop} (h : wpAny C.M A t R NoE s) (k : ∀ v s', R v s' → R' v s') : wpAny C.M A t R' NoE s := wpAny_mono h k fun _ _ f => f.elim
theorem name_ok {x : Str} {pos : Pos} {k : NameKind} {i : Nat} {Q : PV} (hd : (x == ("__debug__" : Str)) = false) (hcd : (x == ("__classdict__" : Str)) = false) (hk : c.kinds.lookup x = some k) (hv : isVarKind k = true) (hi : c.ν.lookup x = some i)
    (a : At C c env A m H s) (hw : wpE Φ (.var i) m H Q) : wpAny C.M A (eval (.Name x pos) env) (PE C H s Q) NoE s := by
  have hw' : varW m[i]? fun v => Q v H := hw
  unfold varW at hw'
  split at hw'
  · rename_i v hm
    refine wpAny_Name ?_ hd
    have fin : ∀ ov, OptRep ov (m[i]?.join) → ∃ pv, ov = some pv ∧ RepV pv v := fun ov r => by
      rw [hm] at r
      cases ov with
      | none => exact r.elim
      | some pv => exact ⟨pv, rfl, r⟩
    cases k with
    | «local» =>
      obtain ⟨mm, hn, hm'⟩ := a.N.ns
      obtain ⟨pv, e, r⟩ := fin _ (hm' x i hi hk)
      exact wpAny_loadName_local a.eo.kind (a.eo.kloc _ hk) hn e (PE.at a.S r hw')
    | cell =>
      obtain ⟨ca, ov, e1, e2, e3⟩ := a.N.cells x i hi (.inl hk)
      obtain ⟨pv, rfl, r⟩ := fin _ e3
      exact wpAny_loadName_cell a.eo.kind (a.eo.kcell _ hk) e1 e2 (PE.at a.S r hw')
    | free =>
      obtain ⟨ca, ov, e1, e2, e3⟩ := a.N.cells x i hi (.inr hk)
      obtain ⟨pv, rfl, r⟩ := fin _ e3
      rcases a.eo.kfree _ hk with q | q
      · exact wpAny_loadName_free a.eo.kind q e1 e2 (PE.at a.S r hw') hcd
      · exact wpAny_loadName_cell a.eo.kind q e1 e2 (PE.at a.S r hw')
    | _ => cases hv
  · exact hw'.elim
theorem lit_ok {k : Const} {n : Nat} {pos : Pos} {e : E} {Q : PV} (hs : c.tab.sts = coreStrs) (ht : trConst c k = some e) (a : At C c env A m H s) (hw : wpE Φ e m H Q) : wpAny C.M A (eval (.Constant k n pos) env) (PE C H s Q) NoE s := by
  cases k with
  | none => cases ht; simp only [w_var, w_lit, w_bop, w_neg, w_cmp, w_cmp2, w_and, w_or, w_not, w_call, w_meth, w_new, w_prim, w_attr, w_idx, w_slice, w_list, w_tup, w_comp] at hw; exact wpAny_Constant_none (PE.at (mv := .none) a.S trivial hw)
  | bool b => cases ht; simp only [w_var, w_lit, w_bop, w_neg, w_cmp, w_cmp2, w_and, w_or, w_not, w_call, w_meth, w_new, w_prim, w_attr, w_idx, w_slice, w_list, w_tup, w_comp] at hw; exact wpAny_Constant_bool (PE.at (mv := .bool b) a.S rfl hw)
  | int i => cases ht; simp only [w_var, w_lit, w_bop, w_neg, w_cmp, w_cmp2, w_and, w_or, w_not, w_call, w_meth, w_new, w_prim, w_attr, w_idx, w_slice, w_list, w_tup, w_comp] at hw; exact wpAny_Constant_int (PE.int a.S hw _)
  | float b => cases ht; simp only [w_var, w_lit, w_bop, w_neg, w_cmp, w_cmp2, w_and, w_or, w_not, w_call, w_meth, w_new, w_prim, w_attr, w_idx, w_slice, w_list, w_tup, w_comp] at hw; exact fun _ _ _ => PE.here (v := .float b s.toks) (mv := .flt b) a.S rfl hw (s.toks + 1)
  | str x =>
    unfold trConst at ht
    rw [hs] at ht
    obtain ⟨k, e1, rfl⟩ := Option.map_eq_some_iff.mp ht
    simp only [w_var, w_lit, w_bop, w_neg, w_cmp, w_cmp2, w_and, w_or, w_not, w_call, w_meth, w_new, w_prim, w_attr, w_idx, w_slice, w_list, w_tup, w_comp] at hw
    exact wpAny_Constant_str (PE.here (v := .str x s.toks) (mv := .str k) a.S e1 hw _)
  | _ => cases ht
section
variable {e e1 e2 e3 : Expr} {a1 a2 a3 : E} {pos : Pos} {Q : PV}
theorem binop_ok {pop : Operator} {op : Bop} (h1 : SndE C Φ c e1 a1) (h2 : SndE C Φ c e2 a2) (ho : trOp pop = some op) (a : At C c env A m H s) (hw : wpE Φ (.bop op a1 a2) m H Q) :
    wpAny C.M A (eval (.BinOp e1 pop e2 pos) env) (PE C H s Q) NoE s := by
  simp only [w_var, w_lit, w_bop, w_neg, w_cmp, w_cmp2, w_and, w_or, w_not, w_call, w_meth, w_new, w_prim, w_attr, w_idx, w_slice, w_list, w_tup, w_comp] at hw
  refine wpAny_BinOp (h1.then a hw fun v s1 x H1 r1 a1 x1 q1 => h2.then a1 q1 fun v' s2 y H2 r2 a2 x2 q2 => ?_)
  cases hr : x with
  | ref p =>
    subst hr
    exact wpAny_ext (bop_ok a2.S r1 r2 ho q2) fun _ _ z => PE.ext (x1.trans x2) z
  | _ => subst hr; exact wpAny_ext (bop_ok a2.S r1 r2 ho q2) fun _ _ z => PE.ext (x1.trans x2) z
theorem usub_ok (h1 : SndE C Φ c e1 a1) (a : At C c env A m H s) (hw : wpE Φ (.neg a1) m H Q) : wpAny C.M A (eval (.UnaryOp .USub e1 pos) env) (PE C H s Q) NoE s := by
  simp only [w_var, w_lit, w_bop, w_neg, w_cmp, w_cmp2, w_and, w_or, w_not, w_call, w_meth, w_new, w_prim, w_attr, w_idx, w_slice, w_list, w_tup, w_comp] at hw
  exact wpAny_UnaryOp (h1.then a hw fun v s1 x H1 r1 a1 x1 q1 => wpAny_ext (neg_ok a1.S r1 q1) fun _ _ z => PE.ext x1 z)
theorem not_ok (h1 : SndE C Φ c e1 a1) (a : At C c env A m H s) (hw : wpE Φ (.not a1) m H Q) : wpAny C.M A (eval (.UnaryOp .Not e1 pos) env) (PE C H s Q) NoE s := by
  simp only [w_var, w_lit, w_bop, w_neg, w_cmp, w_cmp2, w_and, w_or, w_not, w_call, w_meth, w_new, w_prim, w_attr, w_idx, w_slice, w_list, w_tup, w_comp] at hw
  refine wpAny_UnaryOp (h1.then a hw fun v s1 x H1 r1 a1 x1 q1 => not_value (wpAny_ext (truthy_ok a1.S r1 q1) fun r s2 z => ?_))
  obtain ⟨rfl, z⟩ := z
  exact PE.ext x1 (PE.at (mv := .bool (!r)) a1.S rfl z)
theorem tnot_ok {Q : Bool → Heap → Prop} (h1 : SndT C Φ c e1 a1) (a : At C c env A m H s) (hw : wpT Φ (.not a1) m H Q) : wpAny C.M A (isTrue (.UnaryOp .Not e1 pos) env (eval (.UnaryOp .Not e1 pos) env)) (PT C H s Q) NoE s := by
  simp only [t_not, t_and, t_or, t_cmp, t_cmp2] at hw
  exact wpAny_isTrue_Not (wpAny_ext (h1 a hw) fun r s1 ⟨H1, S1, x1, q1⟩ => ⟨H1, S1, x1, q1⟩)
theorem tval_ok {Q : Bool → Heap → Prop} (h1 : SndE C Φ c e a1) (a : At C c env A m H s) (hw : wpE Φ a1 m H fun v H => truthW v H fun r => Q r H)
    (he : isTrue e env (eval e env) = (do let v ← eval e env; standAt e.pos; holding [v] (truthy v))) : wpAny C.M A (isTrue e env (eval e env)) (PT C H s Q) NoE s := by
  rw [he]
  refine wpAny_bind (h1.then a hw fun v s1 x H1 r1 a1 x1 q1 => wpAny_bind (wpAny_standAt (wpAny_holding (wpAny_ext (truthy_ok a1.S r1 q1) fun r s2 z => ?_))))
  obtain ⟨rfl, z⟩ := z
  exact ⟨H1, a1.S, x1, z⟩
theorem items_nil : SndEs C Φ c [] [] := fun {env A m H s Q pos} a hw => by
  simp only [w_enil, w_econs] at hw
  exact wpAny_items_nil ⟨[], H, rfl, .nil, a.S, Ext.refl, hw⟩
theorem items_cons {es : List Expr} {mes : List E} (hs : isStar e = false) (h1 : SndE C Φ c e a1) (h2 : SndEs C Φ c es mes) : SndEs C Φ c (e :: es) (a1 :: mes) := fun {env A m H s Q pos} a hw => by
  simp only [w_enil, w_econs] at hw
  refine wpAny_items_cons (h1.then a hw fun v s1 x H1 r1 a1 x1 q1 => h2.then a1 q1 fun vs s2 xs H2 l2 r2 a2 x2 q2 => ⟨x :: xs, H2, congrArg (· + 1) l2, .cons r1 r2, a2.S, x1.trans x2, q2⟩) ?_
  cases e <;> first | rfl | cases hs
theorem items_ok {f : Expr → Option E} (hf : ∀ e me, f e = some me → SndE C Φ c e me) : ∀ {es : List Expr} {mes : List E}, trEs f es = some mes → SndEs C Φ c es mes := by
  have key : ∀ {es : List Expr} {mes : List E}, (es.any isStar) = false → mapO f es = some mes → SndEs C Φ c es mes := by
    intro es
    induction es with
    | nil => intro mes _ h; cases h; exact items_nil
    | cons e es ih =>
      intro mes hs h
      simp only [List.any_cons, Bool.or_eq_false_iff] at hs
      unfold mapO at h
      split at h
      · rename_i b hb
        split at h
        · rename_i bs hbs; cases h; exact items_cons hs.1 (hf _ _ hb) (ih hs.2 hbs)
        · cases h
      · cases h
  intro es mes h
  unfold trEs at h
  split at h
  · cases h
  · rename_i q
    simp only [Bool.or_eq_true, not_or, Bool.not_eq_true] at q
    exact key q.1 h
theorem trEs_len {f : Expr → Option E} {es : List Expr} {mes : List E} (h : trEs f es = some mes) : es.length ≤ 20 := by
  unfold trEs at h
  split at h
  · cases h
  · rename_i q
    simp only [Bool.or_eq_true, not_or, Bool.not_eq_true, Bool.not_eq_false, Bool.not_eq_eq_eq_not, Bool.not_true, decide_eq_false_iff_not, Nat.not_le] at q
    simpa using q.2
theorem fits20 {n : Nat} (h : n ≤ 20) : n ≤ sizeLine := by rw [sizeLine_eq]; (first | lia | omega)
theorem list_ok {es : List Expr} {mes : List E} (hl : es.length ≤ 20) (h : SndEs C Φ c es mes) (a : At C c env A m H s) (hw : wpE Φ (.list mes) m H Q) : wpAny C.M A (eval (.List es pos) env) (PE C H s Q) NoE s := by
  simp only [w_var, w_lit, w_bop, w_neg, w_cmp, w_cmp2, w_and, w_or, w_not, w_call, w_meth, w_new, w_prim, w_attr, w_idx, w_slice, w_list, w_tup, w_comp] at hw
  exact wpAny_List (h.then a hw fun vs s1 xs H1 l r1 a1 x1 q1 => ⟨fits20 (l ▸ hl), PE.ext x1 (PE.list a1.S r1 (by rw [← r1.length, l]; unfold lim; (first | lia | omega)) q1)⟩)
theorem tuple_ok {es : List Expr} {mes : List E} {k : Nat} (hl : es.length ≤ 20) (h : SndEs C Φ c es mes) (a : At C c env A m H s) (hw : wpE Φ (.tup mes) m H Q) : wpAny C.M A (eval (.Tuple es k pos) env) (PE C H s Q) NoE s := by
  simp only [w_var, w_lit, w_bop, w_neg, w_cmp, w_cmp2, w_and, w_or, w_not, w_call, w_meth, w_new, w_prim, w_attr, w_idx, w_slice, w_list, w_tup, w_comp] at hw
  exact wpAny_Tuple (h.then a hw fun vs s1 xs H1 l r1 a1 x1 q1 => ⟨fits20 (l ▸ hl), PE.ext x1 (PE.tup a1.S r1 (by rw [← r1.length, l]; unfold lim; (first | lia | omega)) q1)⟩)
end
end ML
namespace ML
open PySem PySem.W PySem.Calls PyProof.Rows
variable {C : Cfg} {Φ : Orac} {c : Ctx} {H H' H'' H1 : Heap} {s s' s1 : Shared} {h h' h'' : PHeap} {A : Around} {env : Env} {m : Loc}
theorem attrIs.inj {i j : Nat} {x : Str} (a : attrIs i x) (b : attrIs j x) : i = j := by unfold attrIs at a b; rw [a] at b; exact Option.some.inj b
theorem attrIs.mem {i : Nat} {x : Str} (a : attrIs i x) : (x, i) ∈ coreAts := by
  unfold attrIs at a
  generalize coreAts = l at a
  induction l with
  | nil => cases a
  | cons p r ih =>
    obtain ⟨y, j⟩ := p
    simp only [List.lookup] at a
    split at a
    · rename_i q; cases a; rw [beq_iff_eq.mp q]; exact .head _
    · exact .tail _ (ih a)
theorem attrIs.uniq {i : Nat} {x y : Str} (a : attrIs i x) (b : attrIs i y) : x = y := by
  have key : ∀ p ∈ coreAts, (coreAts.map Prod.fst)[p.2]? = some p.1 := by decide
  exact Option.some.inj ((key _ a.mem).symm.trans (key _ b.mem))
theorem isStr_iff {x y : Str} {t : Tok} : (Value.str y t).isStr x = true ↔ y = x := by
  show (y == x) = true ↔ _
  exact beq_iff_eq
theorem find_field {i : Nat} {x : Str} {v : V} (hx : attrIs i x) : ∀ {es : List DictEntry} {fs : List (Nat × V)}, All2 RepE es fs → fs.lookup i = some v → ∃ e, es.find? (·.key.isStr x) = some e ∧ RepV e.val v
  | _, _, .nil, e => by cases e
  | en :: es, (j, w) :: fs, .cons r rs, e => by
    refine absG fun Cg hCg => ?_
    obtain ⟨y, t, k1, k2, k3⟩ := r
    refine hCg ?_; clear hCg
    dsimp only at k2 k3
    simp only [List.lookup] at e
    by_cases q : i = j
    · subst q
      simp only [beq_self_eq_true] at e
      cases e
      have : (en.key.isStr x) = true := by rw [k1]; exact isStr_iff.mpr (k2.uniq hx)
      exact ⟨en, by simp only [List.find?, this], k3⟩
    · rw [show (i == j) = false from beq_eq_false_iff_ne.mpr q] at e
      have : ¬ (en.key.isStr x) = true := by rw [k1]; exact fun z => q (hx.inj (isStr_iff.mp z ▸ k2))
      refine absG fun Cg hCg => ?_
      obtain ⟨e', a, b⟩ := find_field hx rs e
      refine hCg ?_; clear hCg
      exact ⟨e', by simp only [List.find?, Bool.eq_false_iff.mpr this]; exact a, b⟩
theorem find_none {x : Str} (hx : coreAts.lookup x = none) : ∀ {es : List DictEntry} {fs : List (Nat × V)}, All2 RepE es fs → es.find? (·.key.isStr x) = none
  | _, _, .nil => rfl
  | en :: es, (j, w) :: fs, .cons r rs => by
    refine absG fun Cg hCg => ?_
    obtain ⟨y, t, k1, k2, k3⟩ := r
    have : ¬ (en.key.isStr x) = true := by rw [k1]; exact fun z => by rw [isStr_iff.mp z] at k2; unfold attrIs at k2; rw [hx] at k2; cases k2
    refine hCg ?_; clear hCg
    simp only [List.find?, Bool.eq_false_iff.mpr this]; exact find_none hx rs
theorem no_refKey {es : List DictEntry} {fs : List (Nat × V)} (h : All2 RepE es fs) : es.any (·.refKey) = false := by
  induction h with
  | nil => rfl
  | cons r rs ih =>
    obtain ⟨y, t, k1, _⟩ := r
    rw [List.any_cons, ih, Bool.or_false]
    unfold DictEntry.refKey; rw [k1]
noncomputable def putF (hs : Int) (key pv : Value) : Option DictEntry → DictEntry
  | some e => { e with val := pv }
  | none => ⟨hs, key, pv⟩
theorem put_field {i : Nat} {x : Str} {v : V} {pv : Value} {hs : Int} {tk : Tok} (hx : attrIs i x) (hv : RepV pv v) : ∀ {es : List DictEntry} {fs : List (Nat × V)}, All2 RepE es fs →
    All2 RepE (nsPutIn x.cps.size x.cps.toList (putF hs (.str x tk) pv) es).1 (setF fs i v)
  | _, _, .nil => .cons ⟨x, tk, rfl, hx, hv⟩ .nil
  | en :: es, (j, w) :: fs, .cons r rs => by
    have r' := r
    refine absG fun Cg hCg => ?_
    obtain ⟨y, t, k1, k2, k3⟩ := r
    refine hCg ?_; clear hCg
    dsimp only at k2 k3
    unfold nsPutIn setF
    rw [Value.isStrByCps_eq]
    by_cases q : j = i
    · subst q
      have : (en.key.isStr x) = true := by rw [k1]; exact isStr_iff.mpr (k2.uniq hx)
      rw [if_pos this, if_pos rfl]
      exact .cons ⟨y, t, k1, k2, hv⟩ rs
    · have : ¬ (en.key.isStr x) = true := by rw [k1]; exact fun z => q ((hx.inj (isStr_iff.mp z ▸ k2)).symm)
      rw [if_neg this, if_neg q]
      exact .cons r' (put_field hx hv rs)
structure ClsOk (C : Cfg) (ci : Nat) (Ca : Addr) : Prop where
  ga : findIn C.K (.ref Ca) "__getattribute__" = some (some (.builtin "object.__getattribute__"))
  gt : findIn C.K (.ref Ca) "__getattr__" = some none
  sa : findIn C.K (.ref Ca) "__setattr__" = some (some (.builtin "object.__setattr__"))
  hd : (clsIn C.K Ca).any (·.hasDict) = true
  ats : ∀ i x, attrIs i x → findIn C.K (.ref Ca) x = some none
  pl : plainOver C.K Ca = true
  makes : makesIn C.K Ca = true
structure MethOk (C : Cfg) (x : Str) (Ca fa : Addr) : Prop where
  find : findIn C.K (.ref Ca) x = some (some (.ref fa))
  fn : typeIn C.K (.ref fa) = some (.type "function")
  no : coreAts.lookup x = none
noncomputable def bltNames : List Str := ["range", "len", "abs", "min", "max", "sum", "sorted", "list", "type", "int", "tuple", "bool", "isinstance", "float", "zip", "all"]
noncomputable def BmOk (C : Cfg) : Prop := ∃ bm ob, nsIn C.K mainGlobals "__builtins__" = some (some (.ref bm)) ∧ bm ≠ builtinsNs ∧ C.K.lookup bm = some ob ∧ ob.cls = .type "module" ∧ ob.dict = some builtinsNs ∧ ob.data = .plain
structure Cfg.Ok (C : Cfg) : Prop where
  blts : ∀ x, x ∈ bltNames → nsIn C.K mainGlobals x = some none
  nodbg : C.tab.fns.lookup ("__debug__" : Str) = none ∧ C.tab.cls.lookup ("__debug__" : Str) = none
  ats : C.tab.ats = coreAts
  hasCls : ∀ x ci, C.tab.cls.lookup x = some ci → ∃ Ca, C.clsA.lookup ci = some Ca
  sts : C.tab.sts = coreStrs
  X : C.K.In C.h₀
  T : TopRead C.p C.loose C.mg C.mb C.h₀
  cls : ∀ ci Ca, C.clsA.lookup ci = some Ca → ClsOk C ci Ca
  keep : ∀ f fa, C.fnA.lookup f = some fa → fnIn C.K fa = true
  fns : ∀ x f fa, C.tab.fns.lookup x = some f → C.fnA.lookup f = some fa → nsIn C.K mainGlobals x = some (some (.ref fa))
  mts : ∀ x f fa Ca, C.tab.mts.lookup x = some f → C.fnA.lookup f = some fa → C.clsA.lookup (methCls f) = some Ca → MethOk C x Ca fa
  clsN : ∀ x ci Ca, C.tab.cls.lookup x = some ci → C.clsA.lookup ci = some Ca → nsIn C.K mainGlobals x = some (some (.ref Ca))
  inits : ∀ ci Ca fa, C.clsA.lookup ci = some Ca → C.fnA.lookup ci = some fa → findIn C.K (.ref Ca) "__init__" = some (some (.ref fa)) ∧ typeIn C.K (.ref fa) = some (.type "function")
  have_ : ∀ f l, C.tab.lv.lookup f = some l → ∃ fa, C.fnA.lookup f = some fa
  bm : BmOk C
section
variable {a : Addr} {ci : Nat} {fs : List (Nat × V)} {i : Nat} {x : Str}
theorem StH.X (O : C.Ok) (S : StH C H s) : C.K.In s.heap := O.X.keeps S.base
theorem handed_rep {pv : Value} {v : V} (r : RepV pv v) : handedIn pv = true := by cases pv <;> first | rfl | (cases v <;> exact r.elim)
theorem getAttr_ok {Q : PV} {b : Bool} {v : V} (O : C.Ok) (S : StH C H s) (ho : H a = some (.inst ci fs)) (hx : attrIs i x) (hl : fs.lookup i = some v) (q : Q v H) :
    wpAny C.M A (getAttr (.ref a) x b) (PE C H s Q) NoE s := by
  refine absG fun Cg hCg => ?_
  obtain ⟨Ca, d, es, n, hc, e1, e2, r⟩ := S.rep _ _ ho
  have K := O.cls _ _ hc
  obtain ⟨cd, hcd, hdict⟩ := any_some K.hd
  obtain ⟨en, f1, f2⟩ := find_field hx r hl
  have I : InstAt s.heap a (instObj Ca d) Ca (some { cls := .type "dict", data := .dict es n }) := ⟨e1, rfl, rfl, e2⟩
  refine hCg ?_; clear hCg
  refine get_value (S.X O) I K.ga (v := en.val) ?_ (handed_rep f2) (PE.here S f2 q _)
  unfold findObj
  rw [hcd, Option.bind_some, K.ats _ _ hx]
  simp only [Option.bind_some]
  have : W.ownOf cd (some { cls := .type "dict", data := .dict es n }) x = some (some en.val) := by
    unfold W.ownOf lookIn
    rw [if_pos hdict]
    dsimp only
    rw [f1]
  rw [this]; rfl
theorem setAttr_ok {Q : Heap → Prop} {pv : Value} {v : V} (O : C.Ok) (S : StH C H s) (ho : H a = some (.inst ci fs)) (hx : attrIs i x) (hv : RepV pv v) (hn : fs.length ≤ 100) (q : Q (H.upd a (.inst ci (setF fs i v)))) :
    wpAny C.M A (setAttr (.ref a) x pv) (fun _ s' => ∃ H', StH C H' s' ∧ Ext H s.heap H' s'.heap ∧ Q H') NoE s := by
  refine absG fun Cg hCg => ?_
  obtain ⟨Ca, d, es, n, hc, e1, e2, r⟩ := S.rep _ _ ho
  have K := O.cls _ _ hc
  obtain ⟨cd, hcd, hdict⟩ := any_some K.hd
  have I : InstAt s.heap a (instObj Ca d) Ca (some { cls := .type "dict", data := .dict es n }) := ⟨e1, rfl, rfl, e2⟩
  have XX := S.X O
  refine hCg ?_; clear hCg
  refine set_plain XX I K.sa ?_
  refine osa_open (s := { s with toks := s.toks + 1 }) (show C.K.In s.heap from S.X O) I K.pl (r := none) (by unfold takerIn; rw [K.ats _ _ hx]; rfl) fun b => ?_
  have D : ({ s with toks := s.toks + 1 } : Shared).heap.get? d = some { cls := .type "dict", data := .dict es n } := e2
  have hp := put_field (hs := PyData.keyHash C.w.params x) (tk := s.toks + 1) hx hv r
  generalize hq : nsPutIn x.cps.size x.cps.toList (putF (PyData.keyHash C.w.params x) (.str x (s.toks + 1)) pv) es.toList = pr at hp
  obtain ⟨es', added⟩ := pr
  have hput : Obj.putName x (PyData.keyHash C.w.params x) (.str x (s.toks + 1)) pv { cls := .type "dict", data := .dict es n } = { cls := .type "dict", data := .dict es'.toArray (if added then n + 1 else n) } := by
    show (match nsPutIn x.cps.size x.cps.toList (putF (PyData.keyHash C.w.params x) (.str x (s.toks + 1)) pv) es.toList with
      | (es', false) => (⟨.type "dict", none, .dict es'.toArray n, #[]⟩ : Obj)
      | (es', true) => ⟨.type "dict", none, .dict es'.toArray (n + 1), #[]⟩) = _
    rw [hq]
    cases added <;> rfl
  have hlen : es'.length ≤ 101 := by
    rw [hp.length]
    have : ∀ fs : List (Nat × V), (setF fs i v).length ≤ fs.length + 1 := by
      intro fs
      induction fs with
      | nil => exact Nat.le_refl _
      | cons p r ih =>
        unfold setF
        split
        · exact Nat.le_succ _
        · exact Nat.succ_le_succ ih
    exact Nat.le_trans (this fs) (by (first | lia | omega))
  have U := S.field (f := Obj.putName x (PyData.keyHash C.w.params x) (.str x (s.toks + 1)) pv) (tk := s.toks + 1 + 1) (fs' := setF fs i v) ho e1 rfl (fun o z => by rw [e2] at z; cases z; rw [hput]; rfl)
    ⟨Ca, d, es'.toArray, _, hc, (Heap.get?_update_other _ _ (fun z => by have := S.hid d ⟨a, ci, fs, _, ho, e1, rfl⟩; rw [z, ho] at this; cases this)).trans e1, by rw [Heap.get?_update_self _ e2 (by rw [hput]; rfl), hput], by simpa using hp⟩
  refine wpAny_bind (wpAny_pure (wpAny_bind (wpAny_bind (wpAny_loadPart e1 (wpAny_bind ((looks_clsIn (h := ({ s with toks := s.toks + 1 } : Shared).heap) XX hcd).here ?_))))))
  rw [hdict]
  refine wpAny_pure (a := some d) (wpAny_bind (wpAny_pure (wpAny_bind ?_)))
  unfold nsSet
  refine wpAny_bind (wpAny_bind (wpAny_askSetting (wpAny_pure (wpAny_bind (wpAny_mkText (wpAny_bind (wpAny_loadPart D ?_)))))))
  dsimp only
  have hnr : es.any (·.refKey) = false := by rw [← Array.any_toList]; exact no_refKey r
  rw [aRefKeyMayBeTheName_at, hnr, Bool.and_false]
  refine wpAny_updatePart D ?_
  have hup : (s.heap.update d (Obj.putName x (PyData.keyHash C.w.params x) (.str x (s.toks + 1)) pv)).get? d = some { cls := .type "dict", data := .dict es'.toArray (if added then n + 1 else n) } := by
    rw [Heap.get?_update_self _ e2 (by rw [hput]; rfl), hput]
  refine wpAny_bind (wpAny_lookBehind (o := { cls := .type "dict", data := .dict es'.toArray (if added then n + 1 else n) }) hup (pastItsLine_dict (by rw [List.size_toArray, sizeLine_eq]; (first | lia | omega))) ?_)
  exact wpAny_pure ⟨_, U.1, U.2, q⟩
end
end ML
namespace ML
open PySem PySem.W PySem.Calls PyProof.Rows
variable {C : Cfg} {Φ : Orac} {c : Ctx} {H H' H'' H1 : Heap} {s s' s1 : Shared} {h h' h'' : PHeap} {A : Around} {env : Env} {m : Loc}
theorem idx_ok {o i : Value} {x y : V} {Q : V → Prop} {value slice : Expr} (S : StH C H s) (ho : RepV o x) (hi : RepV i y) (hw : idxW x y H Q)
    (hs : ∀ o i, subscripted slice false o i = operate [o, i] (getItem o i)) : wpAny C.M A (subscriptTail value slice o i) (PE C H s fun v H' => H' = H ∧ Q v) NoE s := by
  unfold idxW at hw
  split at hw
  · rename_i p k
    cases ho.ref
    obtain ⟨t, rfl⟩ := hi.int
    split at hw
    · rename_i ob hp
      have r := S.rep _ _ hp
      cases ob with
      | list ys =>
        obtain ⟨h0, h1, xs, v, e1, e2, q⟩ := hw
        have hk : k < 2 ^ 63 := Int.lt_trans h1 (by decide)
        cases e1
        obtain ⟨vs, n, l, rr, _⟩ := r
        obtain ⟨pv, e3, e4⟩ := rr.get e2
        exact tail_any l.isList.typeIs slot_list_getitem.lookup (wpAny_getItem_list l.isList h0 hk (by simpa using e3) (PE.at S e4 ⟨rfl, q⟩)) (hs _ _)
      | ro ys =>
        obtain ⟨h0, h1, xs, v, e1, e2, q⟩ := hw
        have hk : k < 2 ^ 63 := Int.lt_trans h1 (by decide)
        cases e1
        obtain ⟨vs, l, rr, _⟩ := r
        obtain ⟨pv, e3, e4⟩ := rr.get e2
        exact tail_any l.typeIs slot_list_getitem.lookup (wpAny_getItem_list l h0 hk (by simpa using e3) (PE.at S e4 ⟨rfl, q⟩)) (hs _ _)
      | tup ys =>
        obtain ⟨h0, h1, xs, v, e1, e2, q⟩ := hw
        have hk : k < 2 ^ 63 := Int.lt_trans h1 (by decide)
        cases e1
        obtain ⟨vs, l, rr, _⟩ := r
        obtain ⟨pv, e3, e4⟩ := rr.get e2
        have hj : seqIndex? k vs.length = some k.toNat := by
          have : k.toNat < vs.length := by
            cases hz : decide (k.toNat < vs.length) with
            | true => exact of_decide_eq_true hz
            | false => rw [List.getElem?_eq_none (by have := of_decide_eq_false hz; (first | lia | omega))] at e3; cases e3
          unfold seqIndex?
          have hk0 : ¬ k < 0 := by (first | lia | omega)
          have hk1 : (decide (0 ≤ k) && decide (k < (vs.length : Int))) = true := by rw [decide_eq_true h0, Bool.true_and]; exact decide_eq_true (by (first | lia | omega))
          simp only [hk0, if_false]
          rw [if_pos hk1]
        exact tail_any l.typeIs slot_tuple_getitem.lookup (getItem_tuple l (by (first | lia | omega)) hk (by simpa using hj) (by simpa using e3) (PE.at S e4 ⟨rfl, q⟩)) (hs _ _)
      | inst => obtain ⟨_, _, _, _, e1, _⟩ := hw; cases e1
      | dict es =>
        obtain ⟨v, hl, _⟩ := hw
        obtain ⟨rfl, _⟩ := r
        cases hl
    · exact hw.elim
  · exact hw.elim
theorem cl_nat (n L : Nat) : max 0 (min (n : Int) (L : Int)) = ((min n L : Nat) : Int) := by
  rcases Nat.le_total n L with h | h
  · rw [Nat.min_eq_left h, Int.min_eq_left (Int.ofNat_le.mpr h), Int.max_eq_right (Int.natCast_nonneg _)]
  · rw [Nat.min_eq_right h, Int.min_eq_right (Int.ofNat_le.mpr h), Int.max_eq_right (Int.natCast_nonneg _)]
theorem drop_min {α : Type} {l : List α} {n : Nat} : l.drop (min n l.length) = l.drop n := by
  rcases Nat.le_total n l.length with h | h
  · rw [Nat.min_eq_left h]
  · rw [Nat.min_eq_right h, List.drop_eq_nil_of_le (Nat.le_refl _), List.drop_eq_nil_of_le h]
theorem pick_cut (items : List Value) (lo hi : Option Int) (h1 : nonneg? lo) (h2 : nonneg? hi) : slicePick items.toArray lo hi none = (cut items lo hi).toArray := by
  have key : ∀ (a b : Nat), sliceBounds lo hi none items.length = ((a : Int), (b : Int), 1) → slicePick items.toArray lo hi none = ((items.drop a).take (b - a)).toArray := by
    intro a b e
    unfold slicePick
    rw [show items.toArray.size = items.length by simp, e]
    simp only [sliceRange_one, pick_run]
  have ng : ∀ n : Nat, ¬ (n : Int) < 0 := fun n => Int.not_lt.mpr (Int.natCast_nonneg n)
  cases lo with
  | none =>
    cases hi with
    | none => rw [slicePick_all]; rfl
    | some j =>
      obtain ⟨m, rfl⟩ := Int.eq_ofNat_of_zero_le (show 0 ≤ j from h2)
      rw [key 0 (min m items.length) (by simp only [sliceBounds, Option.getD_none, ng, if_false, show (1 : Int) > 0 by decide, if_true, cl_nat]; rfl)]
      rw [List.drop_zero, Nat.sub_zero, ← List.take_eq_take_min]; rfl
  | some i =>
    obtain ⟨n, rfl⟩ := Int.eq_ofNat_of_zero_le (show 0 ≤ i from h1)
    cases hi with
    | none =>
      rw [key (min n items.length) items.length (by simp only [sliceBounds, Option.getD_none, ng, if_false, show (1 : Int) > 0 by decide, if_true, cl_nat])]
      rw [List.take_of_length_le (by rw [List.length_drop]; exact Nat.le_refl _), drop_min]; rfl
    | some j =>
      obtain ⟨m, rfl⟩ := Int.eq_ofNat_of_zero_le (show 0 ≤ j from h2)
      rw [key (min n items.length) (min m items.length) (by simp only [sliceBounds, Option.getD_none, ng, if_false, show (1 : Int) > 0 by decide, if_true, cl_nat])]
      show _ = ((items.take m).drop n).toArray
      rw [List.drop_take, drop_min]
      rcases Nat.le_total n items.length with h | h
      · rw [Nat.min_eq_left h, ← Nat.sub_min_sub_right, ← List.length_drop, ← List.take_eq_take_min]
      · rw [List.drop_eq_nil_of_le h, List.take_nil, List.take_nil]
theorem cut_len {α : Type} (xs : List α) (lo hi : Option Int) : (cut xs lo hi).length ≤ xs.length := by
  unfold ML.cut
  cases lo <;> cases hi <;> dsimp only
  · exact Nat.le_refl _
  · rw [List.length_take]; exact Nat.min_le_right _ _
  · rw [List.length_drop]; exact Nat.sub_le _ _
  · rw [List.length_drop, List.length_take]; exact Nat.le_trans (Nat.sub_le _ _) (Nat.min_le_right _ _)
theorem All2.cut {α β : Type} {R : α → β → Prop} {l : List α} {m : List β} (r : All2 R l m) (lo hi : Option Int) : All2 R (cut l lo hi) (cut m lo hi) := by
  unfold ML.cut
  cases lo <;> cases hi <;> dsimp only <;> first | exact r | exact r.take _ | exact r.drop _ | exact (r.take _).drop _
theorem slice_ok {value : Expr} {lo hi : Option Expr} {p pos : Pos} {mo : E} {ml mh : Option E} {Q : PV} {f : Expr → Option E} (hf : ∀ e me, f e = some me → SndE C Φ c e me) (hv : SndE C Φ c value mo) (hl : trO f lo = some ml) (hh : trO f hi = some mh)
    (a : At C c env A m H s) (hw : wpE Φ (.slice mo ml mh) m H Q) : wpAny C.M A (eval (.Subscript value (.Slice lo hi none p) pos) env) (PE C H s Q) NoE s := by
  have part : ∀ {x : Option Expr} {mx : Option E} {H : Heap} {s : Shared} {Q : Option V → Heap → Prop} {R : Value → Shared → Prop}, trO f x = some mx → At C c env A m H s → wpO Φ mx m H Q →
      (∀ v s1 ov H1, (match ov with | some y => RepV v y | none => v = .none) → At C c env A m H1 s1 → Ext H s.heap H1 s1.heap → Q ov H1 → R v s1) → wpAny C.M A (evalPart x env) R NoE s := by
    intro x mx H s Q R ht a hw k
    cases x with
    | none =>
      cases ht
      simp only [w_onone, w_osome] at hw
      rw [evalPart_none]
      exact wpAny_pure (k .none s none H rfl a Ext.refl hw)
    | some e =>
      obtain ⟨me, e1, rfl⟩ := Option.map_eq_some_iff.mp ht
      simp only [w_onone, w_osome] at hw
      rw [evalPart_some]
      exact SndE.then (hf _ _ e1) a hw fun v s1 x H1 r a1 x1 q => k v s1 (some x) H1 r a1 x1 q
  simp only [w_var, w_lit, w_bop, w_neg, w_cmp, w_cmp2, w_and, w_or, w_not, w_call, w_meth, w_new, w_prim, w_attr, w_idx, w_slice, w_list, w_tup, w_comp] at hw
  refine Subscript_ (hv.then a hw fun o s1 x H1 r1 a1 x1 q1 => wpAny_Slice (part hl a1 q1 fun l s2 ol H2 r2 a2 x2 q2 => part hh a2 q2 fun u s3 ou H3 r3 a3 x3 q3 => ?_))
  rw [evalPart_none]
  refine wpAny_pure ?_
  have isPart : ∀ {v : Value} {ov : Option V} {k : Option Int}, (match ov with | some y => RepV v y | none => v = .none) → part? ov = some k → IsPart v k := by
    intro v ov k r e
    cases ov with
    | none => cases e; cases (show v = .none from r); exact .none
    | some y =>
      cases y with
      | int i => cases e; obtain ⟨t, rfl⟩ := RepV.int r; exact .int i t
      | _ => cases e
  unfold sliceW at q3
  split at q3
  · rename_i pp lk hk e1 e2
    cases r1.ref
    obtain ⟨S4, x4⟩ := a3.S.push { cls := .type "slice", data := .fields #[l, u, .none] } s3.toks
    have xx := (x1.trans x2).trans (x3.trans x4)
    have hsl : ∀ o i : Value, subscripted (.Slice lo hi none p) false o i = operate [i, o] (getItem o i) := fun _ _ => rfl
    have fin : ∀ {vs : List Value} {xs : List V}, nonneg? lk → nonneg? hk → xs.length ≤ lim → allocW (.list (cut xs lk hk)) H3 Q → s3.heap.IsList pp vs.toArray → All2 RepV vs xs → wpAny C.M A (subscriptTail value (.Slice lo hi none p) (.ref pp) (.ref s3.heap.objs.size)) (PE C H s Q) NoE
        { s3 with heap := s3.heap.push { cls := .type "slice", data := .fields #[l, u, .none] } } := by
      intro vs xs n1 n2 hz q hl rr
      refine tail_any (hl.push _).typeIs slot_list_getitem.lookup (wpAny_getItem_list_slice (hl.push _) (Heap.IsSliceOf.new ..) (isPart r2 e1) (isPart r3 e2) .none (by simp) ?_ (by simp only [List.size_toArray, rr.length]; exact sizeLine_lim hz)) (hsl _ _)
      rw [pick_cut _ _ _ n1 n2]
      exact PE.ext xx (PE.list S4 (rr.cut _ _) (Nat.le_trans (cut_len _ _ _) (by (first | lia | omega))) q)
    cases hp : H3 pp with
    | none => rw [hp] at q3; exact q3.elim
    | some ob =>
      rw [hp] at q3
      have r := a3.S.rep _ _ hp
      cases ob with
      | list ys => obtain ⟨n1, n2, xs, e, hz, q⟩ := q3; cases e; obtain ⟨vs, n, l', rr, _⟩ := r; exact fin n1 n2 hz q l'.isList rr
      | ro ys => obtain ⟨n1, n2, xs, e, hz, q⟩ := q3; cases e; obtain ⟨vs, l', rr, _⟩ := r; exact fin n1 n2 hz q l' rr
      | _ => obtain ⟨_, _, xs, e, _⟩ := q3; cases e
  · exact q3.elim
end ML
namespace ML
open PySem PySem.W PySem.Calls PyProof.Rows
variable {C : Cfg} {Φ : Orac} {c : Ctx} {H H' H'' H1 : Heap} {s s' s1 : Shared} {h h' h'' : PHeap} {A : Around} {env : Env} {m : Loc}
noncomputable def CR (C : Cfg) (H : Heap) (s : Shared) (Q : PV) : Result → Shared → Prop := fun r s' => ∃ v, r = .ok (.ret v) ∧ PE C H s Q v s'
noncomputable def phi (C : Cfg) : Orac := fun f vs H Q => ∀ (A : Around) (s : Shared) (pvs : List Value) (l : Nat) (fa : Addr), C.tab.lv.lookup f = some l → C.fnA.lookup f = some fa → A.handled = none → A.depth + 4 * l + 3 ≤ 900 → A.units + 20 * l + 10 ≤ 9000 → StH C H s → All2 RepV pvs vs →
  codeAny C.M A (.call (.ref fa) ⟨pvs, []⟩) (CR C H s Q) s
theorem AOk.le {n k : Nat} (a : AOk A n) (h : k ≤ n) : AOk A k := ⟨a.hd, by have := a.dp; (first | lia | omega), by have := a.un; (first | lia | omega)⟩
theorem star_each {e : Expr} {es : List Expr} (h : isStar e = false) : starEach (e :: es) env = (false, eval e env) :: starEach es env := by cases e <;> first | rfl | cases h
theorem args_ok {es : List Expr} {mes : List E} {pos : Pos} {f : Value} {Q : List V → Heap → Prop} (hs : es.any isStar = false) (h : SndEs C Φ c es mes) (a : At C c env A m H s) (hw : wpEs Φ mes m H Q) :
    wpAny C.M A (evalArgs f true (backTo pos (starEach es env)) []) (fun x s1 => x.kw = [] ∧ PEs C es.length H s Q x.pos s1) NoE s := by
  have hh := h (pos := pos) a hw
  cases es with
  | nil =>
    unfold evalArgs
    show wpAny C.M A (spliced [] >>= _) _ _ s
    refine wpAny_bind (wpAny_ext hh fun vs s1 z => ?_)
    refine wpAny_holding ?_
    exact wpAny_bind (wpAny_pure (wpAny_bind (wpAny_pure (wpAny_pure ⟨rfl, z⟩))))
  | cons e es =>
    have he : starEach (e :: es) env = (false, eval e env) :: starEach es env := by
      simp only [List.any_cons, Bool.or_eq_false_iff] at hs
      exact star_each hs.1
    rw [he] at hh ⊢
    exact evalArgs_plain (wpAny_ext hh fun vs s1 z => ⟨rfl, z⟩)
theorem any_star {pos : Pos} : ∀ {es : List Expr}, es.any isStar = false → (backTo pos (starEach es env)).any (·.1) = false
  | [], _ => rfl
  | e :: es, hs => by
    simp only [List.any_cons, Bool.or_eq_false_iff] at hs
    have he : starEach (e :: es) env = (false, eval e env) :: starEach es env := star_each hs.1
    rw [he]
    show (false || (backTo pos (starEach es env)).any (·.1)) = false
    rw [any_star hs.2]; rfl
theorem glob_ok {x : Str} {pos : Pos} {v : Value} {R : Value → Shared → Prop} (O : C.Ok) (a : At C c env A m H s) (hx : c.isGlob x = true) (hd : (x == ("__debug__" : Str)) = false) (e : nsIn C.K mainGlobals x = some (some v)) (k : R v s) :
    wpAny C.M A (eval (.Name x pos) env) R NoE s := by
  have T := O.T.keeps a.S.base
  have hk : c.kinds.lookup x = some .globalImplicit := by simpa [Ctx.isGlob] using hx
  exact Name_function_global a.eo.kind (a.eo.kglob _ hk) (loadGlobal_global (env := env) (a.eo.glob ▸ T.g) (mg_of O.X O.T.g e) k) hd
theorem blt_ok {x : Str} {pos : Pos} {v : Value} {R : Value → Shared → Prop} (O : C.Ok) (a : At C c env A m H s) (hx : c.isGlob x = true) (hd : (x == ("__debug__" : Str)) = false) (e : nsIn C.K mainGlobals x = some none) (hv : bootBuiltins x = some v) (hn : x ≠ "__name__") (k : R v s) :
    wpAny C.M A (eval (.Name x pos) env) R NoE s := by
  have T := O.T.keeps a.S.base
  have hk : c.kinds.lookup x = some .globalImplicit := by simpa [Ctx.isGlob] using hx
  exact Name_function_global a.eo.kind (a.eo.kglob _ hk) (loadGlobal_builtin (env := env) (a.eo.glob ▸ T.g) (mg_none_of O.X O.T.g e) (a.eo.blts ▸ T.b) ((O.T.builtins x hn).trans hv) k) hd
theorem keep_fn {fa : Addr} (h : fnIn C.K fa = true) : keepIn C.K (.ref fa) = true := by
  unfold fnIn at h
  unfold keepIn
  split at h
  · rename_i e; simp only [e]
  · cases h
theorem call_ok {x : Str} {p pos : Pos} {es : List Expr} {mes : List E} {f l : Nat} {Q : PV} (O : C.Ok) (hs : es.any isStar = false) (h : SndEs C (phi C) c es mes) (hx : c.isGlob x = true) (hd : (x == ("__debug__" : Str)) = false)
    (e : C.tab.fns.lookup x = some f) (hl : C.tab.lv.lookup f = some l) (hlt : l < c.top)
    (a : At C c env A m H s) (hw : wpE (phi C) (.call f mes) m H Q) : wpAny C.M A (eval (.Call (.Name x p) es [] pos) env) (PE C H s Q) NoE s := by
  simp only [w_var, w_lit, w_bop, w_neg, w_cmp, w_cmp2, w_and, w_or, w_not, w_call, w_meth, w_new, w_prim, w_attr, w_idx, w_slice, w_list, w_tup, w_comp] at hw
  obtain ⟨fa, hf⟩ := O.have_ _ _ hl
  refine wpAny_Call_NameR (glob_ok O a hx hd (O.fns _ _ _ e hf) ?_)
  refine callWith_of (P := C.K.In) (by rw [any_star hs]; rfl) (keeps_K (keep_fn (O.keep _ _ hf))) (wpAny_ext (args_ok hs h a hw) fun x s1 z => ?_)
  refine absG fun Cg hCg => ?_
  obtain ⟨hkw, xs, H1, _, r, S1, x1, q⟩ := z
  refine hCg ?_; clear hCg
  rw [hkw]
  refine ⟨S1.X O, ?_⟩
  exact wpAny_call (codeAny_mono (q A s1 x.pos l fa hl hf a.ao.hd (by have := a.ao.dp; (first | lia | omega)) (by have := a.ao.un; (first | lia | omega)) S1 r) fun r s2 z => by
    refine absG fun Cg hCg => ?_
    obtain ⟨v, rfl, z⟩ := z
    refine hCg ?_; clear hCg
    exact PE.ext x1 z)
theorem base_of {o : Expr} {name : Str} {w : Sem Value} (h : bareCall o = false) : attributeBase o name env w = w := by
  cases o with
  | Call f args kws p => cases f with
    | Name x q => cases args with
      | nil => cases kws with
        | nil => cases h
        | cons _ _ => rfl
      | cons _ _ => rfl
    | _ => rfl
  | _ => rfl
theorem meth_ok {o : Expr} {x : Str} {ap pos : Pos} {es : List Expr} {mo : E} {mes : List E} {f l : Nat} {Q : PV} (O : C.Ok) (hb : bareCall o = false) (hline : (ap.endLine == pos.line) = true) (hs : es.any isStar = false) (hn : es.length ≤ 20) (ho : SndE C (phi C) c o mo) (h : SndEs C (phi C) c es mes)
    (e : C.tab.mts.lookup x = some f) (hl : C.tab.lv.lookup f = some l) (hlt : l < c.top)
    (a : At C c env A m H s) (hw : wpE (phi C) (.meth f mo mes) m H Q) : wpAny C.M A (eval (.Call (.Attribute o x ap) es [] pos) env) (PE C H s Q) NoE s := by
  simp only [w_var, w_lit, w_bop, w_neg, w_cmp, w_cmp2, w_and, w_or, w_not, w_call, w_meth, w_new, w_prim, w_attr, w_idx, w_slice, w_list, w_tup, w_comp] at hw
  obtain ⟨fa, hf⟩ := O.have_ _ _ hl
  rw [arm_eval_Call, base_of hb]
  refine wpAny_bind (ho.then a hw fun ov s1 xo H1 r1 a1 x1 q1 => wpAny_bind (wpAny_standAt ?_))
  obtain ⟨hi, q1⟩ := q1
  cases xo with
  | ref p =>
    cases r1.ref
    unfold isInst at hi
    dsimp only at hi
    split at hi
    · rename_i ci fs hp
      subst hi
      refine absG fun Cg hCg => ?_
      obtain ⟨Ca, d, ents, n, hc, e1, e2, r⟩ := a1.S.rep _ _ hp
      have K := O.cls _ _ hc
      have MO := O.mts _ _ _ _ e hf hc
      have I : W.InstAt s1.heap p (instObj Ca d) Ca (some { cls := .type "dict", data := .dict ents n }) := ⟨e1, rfl, rfl, e2⟩
      refine hCg ?_; clear hCg
      have hform : methodCallForm (es.length + ([] : List Keyword).length) (backTo pos (starEach es env)) (backToKw pos (keywordEach [] env)) = true := by
        unfold methodCallForm
        have : (backTo pos (starEach es env)).all (fun x => !x.1) = true := by
          have := any_star (env := env) (pos := pos) hs
          rw [List.any_eq_false] at this
          rw [List.all_eq_true]
          intro y hy
          simpa using this y hy
        rw [this]
        show (true && true && decide (es.length + 0 + 0 < 30)) = true
        simp; (first | lia | omega)
      have hpos : methodCallPos true o env ap pos = pure pos := by unfold methodCallPos; simp [hline]
      unfold methodCall
      rw [hform]
      refine wpAny_bind (wpAny_holding (method_fn (a1.S.X O) I K.ga K.gt MO.find MO.fn ?_ ?_))
      · unfold shadowIn lookIn
        dsimp only
        rw [find_none MO.no r, no_refKey r]
        rfl
      · refine wpAny_bind (wpAny_of_eq hpos ?_)
        refine callWith_of (P := C.K.In) (by rw [any_star hs]; rfl) (keeps_K (keep_fn (O.keep _ _ hf))) (wpAny_ext (args_ok hs h a1 q1) fun x s2 z => ?_)
        refine absG fun Cg hCg => ?_
        obtain ⟨hkw, xs, H2, _, r2, S2, x2, q2⟩ := z
        refine hCg ?_; clear hCg
        rw [hkw]
        refine ⟨S2.X O, ?_⟩
        exact wpAny_call (codeAny_mono (q2 A s2 (.ref p :: x.pos) l fa hl hf a.ao.hd (by have := a.ao.dp; (first | lia | omega)) (by have := a.ao.un; (first | lia | omega)) S2 (.cons rfl r2)) fun r s3 z => by
          refine absG fun Cg hCg => ?_
          obtain ⟨v, rfl, z⟩ := z
          refine hCg ?_; clear hCg
          exact PE.ext (x1.trans x2) z)
    · exact hi.elim
  | _ => exact hi.elim
theorem weight_make {Ca : Addr} {vs : List Value} : (Code.builtin "type.__call__" ⟨.ref Ca :: vs, []⟩).weight = 1 := by
  show _ + _ + _ + _ = _
  rfl
theorem units_make {Ca : Addr} {vs : List Value} : (Code.builtin "type.__call__" ⟨.ref Ca :: vs, []⟩).cUnits = 1 := rfl
theorem new_ok {x : Str} {p pos : Pos} {es : List Expr} {mes : List E} {ci l : Nat} {Ca : Addr} {Q : PV} (O : C.Ok) (hs : es.any isStar = false) (h : SndEs C (phi C) c es mes) (hx : c.isGlob x = true) (hd : (x == ("__debug__" : Str)) = false)
    (e : C.tab.cls.lookup x = some ci) (hc : C.clsA.lookup ci = some Ca) (hl : C.tab.lv.lookup ci = some l) (hlt : l < c.top)
    (a : At C c env A m H s) (hw : wpE (phi C) (.new ci mes) m H Q) : wpAny C.M A (eval (.Call (.Name x p) es [] pos) env) (PE C H s Q) NoE s := by
  simp only [w_var, w_lit, w_bop, w_neg, w_cmp, w_cmp2, w_and, w_or, w_not, w_call, w_meth, w_new, w_prim, w_attr, w_idx, w_slice, w_list, w_tup, w_comp] at hw
  obtain ⟨fa, hf⟩ := O.have_ _ _ hl
  have K := O.cls _ _ hc
  obtain ⟨hi1, hi2⟩ := O.inits _ _ _ hc hf
  have hkeep : keepIn C.K (.ref Ca) = true := by
    have := K.makes
    unfold makesIn at this
    unfold keepIn
    split at this
    · rename_i q
      simp only [Bool.and_eq_true] at this
      simp only [q]
      exact this.1.2
    · cases this
  refine wpAny_Call_NameR (glob_ok O a hx hd (O.clsN _ _ _ e hc) ?_)
  refine callWith_of (P := C.K.In) (by rw [any_star hs]; rfl) (keeps_K hkeep) (wpAny_ext (args_ok hs h a hw) fun x s1 z => ?_)
  refine absG fun Cg hCg => ?_
  obtain ⟨hkw, xs, H1, _, r, S1, x1, q⟩ := z
  refine hCg ?_; clear hCg
  rw [hkw]
  have X1 := S1.X O
  refine ⟨X1, wpAny_call ?_⟩
  have mkS := S1.make (tk := s1.toks) hc
  have q' := q (s1.heap.objs.size + 1) (by
    cases z : H1 (s1.heap.objs.size + 1) with
    | none => rfl
    | some o => obtain ⟨ob, lk⟩ := (S1.rep _ _ z).look; exact absurd (Heap.lt_size lk) (Nat.not_lt.mpr (Nat.le_succ _)))
  refine absG fun Cg hCg => ?_
  obtain ⟨hh, g, dr, t, os⟩ := s1
  refine hCg ?_; clear hCg
  refine make_core (makes_of X1 K.makes) (looks_findIn X1 hi1) (fun self => bind_fn X1 self hi2) (.inl rfl) ?_
  have A' := q' (A.under (.builtin "type.__call__" ⟨.ref Ca :: ([] ++ x.pos), []⟩)) ⟨(hh.push emptyDict).push (instObj Ca hh.objs.size), g, dr, t, os⟩ (.ref (hh.objs.size + 1) :: x.pos) l fa hl hf a.ao.hd
    (by show A.depth + _ + 4 * l + 3 ≤ 900; rw [weight_make]; have := a.ao.dp; (first | lia | omega)) (by show A.units + _ + 20 * l + 10 ≤ 9000; rw [units_make]; have := a.ao.un; (first | lia | omega)) mkS.1 (.cons rfl r)
  refine codeAny_mono A' fun r s2 z => ?_
  refine absG fun Cg hCg => ?_
  obtain ⟨v, rfl, mv, H2, rv, S2, x2, rfl, q2⟩ := z
  refine hCg ?_; clear hCg
  cases rv.none
  exact ⟨rfl, .ref _, H2, rfl, S2, (x1.trans mkS.2).trans x2, q2⟩
end ML
namespace ML
open PySem PySem.W PySem.Calls PyProof.Rows PySem.SeqAt
variable {C : Cfg} {Φ : Orac} {c : Ctx} {H H' H'' H1 : Heap} {s s' s1 : Shared} {h h' h'' : PHeap} {A : Around} {env : Env} {m : Loc}
noncomputable def strOf : Nat → Str
  | 0 => "put"
  | _ => "del"
mutual
noncomputable def toDat : D → Dat
  | .none => .none
  | .int i => .int i
  | .str k => .str (strOf k)
  | .list ds => .list (toDats ds)
  | .tup ds => .tuple (toDats ds)
noncomputable def toDats : List D → List Dat
  | [] => []
  | d :: ds => toDat d :: toDats ds
end
noncomputable def Sd : Nat → D → Prop
  | _, .none => True
  | _, .int _ => True
  | _, .str k => k < 2
  | n + 1, .list ds => ∀ d ∈ ds, Sd n d
  | n + 1, .tup ds => ∀ d ∈ ds, Sd n d
  | 0, _ => False
theorem toDat_inj : ∀ (n : Nat) (d e : D) (k : Nat), Sd n d → Sd k e → (toDat d = toDat e ↔ d = e) := by
  have all : ∀ (n : Nat), (∀ d e k, Sd n d → Sd k e → (toDat d = toDat e ↔ d = e)) → ∀ (k : Nat) (ds es : List D), (∀ d ∈ ds, Sd n d) → (∀ d ∈ es, Sd k d) → (toDats ds = toDats es ↔ ds = es) := by
    intro n ih k ds
    induction ds with
    | nil => intro es _ _; cases es <;> simp [toDats]
    | cons d ds hi =>
      intro es h1 h2
      cases es with
      | nil => simp [toDats]
      | cons e es =>
        have q1 := ih d e k (h1 d (.head _)) (h2 e (.head _))
        have q2 := hi es (fun x hx => h1 x (.tail _ hx)) fun x hx => h2 x (.tail _ hx)
        simp only [toDats, List.cons.injEq, q1, q2]
  have sInj : ∀ a b : Nat, a < 2 → b < 2 → (strOf a = strOf b ↔ a = b) := by
    intro a b ha hb
    rcases Nat.lt_or_ge a 1 with x | x <;> rcases Nat.lt_or_ge b 1 with y | y
    · have e1 : a = 0 := by (first | lia | omega)
      have e2 : b = 0 := by (first | lia | omega)
      subst e1 e2; simp
    · have e1 : a = 0 := by (first | lia | omega)
      have e2 : b = 1 := by (first | lia | omega)
      subst e1 e2; exact ⟨fun q => absurd q (by decide), fun q => by cases q⟩
    · have e1 : a = 1 := by (first | lia | omega)
      have e2 : b = 0 := by (first | lia | omega)
      subst e1 e2; exact ⟨fun q => absurd q (by decide), fun q => by cases q⟩
    · have e1 : a = 1 := by (first | lia | omega)
      have e2 : b = 1 := by (first | lia | omega)
      subst e1 e2; simp
  intro n
  induction n with
  | zero =>
    intro d e k h1 h2
    cases d with
    | list ds => exact h1.elim
    | tup ds => exact h1.elim
    | str a =>
      cases e with
      | str b =>
        have h2 : b < 2 := by cases k <;> exact h2
        simp only [toDat, Dat.str.injEq, D.str.injEq]; exact sInj a b h1 h2
      | _ => simp [toDat]
    | _ => cases e <;> simp [toDat]
  | succ n ih =>
    intro d e k h1 h2
    cases d with
    | list ds =>
      cases e with
      | list es =>
        cases k with
        | zero => exact h2.elim
        | succ k => simp only [toDat, Dat.list.injEq, D.list.injEq]; exact all n ih k ds es h1 h2
      | _ => simp [toDat]
    | tup ds =>
      cases e with
      | tup es =>
        cases k with
        | zero => exact h2.elim
        | succ k => simp only [toDat, Dat.tuple.injEq, D.tup.injEq]; exact all n ih k ds es h1 h2
      | _ => simp [toDat]
    | str a =>
      cases e with
      | str b =>
        have h2 : b < 2 := by cases k <;> exact h2
        simp only [toDat, Dat.str.injEq, D.str.injEq]; exact sInj a b h1 h2
      | _ => simp [toDat]
    | _ => cases e <;> simp [toDat]
structure RdOk (h : PHeap) (n : Nat) (v : Value) (d : D) : Prop where
  rd : ∃ as, Reads h v (kqdP (toDat d)) as
  ok : kqdOk n (toDat d) = true
  sd : Sd n d
theorem strIs.lt {k : Nat} {x : Str} (h : strIs k x) : k < 2 ∧ x = strOf k := by
  unfold strIs coreStrs at h
  simp only [List.lookup] at h
  split at h
  · rename_i q; cases h; exact ⟨by decide, beq_iff_eq.mp q⟩
  · split at h
    · rename_i q; cases h; exact ⟨by decide, beq_iff_eq.mp q⟩
    · cases h
theorem rda_ok {n : Nat} {v : Value} {x : V} {d : D} (r : RepV v x) (h : RdA x d) : RdOk s.heap n v d := by
  cases x with
  | none =>
    cases r.none
    cases d <;> first | exact h.elim | skip
    exact ⟨⟨_, Reads.none⟩, by cases n <;> rfl, by cases n <;> trivial⟩
  | int i =>
    obtain ⟨t, rfl⟩ := r.int
    cases d <;> first | exact h.elim | skip
    cases (show i = _ from h)
    exact ⟨⟨_, Reads.int i t⟩, by cases n <;> rfl, by cases n <;> trivial⟩
  | str k =>
    refine absG fun Cg hCg => ?_
    obtain ⟨x, t, rfl, hx⟩ := r.str
    refine hCg ?_; clear hCg
    cases d <;> first | exact h.elim | skip
    cases (show k = _ from h)
    obtain ⟨h1, rfl⟩ := hx.lt
    refine ⟨⟨_, by rw [toDat, kqdP]; exact Reads.str _ t⟩, ?_, by cases n <;> exact h1⟩
    have : PyData.strOk (strOf k) = true := by
      rcases Nat.lt_or_ge k 1 with x | x
      · have e : k = 0 := by (first | lia | omega)
        subst e; decide +kernel
      · have e : k = 1 := by (first | lia | omega)
        subst e; decide +kernel
    cases n <;> exact this
  | _ => cases d <;> exact h.elim
theorem rd_ok (S : StH C H s) : ∀ (n : Nat) {v : Value} {x : V} {d : D}, RepV v x → Rd H n x d → RdOk s.heap n v d := by
  intro n
  induction n with
  | zero => intro v x d r h; exact rda_ok r h
  | succ n ih =>
    have all : ∀ {vs : List Value} {xs : List V} {ds : List D}, All2 RepV vs xs → All2 (Rd H n) xs ds → (∃ as, ReadsAll s.heap vs (kqdPs (toDats ds)) as) ∧ (∀ d ∈ toDats ds, kqdOk n d = true) ∧ ∀ d ∈ ds, Sd n d := by
      intro vs xs ds r
      induction r generalizing ds with
      | nil => intro h; cases h; exact ⟨⟨_, by rw [toDats, kqdPs]; exact ReadsAll.nil⟩, fun _ h => (by simp [toDats] at h), fun _ h => (by cases h)⟩
      | cons a _ hi =>
        intro h
        cases h with
        | cons b bs =>
          refine absG fun Cg hCg => ?_
          obtain ⟨⟨as, h1⟩, h2, h3⟩ := ih a b
          obtain ⟨⟨as', h4⟩, h5, h6⟩ := hi bs
          refine hCg ?_; clear hCg
          refine ⟨⟨_, by rw [toDats, kqdPs]; exact ReadsAll.cons h1 h4⟩, fun d hd => ?_, fun d hd => ?_⟩
          · rw [toDats] at hd
            cases hd with
            | head => exact h2
            | tail _ hd => exact h5 d hd
          · cases hd with
            | head => exact h3
            | tail _ hd => exact h6 d hd
    intro v x d r h
    rcases h with h | ⟨a, o, xs, ds, rfl, ho, hl, rfl, h⟩ | ⟨a, xs, ds, rfl, ho, rfl, h⟩
    · exact rda_ok r h
    · cases r.ref
      have fin : ∀ {vs : List Value}, s.heap.IsList a vs.toArray → All2 RepV vs xs → RdOk s.heap (n + 1) (.ref a) (.list ds) := by
        intro vs l rr
        refine absG fun Cg hCg => ?_
        obtain ⟨⟨as, h1⟩, h2, h3⟩ := all rr h
        obtain ⟨ob, l1, l2, k, l3⟩ := l
        refine hCg ?_; clear hCg
        refine ⟨⟨_, by rw [toDat, kqdP]; exact reads_list_at l1 l2 l3 (by simpa using h1)⟩, ?_, h3⟩
        rw [toDat]; simpa [kqdOk] using h2
      have rr := S.rep _ _ ho
      cases o with
      | list ys => cases hl; obtain ⟨vs, k, l, q, _⟩ := rr; exact fin l.isList q
      | ro ys => cases hl; obtain ⟨vs, l, q, _⟩ := rr; exact fin l q
      | _ => cases hl
    · cases r.ref
      refine absG fun Cg hCg => ?_
      obtain ⟨vs, ⟨ob, l1, l2, k, l3⟩, rr, _⟩ := S.rep _ _ ho
      obtain ⟨⟨as, h1⟩, h2, h3⟩ := all rr h
      refine hCg ?_; clear hCg
      refine ⟨⟨_, by rw [toDat, kqdP]; exact reads_tuple_at l1 l2 l3 (by simpa using h1)⟩, ?_, h3⟩
      rw [toDat]; simpa [kqdOk] using h2
theorem rd_shaped {n : Nat} {v : Value} {d : D} (r : RdOk h n v d) (hn : n ≤ 8) : SeqAt.shaped (kqdP (toDat d)) = true := by
  have l := kqd_lay n _ r.ok
  unfold SeqAt.shaped; rw [l.1, Bool.true_and]; exact decide_eq_true (by have := l.2; (first | lia | omega))
theorem rd_eqv {n : Nat} {v w : Value} {d e : D} (r : RdOk h n v d) (q : RdOk h n w e) : PyData.eqv (kqdP (toDat d)) (kqdP (toDat e)) = true ↔ d = e :=
  (kqd_eqv n _ _ n r.ok q.ok).trans (toDat_inj n d e n r.sd q.sd)
theorem eq_ok {a b : Value} {x y : V} {Q : Bool → Prop} (S : StH C H s) (ha : RepV a x) (hb : RepV b y) (hu : A.units + 64 < cLine) (hw : eqW x y H Q) :
    wpAny C.M A (compareOp .Eq a b) (PB C H s Q) NoE s ∧ wpAny C.M A (compareOp .NotEq a b) (PB C H s fun r => Q (!r)) NoE s := by
  rcases hw with ⟨da, db, h1, h2, k⟩ | ⟨p, q, ps, rfl, rfl, h1, h2, k⟩
  · have r1 := rd_ok S _ ha h1
    have r2 := rd_ok S _ hb h2
    obtain ⟨as, rd1⟩ := r1.rd
    obtain ⟨bs, rd2⟩ := r2.rd
    have kk := k _ (rd_eqv r1 r2)
    exact ⟨eq_dataH rd1 rd2 (rd_shaped r1 (by decide)) (rd_shaped r2 (by decide)) hu (PB.at S kk), ne_dataH rd1 rd2 (rd_shaped r1 (by decide)) (rd_shaped r2 (by decide)) hu (PB.at S (by rw [Bool.not_not]; exact kk))⟩
  · cases ha.ref; cases hb.ref
    refine absG fun Cg hCg => ?_
    obtain ⟨vs, n, l1, rr1, _⟩ := S.rep _ _ h1
    obtain ⟨us, n', l2, rr2, _⟩ := S.rep _ _ h2
    refine hCg ?_; clear hCg
    have e : vs = us := by
      have key : ∀ {l : List Value} {zs : List Nat}, All2 RepV l (zs.map V.ref) → l = zs.map Value.ref := by
        intro l zs
        induction zs generalizing l with
        | nil => intro h; cases h; rfl
        | cons z zs ih => intro h; cases h with | cons a r => rw [List.map_cons, ← ih r]; rw [a.ref]
      rw [key rr1, key rr2]
    subst e
    have hu' : A.units < cLine := by (first | lia | omega)
    have al : ∀ n : Nat, (List.range n).all (fun _ => true) = true := fun n => by simp
    refine ⟨RcAt.lists (e := fun _ => true) l1.isList l2.isList rfl hu' (fun j h1 h2 => EqAt.same _) _ _ _ _ ?_, RcNeAt.lists (e := fun _ => true) l1.isList l2.isList rfl hu' (fun j h1 h2 => EqAt.same _) _ _ _ _ ?_⟩
    · rw [al]; exact PB.at S k
    · rw [al]; exact PB.at S (by simpa using k)
end ML
namespace ML
open PySem PySem.W PySem.Calls PyProof.Rows PySem.SeqAt
variable {C : Cfg} {Φ : Orac} {c : Ctx} {H H' H'' H1 : Heap} {s s' s1 : Shared} {h h' h'' : PHeap} {A : Around} {env : Env} {m : Loc}
theorem PB.ext {Q : Bool → Prop} {v : Value} {x : PB C H s Q v s'} : PB C H s Q v s' := x
theorem AOk.room {n : Nat} (a : AOk A n) : A.units + 64 < cLine := by have := a.un; show _ < 9900; (first | lia | omega)
theorem ord_get {f : Int → Int → Bool} {x y : V} {Q : Bool → Prop} (h : ordW f x y Q) : ∃ i j, x = .int i ∧ y = .int j ∧ Q (f i j) := int2_get h
theorem eqs_get {fi : Int → Int → Bool} {fb : Bool → Bool → Bool} {fs : Nat → Nat → Bool} {Fl : Int → UInt64 → Prop} {x y : V} {E : Prop} {Q : Bool → Prop} (h : eqsW fi fb fs Fl x y E Q) :
    E ∨ (∃ i j, x = .int i ∧ y = .int j ∧ Q (fi i j)) ∨ (∃ i j, x = .bool i ∧ y = .bool j ∧ Q (fb i j)) ∨ (∃ i j, x = .str i ∧ y = .str j ∧ Q (fs i j))
    := by
  cases x with
  | int i => cases y with
    | int j => exact .inr (.inl ⟨i, j, rfl, rfl, h⟩)
    | _ => exact .inl h
  | bool i => cases y with
    | bool j => exact .inr (.inr (.inl ⟨i, j, rfl, rfl, h⟩))
    | _ => exact .inl h
  | str i => cases y with
    | str j => exact .inr (.inr (.inr ⟨i, j, rfl, rfl, h⟩))
    | _ => exact .inl h
  | _ => exact .inl h
theorem str_same {z z' : Str} {i j : Nat} (hz : strIs i z) (hz' : strIs j z') : (z.cps.toList == z'.cps.toList) = decide (i = j) := by
  by_cases q : i = j
  · subst q; rw [hz.uniq hz']; simp
  · rw [decide_eq_false q]
    refine beq_eq_false_iff_ne.mpr fun w => q ?_
    have : z = z' := by cases z; cases z'; simp only [Str.mk.injEq]; exact Array.ext' w
    subst this; exact hz.inj hz'
theorem dec_ne (i j : Int) : (i != j) = decide (i ≠ j) := by by_cases q : i = j <;> simp [q]
theorem dec_eq (i j : Int) : (i == j) = decide (i = j) := by by_cases q : i = j <;> simp [q]
section
variable {a b : Value} {x y : V} {Q : Bool → Prop}
theorem cmp_lt (S : StH C H s) (ha : RepV a x) (hb : RepV b y) (hw : cmpW .lt x y H Q) : wpAny C.M A (compareOp .Lt a b) (PB C H s Q) NoE s := by
  obtain ⟨i, j, rfl, rfl, q⟩ := ord_get hw; obtain ⟨t, u, rfl, rfl⟩ := two_ints ha hb; exact P.lt_int (PB.at S q)
theorem cmp_le (S : StH C H s) (ha : RepV a x) (hb : RepV b y) (hw : cmpW .le x y H Q) : wpAny C.M A (compareOp .LtE a b) (PB C H s Q) NoE s := by
  obtain ⟨i, j, rfl, rfl, q⟩ := ord_get hw; obtain ⟨t, u, rfl, rfl⟩ := two_ints ha hb; exact P.le_int (PB.at S q)
theorem cmp_ge (S : StH C H s) (ha : RepV a x) (hb : RepV b y) (hw : cmpW .ge x y H Q) : wpAny C.M A (compareOp .GtE a b) (PB C H s Q) NoE s := by
  obtain ⟨i, j, rfl, rfl, q⟩ := ord_get hw; obtain ⟨t, u, rfl, rfl⟩ := two_ints ha hb; exact P.ge_int (PB.at S q)
theorem cmp_gt (S : StH C H s) (ha : RepV a x) (hb : RepV b y) (hw : cmpW .gt x y H Q) : wpAny C.M A (compareOp .Gt a b) (PB C H s Q) NoE s := by
  obtain ⟨i, j, rfl, rfl, q⟩ := ord_get hw; obtain ⟨t, u, rfl, rfl⟩ := two_ints ha hb; exact P.gt_int (PB.at S q)
theorem cmp_eq (S : StH C H s) (ha : RepV a x) (hb : RepV b y) (hu : A.units + 64 < cLine) (hw : cmpW .eq x y H Q) : wpAny C.M A (compareOp .Eq a b) (PB C H s Q) NoE s := by
  rcases eqs_get (Fl := fun _ _ => False) hw with q | ⟨i, j, rfl, rfl, q⟩ | ⟨i, j, rfl, rfl, q⟩ | ⟨i, j, rfl, rfl, q⟩
  · exact (eq_ok S ha hb hu q).1
  · obtain ⟨t, u, rfl, rfl⟩ := two_ints ha hb; exact P.eq_int (PB.at S (by rw [dec_eq]; exact q))
  · cases ha.bool; cases hb.bool
    exact RcAt.bool_bool i j _ _ _ _ (PB.at S (by rw [show (i == j) = decide (i = j) by cases i <;> cases j <;> rfl]; exact q))
  · obtain ⟨z, t, rfl, hz⟩ := ha.str; obtain ⟨z', u, rfl, hz'⟩ := hb.str
    exact P.eq_str (PB.at S (by rw [str_same hz hz']; exact q))
theorem cmp_ne (S : StH C H s) (ha : RepV a x) (hb : RepV b y) (hu : A.units + 64 < cLine) (hw : cmpW .ne x y H Q) : wpAny C.M A (compareOp .NotEq a b) (PB C H s Q) NoE s := by
  have fin : eqW x y H (fun r => Q (!r)) → wpAny C.M A (compareOp .NotEq a b) (PB C H s Q) NoE s := fun hw => wpAny_ext (eq_ok (A := A) (Q := fun r => Q (!r)) S ha hb hu hw).2 fun v s' ⟨r, e, z1, z2, z3⟩ => ⟨r, e, z1, z2, by have z3 : Q (!!r) := z3; rwa [Bool.not_not] at z3⟩
  rcases eqs_get (Fl := fun x b => eqW (.int x) (.flt b) H fun r => Q (!r)) hw with q | ⟨i, j, rfl, rfl, q⟩ | ⟨i, j, rfl, rfl, q⟩ | ⟨i, j, rfl, rfl, q⟩
  · exact fin q
  · obtain ⟨t, u, rfl, rfl⟩ := two_ints ha hb; exact P.ne_int (PB.at S (by rw [dec_ne]; exact q))
  · cases ha.bool; cases hb.bool
    exact RcNeAt.bool_bool i j _ _ _ _ (PB.at S (by rw [show (!(i == j)) = decide (i ≠ j) by cases i <;> cases j <;> rfl]; exact q))
  · obtain ⟨z, t, rfl, hz⟩ := ha.str; obtain ⟨z', u, rfl, hz'⟩ := hb.str
    refine P.ne_str (PB.at S ?_)
    have e : (z.cps.toList != z'.cps.toList) = decide (i ≠ j) := by
      rw [bne, str_same hz hz']; by_cases q : i = j <;> simp [q]
    rw [e]; exact q
end
theorem cmp_ok {op : CmpOp} {a b : Value} {x y : V} {Q : Bool → Prop} (S : StH C H s) (ha : RepV a x) (hb : RepV b y) (hu : A.units + 64 < cLine) (hw : cmpW (trCmp op) x y H Q) :
    wpAny C.M A (compareOp op a b) (PB C H s Q) NoE s := by
  cases op with
  | Is =>
    show wpAny C.M A (do return Value.bool (← isSame a b)) _ _ _
    exact wpAny_bind (wpAny_ext (is_ok S ha hb hw) fun r s' z => by obtain ⟨rfl, z⟩ := z; exact wpAny_pure (PB.at S z))
  | IsNot =>
    show wpAny C.M A (do return Value.bool (!(← isSame a b))) _ _ _
    exact wpAny_bind (wpAny_ext (is_ok (Q := fun r => Q (!r)) S ha hb hw) fun r s' z => by obtain ⟨rfl, z⟩ := z; exact wpAny_pure (PB.at S z))
  | In => exact hw.elim
  | NotIn => exact hw.elim
  | Lt => exact cmp_lt S ha hb hw
  | LtE => exact cmp_le S ha hb hw
  | Gt => exact cmp_gt S ha hb hw
  | GtE => exact cmp_ge S ha hb hw
  | Eq => exact cmp_eq S ha hb hu hw
  | NotEq => exact cmp_ne S ha hb hu hw
end ML
namespace ML
open PySem PySem.W PySem.Calls PyProof.Rows PySem.SeqAt
variable {C : Cfg} {Φ : Orac} {c : Ctx} {H H' H'' H1 : Heap} {s s' s1 s2 : Shared} {h h' h'' : PHeap} {A : Around} {env : Env} {m m' : Loc}
structure ExtS (env : Env) (H : Heap) (h : PHeap) (H' : Heap) (h' : PHeap) : Prop where
  keep : ∀ b o, h.get? b = some o → ¬ Fp H h b → b ≠ env.locals → (∀ x, env.cells.lookup x ≠ some b) → h'.get? b = some o
  alive : ∀ b, h'.get? b = none → h.get? b = none
  fresh : ∀ b, Fp H' h' b → Fp H h b ∨ h.get? b = none
  dom : ∀ b o, H' b = some o → (∃ o', H b = some o') ∨ h.get? b = none
theorem Ext.toS (x : Ext H h H' h') : ExtS env H h H' h' := ⟨fun b o e n _ _ => x.keep b o e n, x.alive, x.fresh, x.dom⟩
theorem ExtS.trans (x : ExtS env H h H' h') (y : ExtS env H' h' H'' h'') : ExtS env H h H'' h'' where
  keep b o e n l k := y.keep b o (x.keep b o e n l k) (fun f => (x.fresh b f).elim n fun z => by rw [z] at e; cases e) l k
  alive b e := x.alive b (y.alive b e)
  fresh b f := (y.fresh b f).elim (x.fresh b) fun z => .inr (x.alive b z)
  dom b o e := (y.dom b o e).elim (fun ⟨o', e'⟩ => x.dom b o' e') fun z => .inr (x.alive b z)
theorem ExtS.forget (x : ExtS env H h H' h') (l : H''.le H') : ExtS env H h H'' h' :=
  ⟨x.keep, x.alive, fun b f => x.fresh b (f.imp (fun ⟨y, e⟩ => ⟨y, l _ _ e⟩) fun f => f.imp (fun ⟨y, e⟩ => ⟨y, l _ _ e⟩) fun ⟨a, c, fs, o, e1, e2, e3⟩ => ⟨a, c, fs, o, l _ _ e1, e2, e3⟩), fun b o e => x.dom b o (l _ _ e)⟩
theorem EnvSt.forget (x : EnvSt C c env m H h) (l : H'.le H) : EnvSt C c env m H' h := by
  have hn : ∀ {b}, H b = none → H' b = none := fun {b} e => by
    cases q : H' b with
    | none => rfl
    | some o => rw [l _ _ q] at e; cases e
  have hh : ∀ {b}, ¬ Hid H h b → ¬ Hid H' h b := fun n ⟨a, c, fs, o, e1, e2, e3⟩ => n ⟨a, c, fs, o, l _ _ e1, e2, e3⟩
  exact ⟨x.len, x.ns, x.cells, ⟨hn x.apL.1, hh x.apL.2.1, x.apL.2.2⟩, fun y a e => let ⟨n1, n2, n3, n4⟩ := x.apC y a e; ⟨hn n1, hh n2, n3, n4⟩, x.injC⟩
theorem quiet_one (S : StH C H s) {b : Addr} (hb : H b = none ∧ ¬ Hid H s.heap b ∧ C.h₀.get? b = none) (hk : ∀ a, a ≠ b → s'.heap.get? a = s.heap.get? a) (ha : ∃ o, s'.heap.get? b = some o) (hg : s'.gens = s.gens) (hos : s'.os = s.os) :
    StH C H s' ∧ (∀ x, Hid H s'.heap x ↔ Hid H s.heap x) := by
  have S' : StH C H s' := S.quiet (fun a => a = b) (fun a o e n => (hk a n).trans e) (fun a e => by subst e; exact ⟨hb.1, hb.2.2, hb.2.1⟩) hg hos
  have ne : ∀ a c fs, H a = some (.inst c fs) → a ≠ b := fun a c fs e q => by rw [q, hb.1] at e; cases e
  exact ⟨S', fun x => ⟨fun ⟨a, c, fs, o, e1, e2, e3⟩ => ⟨a, c, fs, o, e1, (hk a (ne _ _ _ e1)) ▸ e2, e3⟩, fun ⟨a, c, fs, o, e1, e2, e3⟩ => ⟨a, c, fs, o, e1, (hk a (ne _ _ _ e1)).symm ▸ e2, e3⟩⟩⟩
theorem optRep_set {i j : Nat} {v : V} {ov : Option Value} (hl : i < m.length) (e : j ≠ i) (r : OptRep ov (m[j]?.join)) : OptRep ov ((m.set i (some v))[j]?.join) := by
  rw [List.getElem?_set_ne (Ne.symm e)]; exact r
theorem store_ok {x : Str} {pv : Value} {v : V} {i : Nat} {R : Unit → Shared → Prop} (hn : trName c x = some i) (a : At C c env A m H s) (r : RepV pv v)
    (k : ∀ s', StH C H s' → EnvSt C c env (m.set i (some v)) H s'.heap → ExtS env H s.heap H s'.heap → R () s') : wpAny C.M A (storeName env x pv) R NoE s := by
  unfold trName at hn
  have hi : i < m.length := by
    rw [a.N.len]
    split at hn <;> first | exact a.eo.bnd _ _ hn | cases hn
  have self : OptRep (some pv) ((m.set i (some v))[i]?.join) := by rw [List.getElem?_set_self hi]; exact r
  split at hn
  · rename_i hk
    refine absG fun Cg hCg => ?_
    obtain ⟨mm, hN, hm⟩ := a.N.ns
    refine hCg ?_; clear hCg
    refine wpAny_storeName_local (a.eo.kloc _ hk) hN (fun h' hN' hs => ?_) (by rw [a.eo.kind]; rfl)
    have Q1 := quiet_one (s' := { s with heap := h', toks := s.toks + 1 }) a.S a.N.apL (fun b n => hs.2 b n) (let ⟨o, _, _, ho, _⟩ := hN'; ⟨o, ho⟩) rfl rfl
    refine k _ Q1.1 ⟨by rw [List.length_set]; exact a.N.len, ⟨_, hN', fun y j hy hky => ?_⟩, fun y j hy hky => ?_, ⟨a.N.apL.1, fun z => a.N.apL.2.1 ((Q1.2 _).mp z), a.N.apL.2.2⟩, fun y b e => ?_, a.N.injC⟩ ⟨fun b o e _ nl _ => (hs.2 b nl).trans e, fun b e => ?_, fun b f => .inl ?_, fun b o e => .inl ⟨o, e⟩⟩
    · by_cases q : y = x
      · subst q; rw [hn] at hy; cases hy; rw [if_pos rfl]; exact self
      · rw [if_neg q]
        have : j ≠ i := fun z => q (a.eo.inj _ _ _ hy (z ▸ hn))
        exact optRep_set hi this (hm y j hy hky)
    · refine absG fun Cg hCg => ?_
      obtain ⟨ca, ov, e1, e2, e3⟩ := a.N.cells y j hy hky
      obtain ⟨n1, n2, n3, n4, _⟩ := a.N.apC _ _ e1
      refine hCg ?_; clear hCg
      have : j ≠ i := fun z => by
        have := a.eo.inj _ _ _ hy (z ▸ hn)
        subst this
        rcases hky with q | q <;> (rw [hk] at q; cases q)
      exact ⟨ca, ov, e1, e2.sameBut hs n4, optRep_set hi this e3⟩
    · refine absG fun Cg hCg => ?_
      obtain ⟨n1, n2, n3, n4, o, lk⟩ := a.N.apC _ _ e
      refine hCg ?_; clear hCg
      exact ⟨n1, fun z => n2 ((Q1.2 _).mp z), n3, n4, o, (hs.2 _ n4).trans lk⟩
    · by_cases q : b = env.locals
      · refine absG fun Cg hCg => ?_
        obtain ⟨o, _, _, ho, _⟩ := hN'
        refine hCg ?_; clear hCg
        subst q
        have e : h'.get? env.locals = none := e
        rw [ho] at e; cases e
      · exact (hs.2 b q).symm.trans e
    · rcases f with f | f | f
      · exact .inl f
      · exact .inr (.inl f)
      · exact .inr (.inr ((Q1.2 _).mp f))
  · rename_i hk
    refine absG fun Cg hCg => ?_
    obtain ⟨ca, ov, e1, e2, e3⟩ := a.N.cells x i hn (.inl hk)
    have ap := a.N.apC _ _ e1
    refine hCg ?_; clear hCg
    refine wpAny_storeName_cell a.eo.kind (a.eo.kcell _ hk) e1 e2 (fun h' hc hs => ?_)
    have Q1 := quiet_one (s' := { s with heap := h' }) a.S ⟨ap.1, ap.2.1, ap.2.2.1⟩ (fun b n => hs.2 b n) (let ⟨o, ho, _⟩ := hc; ⟨o, ho⟩) rfl rfl
    refine absG fun Cg hCg => ?_
    obtain ⟨mm, hN, hm⟩ := a.N.ns
    refine hCg ?_; clear hCg
    refine k _ Q1.1 ⟨by rw [List.length_set]; exact a.N.len, ⟨_, hN.sameBut hs (Ne.symm ap.2.2.2.1), fun y j hy hky => ?_⟩, fun y j hy hky => ?_, ⟨a.N.apL.1, fun z => a.N.apL.2.1 ((Q1.2 _).mp z), a.N.apL.2.2⟩, fun y b e => ?_, a.N.injC⟩ ⟨fun b o e _ _ nc => (hs.2 b fun q => nc x (q ▸ e1)).trans e, fun b e => ?_, fun b f => .inl ?_, fun b o e => .inl ⟨o, e⟩⟩
    · have : j ≠ i := fun z => by
        have := a.eo.inj _ _ _ hy (z ▸ hn)
        subst this
        rw [hk] at hky; cases hky
      exact optRep_set hi this (hm y j hy hky)
    · by_cases q : y = x
      · subst q; rw [hn] at hy; cases hy
        exact ⟨ca, _, e1, hc, self⟩
      · refine absG fun Cg hCg => ?_
        obtain ⟨cb, ov', f1, f2, f3⟩ := a.N.cells y j hy hky
        have : j ≠ i := fun z => q (a.eo.inj _ _ _ hy (z ▸ hn))
        refine hCg ?_; clear hCg
        exact ⟨cb, ov', f1, f2.sameBut hs (fun z => q (a.N.injC _ _ _ f1 (z ▸ e1))), optRep_set hi this f3⟩
    · refine absG fun Cg hCg => ?_
      obtain ⟨n1, n2, n3, n4, o, lk⟩ := a.N.apC _ _ e
      refine hCg ?_; clear hCg
      refine ⟨n1, fun z => n2 ((Q1.2 _).mp z), n3, n4, ?_⟩
      by_cases q : b = ca
      · subst q; obtain ⟨o', ho', _⟩ := hc; exact ⟨o', ho'⟩
      · exact ⟨o, (hs.2 _ q).trans lk⟩
    · by_cases q : b = ca
      · refine absG fun Cg hCg => ?_
        obtain ⟨o, ho, _⟩ := hc
        refine hCg ?_; clear hCg
        subst q
        have e : h'.get? b = none := e
        rw [ho] at e; cases e
      · exact (hs.2 b q).symm.trans e
    · rcases f with f | f | f
      · exact .inl f
      · exact .inr (.inl f)
      · exact .inr (.inr ((Q1.2 _).mp f))
  · cases hn
noncomputable def RepF : PySem.Flow → Flow → Prop
  | .next, .next => True
  | .brk, .brk => True
  | .cont, .cont => True
  | .ret v, .ret w => RepV v w
  | _, _ => False
noncomputable def PSs (C : Cfg) (c : Ctx) (env : Env) (H : Heap) (s : Shared) (Q : PS) : PySem.Flow → Shared → Prop := fun fl s' => ∃ mfl m' H', RepF fl mfl ∧ StH C H' s' ∧ EnvSt C c env m' H' s'.heap ∧ ExtS env H s.heap H' s'.heap ∧ Q mfl m' H'
theorem PSs.ext {Q : PS} {fl : PySem.Flow} (x : ExtS env H s.heap H1 s1.heap) (y : PSs C c env H1 s1 Q fl s') : PSs C c env H s Q fl s' := let ⟨a, b, d, r, S, N, e, q⟩ := y; ⟨a, b, d, r, S, N, x.trans e, q⟩
noncomputable def SndS (C : Cfg) (Φ : Orac) (c : Ctx) (st : Stmt) (ms : S) : Prop :=
  ∀ {env : Env} {A : Around} {m : Loc} {H : Heap} {s : Shared} {Q : PS}, At C c env A m H s → wpS Φ ms m H Q → wpAny C.M A (exec st env) (PSs C c env H s Q) NoE s
noncomputable def SndSs (C : Cfg) (Φ : Orac) (c : Ctx) (st : List Stmt) (ms : List S) : Prop :=
  ∀ {env : Env} {A : Around} {m : Loc} {H : Heap} {s : Shared} {Q : PS}, At C c env A m H s → wpSs Φ ms m H Q → wpAny C.M A (execs st env) (PSs C c env H s Q) NoE s
theorem At.then (a : At C c env A m H s) (S : StH C H1 s1) (N : EnvSt C c env m' H1 s1.heap) : At C c env A m' H1 s1 := ⟨a.eo, a.ao, S, N⟩
theorem execs_nil_ok : SndSs C Φ c [] [] := fun {env A m H s Q} a hw => by
  simp only [s_nil, s_cons] at hw
  exact wpAny_execs_nil ⟨.next, m, H, trivial, a.S, a.N, Ext.refl.toS, hw⟩
theorem execs_cons_ok {st : Stmt} {sts : List Stmt} {ms : S} {mss : List S} (h1 : SndS C Φ c st ms) (h2 : SndSs C Φ c sts mss) : SndSs C Φ c (st :: sts) (ms :: mss) := fun {env A m H s Q} a hw => by
  simp only [s_nil, s_cons] at hw
  refine wpAny_execs_cons (wpAny_ext (h1 a hw) fun fl s1 z => ?_)
  refine absG fun Cg hCg => ?_
  obtain ⟨mfl, m1, H1, r, S1, N1, x1, q⟩ := z
  refine hCg ?_; clear hCg
  cases fl with
  | next => cases mfl <;> first | exact r.elim | exact wpAny_ext (h2 (a.then S1 N1) q) fun _ _ z => PSs.ext x1 z
  | brk => cases mfl <;> first | exact r.elim | exact ⟨_, m1, H1, r, S1, N1, x1, q⟩
  | cont => cases mfl <;> first | exact r.elim | exact ⟨_, m1, H1, r, S1, N1, x1, q⟩
  | ret v => cases mfl <;> first | exact r.elim | exact ⟨_, m1, H1, r, S1, N1, x1, q⟩
theorem execs_ok {f : Stmt → Option S} (hf : ∀ st ms, f st = some ms → SndS C Φ c st ms) : ∀ {sts : List Stmt} {mss : List S}, mapO f sts = some mss → SndSs C Φ c sts mss := by
  intro sts
  induction sts with
  | nil => intro mss h; cases h; exact execs_nil_ok
  | cons st sts ih =>
    intro mss h
    unfold mapO at h
    split at h
    · rename_i b hb
      split at h
      · rename_i bs hbs; cases h; exact execs_cons_ok (hf _ _ hb) (ih hbs)
      · cases h
    · cases h
section
variable {Q : PS} {pos pos' : Pos} {e e1 e2 e3 : Expr} {me me1 me2 me3 : E}
theorem assign_ok {x : Str} {i : Nat} (hn : trName c x = some i) (h : SndE C Φ c e me) (hsw : ∀ env : Env, swapsWith e (some (.Name x pos')) pos.line env = pure false) (a : At C c env A m H s) (hw : wpS Φ (.assign i me) m H Q) :
    wpAny C.M A (exec (.Assign [.Name x pos'] e pos) env) (PSs C c env H s Q) NoE s := by
  simp only [s_assign, s_unpack, s_setAttr, s_setIdx, s_delIdx, s_append, s_expr, s_ret0, s_ret, s_ite, s_whl, s_for, s_brk, s_pass] at hw
  refine wpAny_Assign_Name (h.then a hw fun v s1 y H1 r a1 x1 q => store_ok hn a1 r fun s2 S2 N2 x2 => ?_) (hsw env)
  exact ⟨.next, _, H1, trivial, S2, N2, x1.toS.trans x2, q⟩
theorem ret_ok (h : SndE C Φ c e me) (a : At C c env A m H s) (hw : wpS Φ (.ret (some me)) m H Q) : wpAny C.M A (exec (.Return (some e) pos) env) (PSs C c env H s Q) NoE s := by
  simp only [s_assign, s_unpack, s_setAttr, s_setIdx, s_delIdx, s_append, s_expr, s_ret0, s_ret, s_ite, s_whl, s_for, s_brk, s_pass] at hw
  exact wpAny_Return_some (h.then a hw fun v s1 y H1 r a1 x1 q => ⟨.ret y, m, H1, r, a1.S, a1.N, x1.toS, q⟩)
theorem ret0_ok (a : At C c env A m H s) (hw : wpS Φ (.ret none) m H Q) : wpAny C.M A (exec (.Return none pos) env) (PSs C c env H s Q) NoE s := by
  simp only [s_assign, s_unpack, s_setAttr, s_setIdx, s_delIdx, s_append, s_expr, s_ret0, s_ret, s_ite, s_whl, s_for, s_brk, s_pass] at hw
  exact wpAny_Return_none ⟨.ret .none, m, H, trivial, a.S, a.N, Ext.refl.toS, hw⟩
theorem pass_ok (a : At C c env A m H s) (hw : wpS Φ .pass m H Q) : wpAny C.M A (exec (.Pass pos) env) (PSs C c env H s Q) NoE s := by
  simp only [s_assign, s_unpack, s_setAttr, s_setIdx, s_delIdx, s_append, s_expr, s_ret0, s_ret, s_ite, s_whl, s_for, s_brk, s_pass] at hw
  exact wpAny_Pass ⟨.next, m, H, trivial, a.S, a.N, Ext.refl.toS, hw⟩
theorem brk_ok (a : At C c env A m H s) (hw : wpS Φ .brk m H Q) : wpAny C.M A (exec (.Break pos) env) (PSs C c env H s Q) NoE s := by
  simp only [s_assign, s_unpack, s_setAttr, s_setIdx, s_delIdx, s_append, s_expr, s_ret0, s_ret, s_ite, s_whl, s_for, s_brk, s_pass] at hw
  exact wpAny_Break ⟨.brk, m, H, trivial, a.S, a.N, Ext.refl.toS, hw⟩
theorem if_ok {b1 b2 : List Stmt} {mb1 mb2 : List S} (h : SndT C Φ c e me) (h1 : SndSs C Φ c b1 mb1) (h2 : SndSs C Φ c b2 mb2) (a : At C c env A m H s) (hw : wpS Φ (.ite me mb1 mb2) m H Q) :
    wpAny C.M A (exec (.If e b1 b2 pos) env) (PSs C c env H s Q) NoE s := by
  simp only [s_assign, s_unpack, s_setAttr, s_setIdx, s_delIdx, s_append, s_expr, s_ret0, s_ret, s_ite, s_whl, s_for, s_brk, s_pass] at hw
  refine wpAny_If (h.then a hw fun r s1 H1 a1 x1 q => ?_)
  cases r with
  | true => exact wpAny_ext (h1 a1 q) fun _ _ z => PSs.ext x1.toS z
  | false => exact wpAny_ext (h2 a1 q) fun _ _ z => PSs.ext x1.toS z
theorem expr_ok (h : SndE C Φ c e me) (hc : isComp e = false) (a : At C c env A m H s) (hw : wpS Φ (.expr me) m H Q) : wpAny C.M A (exec (.Expr e pos) env) (PSs C c env H s Q) NoE s := by
  simp only [s_assign, s_unpack, s_setAttr, s_setIdx, s_delIdx, s_append, s_expr, s_ret0, s_ret, s_ite, s_whl, s_for, s_brk, s_pass] at hw
  refine wpAny_Expr (h.then a hw fun v s1 y H1 r a1 x1 q => ?_) (by unfold interactive; rw [a.eo.kind]; rfl) (by cases e <;> first | rfl | cases hc)
  cases y with
  | ref p => exact q.elim
  | none => cases r.none; exact ⟨.next, m, H1, trivial, a1.S, a1.N, x1.toS, q⟩
  | bool b => cases r.bool; exact ⟨.next, m, H1, trivial, a1.S, a1.N, x1.toS, q⟩
  | int b => obtain ⟨t, rfl⟩ := r.int; exact ⟨.next, m, H1, trivial, a1.S, a1.N, x1.toS, q⟩
  | flt b => obtain ⟨t, rfl⟩ := r.flt; exact ⟨.next, m, H1, trivial, a1.S, a1.N, x1.toS, q⟩
  | str b => obtain ⟨z, t, rfl, _⟩ := r.str; exact ⟨.next, m, H1, trivial, a1.S, a1.N, x1.toS, q⟩
end
end ML
namespace ML
open PySem PySem.W PySem.Calls PyProof.Rows PySem.SeqAt
variable {C : Cfg} {Φ : Orac} {c : Ctx} {H H' H'' H1 : Heap} {s s' s1 s2 : Shared} {h h' h'' : PHeap} {A : Around} {env : Env} {m m' : Loc}
variable {Q : PS} {pos pos' : Pos} {e o i : Expr} {me mo mi : E}
theorem mapSeq_list {items : Array Value} {n : Nat} (f : Array Value → Array Value) : ∃ n', Obj.mapSeq f { cls := .type "list", dict := none, data := .seq items n, slots := #[] } = { cls := .type "list", dict := none, data := .seq (f items) n', slots := #[] } := ⟨_, rfl⟩
theorem lst_write {p : Nat} {xs ys : List V} {vs us : List Value} {n : Nat} {f : Array Value → Array Value} (S : StH C H s) (hp : H p = some (.list xs)) (l : IsL s.heap p vs.toArray n) (hf : f vs.toArray = us.toArray) (hr : All2 RepV us ys) (hz : ys.length ≤ 2 * lim) :
    StH C (H.upd p (.list ys)) { s with heap := s.heap.update p (Obj.mapSeq f) } ∧ Ext H s.heap (H.upd p (.list ys)) (s.heap.update p (Obj.mapSeq f)) := by
  obtain ⟨n', e⟩ := mapSeq_list (items := vs.toArray) (n := n) f
  rw [hf] at e
  exact S.write (tk := s.toks) hp l (.inl ⟨xs, rfl⟩) (.inl ⟨ys, rfl⟩) (by rw [e]; rfl) ⟨us, n', by show _ = _; rw [Heap.get?_update_self _ l (by rw [e]; rfl), e], hr, hr.length ▸ hz⟩
theorem setattr_ok {x : Str} {j : Nat} (O : C.Ok) (hx : attrIs j x) (he : SndE C Φ c e me) (ho : SndE C Φ c o mo) (hc : isComp e = false) (a : At C c env A m H s) (hw : wpS Φ (.setAttr mo j me) m H Q) :
    wpAny C.M A (exec (.Assign [.Attribute o x pos'] e pos) env) (PSs C c env H s Q) NoE s := by
  simp only [s_assign, s_unpack, s_setAttr, s_setIdx, s_delIdx, s_append, s_expr, s_ret0, s_ret, s_ite, s_whl, s_for, s_brk, s_pass] at hw
  refine plainObj_wpAny_Assign_Attribute (he.then a hw fun v s1 y H1 r1 a1 x1 q1 => ho.then a1 q1 fun ov s2 z H2 r2 a2 x2 q2 => ?_) (by cases e <;> first | rfl | cases hc)
  unfold setAttrW at q2
  split at q2
  · rename_i p
    cases r2.ref
    split at q2
    · rename_i ci fs hp
      refine wpAny_ext (setAttr_ok O a2.S hp hx r1 q2.1 q2.2) fun _ s3 w => ?_
      refine absG fun Cg hCg => ?_
      obtain ⟨H3, S3, x3, q3⟩ := w
      refine hCg ?_; clear hCg
      exact ⟨.next, m, H3, trivial, S3, a2.N.ext x3, ((x1.trans x2).trans x3).toS, q3⟩
    · exact q2.elim
  · exact q2.elim
theorem append_ok {ap cp : Pos} (hb : bareCall o = false) (hs : isStar e = false) (hline : (ap.endLine == cp.line) = true) (ho : SndE C Φ c o mo) (he : SndE C Φ c e me) (a : At C c env A m H s) (hw : wpS Φ (.append mo me) m H Q) :
    wpAny C.M A (exec (.Expr (.Call (.Attribute o "append" ap) [e] [] cp) pos) env) (PSs C c env H s Q) NoE s := by
  simp only [s_assign, s_unpack, s_setAttr, s_setIdx, s_delIdx, s_append, s_expr, s_ret0, s_ret, s_ite, s_whl, s_for, s_brk, s_pass] at hw
  have hst : starEach [e] env = [(false, eval e env)] := by cases e <;> first | rfl | cases hs
  refine wpAny_Expr ?_ (by unfold interactive; rw [a.eo.kind]; rfl) rfl
  refine wpAny_Call_append (base_of hb) (by rw [hst]; rfl) hline (by rw [hst]; rfl) (ho.then a hw fun ov s1 z H1 r1 a1 x1 q1 => ?_)
  obtain ⟨hl, q1⟩ := q1
  cases z with
  | ref p =>
    cases r1.ref
    unfold isLst at hl
    dsimp only at hl
    split at hl
    · rename_i ys hp
      refine absG fun Cg hCg => ?_
      obtain ⟨vs, n, l, rr, _⟩ := a1.S.rep _ _ hp
      refine hCg ?_; clear hCg
      refine ⟨p, vs.toArray, rfl, ⟨_, n, l, rfl, rfl, rfl⟩, he.then a1 q1 fun v s2 y H2 r2 a2 x2 q2 => ?_⟩
      unfold appendW at q2
      dsimp only at q2
      split at q2
      · rename_i xs hp2
        refine absG fun Cg hCg => ?_
        obtain ⟨us, n2, l2, rr2, _⟩ := a2.S.rep _ _ hp2
        have W := lst_write (f := fun x => x.push v) (us := us ++ [v]) (ys := xs ++ [y]) a2.S hp2 l2 (by simp) (rr2.append (.cons r2 .nil)) (by rw [List.length_append]; have := q2.1; have : lim = 1000000 := rfl; simp; (first | lia | omega))
        refine hCg ?_; clear hCg
        exact call_meets F.slot_list_append ⟨_, l2, rfl⟩ F.entry_list_append (F.args_list_append_2 _ _) (list_append p us.toArray n2 v (by simp only [List.size_toArray, rr2.length]; exact sizeLine_lim q2.1))
          ⟨l2, ⟨.next, m, _, trivial, W.1, a2.N.ext W.2, ((x1.trans x2).trans W.2).toS, q2.2⟩⟩
      · exact q2.elim
    · exact hl.elim
  | _ => exact hl.elim
theorem delidx_ok (hi : isSlice i = false) (ho : SndE C Φ c o mo) (hii : SndE C Φ c i mi) (a : At C c env A m H s) (hw : wpS Φ (.delIdx mo mi) m H Q) :
    wpAny C.M A (exec (.Delete [.Subscript o i pos'] pos) env) (PSs C c env H s Q) NoE s := by
  simp only [s_assign, s_unpack, s_setAttr, s_setIdx, s_delIdx, s_append, s_expr, s_ret0, s_ret, s_ite, s_whl, s_for, s_brk, s_pass] at hw
  refine wpAny_Delete ?_
  show wpAny C.M A (do delete (.Subscript o i pos') env; deleteEach [] env) _ _ _
  refine wpAny_bind ?_
  show wpAny C.M A (do
    let ov ← eval o env
    let iv ← holding [ov] (eval i env)
    standAt pos'
    holding [ov, iv] (delItem ov iv)
    release [ov, iv] []) _ _ _
  refine wpAny_bind (ho.then a hw fun ov s1 z H1 r1 a1 x1 q1 => wpAny_bind (wpAny_holding (hii.then a1 q1 fun iv s2 w H2 r2 a2 x2 q2 => wpAny_bind (wpAny_standAt (wpAny_bind (wpAny_holding ?_))))))
  unfold delIdxW at q2
  split at q2
  · rename_i p k
    cases r1.ref
    obtain ⟨t, rfl⟩ := r2.int
    split at q2
    · rename_i xs hp
      refine absG fun Cg hCg => ?_
      obtain ⟨h0, h1, h2, q⟩ := q2
      obtain ⟨us, n2, l2, rr2, hz⟩ := a2.S.rep _ _ hp
      have hlen : us.length = xs.length := rr2.length
      refine hCg ?_; clear hCg
      have W := lst_write (f := fun x => x.eraseIdxIfInBounds k.toNat) (us := us.eraseIdx k.toNat) (ys := xs.eraseIdx k.toNat) a2.S hp l2 (by
        have : k.toNat < us.toArray.size := by simp only [List.size_toArray]; (first | lia | omega)
        unfold Array.eraseIdxIfInBounds
        rw [dif_pos this]
        simp) (rr2.eraseIdx _) (by have := List.length_eraseIdx_le xs k.toNat; (first | lia | omega))
      have hk : seqIndex? k us.toArray.size = some k.toNat := by
        have hk0 : ¬ k < 0 := by (first | lia | omega)
        have hk1 : (decide (0 ≤ k) && decide (k < (us.toArray.size : Int))) = true := by rw [decide_eq_true h0, Bool.true_and]; simp only [List.size_toArray]; exact decide_eq_true (by (first | lia | omega))
        unfold seqIndex?
        simp only [hk0, if_false]
        rw [if_pos hk1]
      refine P.delItem_list l2 (by simp [Builtin.List.listFitsIndex]; unfold lim at h2; (first | lia | omega)) hk ?_ (by simp only [List.size_toArray, rr2.length]; exact sizeLine_lim h2)
      refine wpAny_release (wpAny_deleteEach_nil ⟨.next, m, _, trivial, W.1, a2.N.ext W.2, ((x1.trans x2).trans W.2).toS, q⟩)
    · exact q2.elim
  · exact q2.elim
theorem while_ok {b : List Stmt} {mb : List S} (ht : SndT C Φ c e me) (hb : SndSs C Φ c b mb) (a : At C c env A m H s) (hw : wpS Φ (.whl me mb) m H Q) :
    wpAny C.M A (exec (.While e b [] pos) env) (PSs C c env H s Q) NoE s := by
  simp only [s_assign, s_unpack, s_setAttr, s_setIdx, s_delIdx, s_append, s_expr, s_ret0, s_ret, s_ite, s_whl, s_for, s_brk, s_pass] at hw
  refine absG fun Cg hCg => ?_
  obtain ⟨I, n, hI, step⟩ := hw
  refine hCg ?_; clear hCg
  refine wpAny_While (codeAny_whileLoop (fun n s' => ∃ m' H', I n m' H' ∧ StH C H' s' ∧ EnvSt C c env m' H' s'.heap ∧ ExtS env H s.heap H' s'.heap) (fun n s1 hI1 => ?_) n ⟨m, H, hI, a.S, a.N, Ext.refl.toS⟩)
  refine absG fun Cg hCg => ?_
  obtain ⟨m1, H1, I1, S1, N1, x1⟩ := hI1
  refine hCg ?_; clear hCg
  refine wpAny_mono (Q := PT C H1 s1 _) (E := NoE) (ht (a.then S1 N1) (step n m1 H1 I1)) (fun r s2 z => ?_) fun _ _ f => f.elim
  refine absG fun Cg hCg => ?_
  obtain ⟨H2, S2, x2, q⟩ := z
  have a2 : At C c env A m1 H2 s2 := (a.then S1 N1).on S2 x2
  refine hCg ?_; clear hCg
  cases r with
  | true =>
    simp only [if_true] at q ⊢
    refine wpAny_mono (hb a2 q) (fun fl s3 z => ?_) fun _ _ f => f.elim
    refine absG fun Cg hCg => ?_
    obtain ⟨mfl, m3, H3, r3, S3, N3, x3, H4, l4, q3⟩ := z
    have xx := ((x1.trans x2.toS).trans x3).forget l4
    refine hCg ?_; clear hCg
    cases fl with
    | next => cases mfl <;> first | exact r3.elim | (obtain ⟨k, hk, I3⟩ := q3; exact ⟨k, hk, m3, H4, I3, S3.forget l4, N3.forget l4, xx⟩)
    | cont => cases mfl <;> first | exact r3.elim | (obtain ⟨k, hk, I3⟩ := q3; exact ⟨k, hk, m3, H4, I3, S3.forget l4, N3.forget l4, xx⟩)
    | brk => cases mfl <;> first | exact r3.elim | exact ⟨.next, m3, H4, trivial, S3.forget l4, N3.forget l4, xx, q3⟩
    | ret v => cases mfl <;> first | exact r3.elim | exact ⟨_, m3, H4, r3, S3.forget l4, N3.forget l4, xx, q3⟩
  | false =>
    simp only [Bool.false_eq_true, if_false] at q ⊢
    exact wpAny_execs_nil ⟨.next, m1, H2, trivial, S2, a2.N, x1.trans x2.toS, q⟩
end ML
namespace ML
open PySem PySem.W PySem.Calls PyProof.Rows PySem.SeqAt
variable {C : Cfg} {Φ : Orac} {c : Ctx} {H H' H'' H1 : Heap} {s s' s1 s2 : Shared} {h h' h'' : PHeap} {A : Around} {env : Env} {m m' : Loc}
structure IterOk (C : Cfg) (xs : List V) (ok : Heap → Prop) (it : Addr) (P : Nat → PHeap → Prop) : Prop where
  look : ∀ k h, P k h → ∃ o, h.get? it = some o
  same : ∀ k h h', P k h → (∀ o, h.get? it = some o → h'.get? it = some o) → P k h'
  next : ∀ k x H s A (R : Option Value → Shared → Prop), xs[k]? = some x → StH C H s → ok H → P k s.heap →
    (∀ pv s', RepV pv x → P (k + 1) s'.heap → (∀ b, b ≠ it → s'.heap.get? b = s.heap.get? b) → s'.gens = s.gens → s'.os = s.os → R (some pv) s') → wpAny C.M A (pyNext (.ref it)) R NoE s
  stop : ∀ k H s A (R : Option Value → Shared → Prop), A.handled = none → xs[k]? = none → StH C H s → ok H → P k s.heap →
    (∀ s', (∀ b o, b ≠ it → s.heap.get? b = some o → s'.heap.get? b = some o) → s'.gens = s.gens → s'.os = s.os → R none s') → wpAny C.M A (pyNext (.ref it)) R NoE s
  self : ∀ k s A (R : Value → Shared → Prop), P k s.heap → R (.ref it) s → wpAny C.M A (pyIter (.ref it)) R NoE s
theorem iter_list {p it : Addr} {xs : List V} {o : O} (ho : o.lst? = some xs) : IterOk C xs (fun H => H p = some o) it (fun k h => h.IsListIter it p k) where
  look k h x := let ⟨o, e, _⟩ := x; ⟨o, e⟩
  same k h h' x e := x.at e
  next k x H s A R hx S hp hi kk := by
    have fin : ∀ {vs : List Value}, s.heap.IsList p vs.toArray → All2 RepV vs xs → wpAny C.M A (pyNext (.ref it)) R NoE s := by
      intro vs l rr
      refine absG fun Cg hCg => ?_
      obtain ⟨pv, e1, e2⟩ := rr.get hx
      refine hCg ?_; clear hCg
      exact wpAny_pyNext_list_item hi l (by simpa using e1) fun h' hi' hs => kk pv _ e2 hi' (fun b n => hs.2 b n) rfl rfl
    have r := S.rep _ _ hp
    cases o with
    | list ys => cases ho; obtain ⟨vs, n, l, rr, _⟩ := r; exact fin l.isList rr
    | ro ys => cases ho; obtain ⟨vs, l, rr, _⟩ := r; exact fin l rr
    | _ => cases ho
  stop k H s A R hh hx S hp hi kk := by
    have fin : ∀ {vs : List Value}, s.heap.IsList p vs.toArray → All2 RepV vs xs → wpAny C.M A (pyNext (.ref it)) R NoE s := by
      intro vs l rr
      have e1 : vs[k]? = none := by
        rw [List.getElem?_eq_none_iff] at hx ⊢
        rw [rr.length]; exact hx
      exact wpAny_pyNext_list_end hh hi l (by simpa using e1) fun h' hs => kk _ (fun b o n e => hs b o n e) rfl rfl
    have r := S.rep _ _ hp
    cases o with
    | list ys => cases ho; obtain ⟨vs, n, l, rr, _⟩ := r; exact fin l.isList rr
    | ro ys => cases ho; obtain ⟨vs, l, rr, _⟩ := r; exact fin l rr
    | _ => cases ho
  self k s A R x q := wpAny_pyIter_listiter x q
theorem iter_range {it : Addr} {a st : Int} {n : Nat} {f : Nat → Int} (hf : ∀ k, f k = a + k * st) : IterOk C ((List.range n).map fun k => V.int (f k)) (fun _ => True) it (fun k h => k ≤ n ∧ IsRangeIter h it (a + k * st) ((n : Int) - k) st) where
  look k h x := ⟨_, x.2⟩
  same k h h' x e := ⟨x.1, e _ x.2⟩
  next k x H s A R hx S _ hi kk := by
    have hk : k < n := by
      cases q : decide (k < n) with
      | true => exact of_decide_eq_true q
      | false => rw [List.getElem?_eq_none (by have := of_decide_eq_false q; simp; (first | lia | omega))] at hx; cases hx
    have hx' : x = .int (f k) := by
      rw [List.getElem?_map, List.getElem?_range hk] at hx
      exact (Option.some.inj hx).symm
    refine wpAny_pyNext_range_item hi.2 (by (first | lia | omega)) fun h' hi' hs => kk _ _ (by rw [hx', hf]; rfl) ⟨hk, ?_⟩ (fun b n => hs.2 b n) rfl rfl
    have e1 : a + k * st + st = a + ((k + 1 : Nat) : Int) * st := by rw [Int.natCast_add, Int.add_mul]; simp; (first | lia | omega)
    have e2 : (n : Int) - k - 1 = (n : Int) - ((k + 1 : Nat) : Int) := by (first | lia | omega)
    rw [e1, e2] at hi'
    exact hi'
  stop k H s A R hh hx S _ hi kk := by
    have hk : n ≤ k := by
      rw [List.getElem?_eq_none_iff] at hx
      simpa using hx
    exact wpAny_pyNext_range_end hh hi.2 (by (first | lia | omega)) fun h' hs => kk _ (fun b o n e => hs b o n e) rfl rfl
  self k s A R x q := wpAny_pyIter_rangeiter x.2 q
structure Apart (C : Cfg) (H : Heap) (h : PHeap) (b : Addr) : Prop where
  at_ : H b = none
  hid : ¬ Hid H h b
  base : C.h₀.get? b = none
theorem Apart.fp {b : Addr} (x : Apart C H h b) : ¬ Fp H h b := not_fp x.at_ x.hid
theorem EnvSt.stay (x : EnvSt C c env m H h) (hk : ∀ b o, (b = env.locals ∨ ∃ y, env.cells.lookup y = some b) → h.get? b = some o → h'.get? b = some o) (hh : ∀ b, Hid H h' b → Hid H h b) : EnvSt C c env m H h' := by
  refine absG fun Cg hCg => ?_
  obtain ⟨mm, ⟨o, es, ep, ho, hr⟩, hm⟩ := x.ns
  refine hCg ?_; clear hCg
  refine ⟨x.len, ⟨mm, ⟨o, es, ep, hk _ _ (.inl rfl) ho, hr⟩, hm⟩, fun z i e k => ?_, ⟨x.apL.1, fun z => x.apL.2.1 (hh _ z), x.apL.2.2⟩, fun z a e => ?_, x.injC⟩
  · refine absG fun Cg hCg => ?_
    obtain ⟨a, ov, e1, ⟨oc, e2, e3⟩, e4⟩ := x.cells z i e k
    refine hCg ?_; clear hCg
    exact ⟨a, ov, e1, ⟨oc, hk _ _ (.inr ⟨_, e1⟩) e2, e3⟩, e4⟩
  · refine absG fun Cg hCg => ?_
    obtain ⟨n1, n2, n3, n4, o', lk⟩ := x.apC _ _ e
    refine hCg ?_; clear hCg
    exact ⟨n1, fun z => n2 (hh _ z), n3, n4, o', hk _ _ (.inr ⟨_, e⟩) lk⟩
theorem touch {it : Addr} (a : At C c env A m H s) (ap : Apart C H s.heap it) (hl : it ≠ env.locals) (hc : ∀ x, env.cells.lookup x ≠ some it) (hk : ∀ b o, b ≠ it → s.heap.get? b = some o → s'.heap.get? b = some o) (hg : s'.gens = s.gens) (hos : s'.os = s.os) :
    At C c env A m H s' ∧ ∀ b, Hid H s'.heap b → Hid H s.heap b := by
  have hh : ∀ b, Hid H s'.heap b → Hid H s.heap b := fun b z => z.same (fun d c fs e o lk => hk _ _ (fun q => by rw [q, ap.at_] at e; cases e) lk) fun d o e => (a_rep a.S e)
  refine ⟨⟨a.eo, a.ao, a.S.quiet (fun b => b = it) (fun b o e n => hk b o n e) (fun b e => by subst e; exact ⟨ap.at_, ap.base, ap.hid⟩) hg hos, a.N.stay (fun b o w e => hk b o (fun q => ?_) e) hh⟩, hh⟩
  subst q
  rcases w with w | ⟨y, w⟩
  · exact hl w
  · exact hc y w
where a_rep {C : Cfg} {H : Heap} {s : Shared} {a : Addr} {o : O} (S : StH C H s) (e : H a = some o) : ∃ ob, s.heap.get? a = some ob := (S.rep _ _ e).look
theorem ExtS.touch {it : Addr} (x : ExtS env H h H' h') (hz : h.get? it = none) (hk : ∀ b o, b ≠ it → h'.get? b = some o → h''.get? b = some o) (hh : ∀ b, Hid H' h'' b → Hid H' h' b) : ExtS env H h H' h'' where
  keep b o e n l k := hk b o (fun q => by rw [q, hz] at e; cases e) (x.keep b o e n l k)
  alive b e := by
    by_cases q : b = it
    · rw [q]; exact hz
    · refine x.alive b ?_
      cases z : h'.get? b with
      | none => rfl
      | some o => rw [hk b o q z] at e; cases e
  fresh b f := x.fresh b (by
    rcases f with f | f | f
    · exact .inl f
    · exact .inr (.inl f)
    · exact .inr (.inr (hh _ f)))
  dom b o e := x.dom b o e
theorem ExtS.apart (x : ExtS env H h H' h') {b : Addr} {o : Obj} (e : h.get? b = some o) (a : Apart C H h b) (hl : b ≠ env.locals) (hc : ∀ x, env.cells.lookup x ≠ some b) : h'.get? b = some o ∧ Apart C H' h' b := by
  refine ⟨x.keep _ _ e a.fp hl hc, ?_, fun y => ?_, a.base⟩
  · cases q : H' b with
    | none => rfl
    | some o' =>
      rcases x.dom _ _ q with ⟨z, q⟩ | q
      · rw [a.at_] at q; cases q
      · rw [e] at q; cases q
  · rcases x.fresh _ (.inr (.inr y)) with f | q
    · exact a.fp f
    · rw [e] at q; cases q
noncomputable def SndSrc (C : Cfg) (Φ : Orac) (c : Ctx) (iter : Expr) (src : Src) : Prop :=
  ∀ {env : Env} {A : Around} {m : Loc} {H : Heap} {s : Shared} {Q : List V → (Heap → Prop) → Heap → Prop} {R : Value → Shared → Prop}, At C c env A m H s → wpSrc Φ src m H Q →
    (∀ it s2 xs ok H2 P, IterOk C xs ok it P → P 0 s2.heap → s.heap.get? it = none → Apart C H2 s2.heap it → At C c env A m H2 s2 → Ext H s.heap H2 s2.heap → Q xs ok H2 → R (.ref it) s2) →
    wpAny C.M A (eval iter env) (fun x s1 => wpAny C.M A (pyIter x) R NoE s1) NoE s
theorem for_ok {x : Str} {px pos : Pos} {iter : Expr} {src : Src} {b : List Stmt} {mb : List S} {i : Nat} {Q : PS} (hn : trName c x = some i) (hi : SndSrc C Φ c iter src) (hb : SndSs C Φ c b mb) (hs : ∀ (env : Env) x, foldedSetIterable iter env x = pure x)
    (a : At C c env A m H s) (hw : wpS Φ (.for1 [i] src mb) m H Q) :
    wpAny C.M A (exec (.For (.Name x px) iter b [] pos) env) (PSs C c env H s Q) NoE s := by
  simp only [s_assign, s_unpack, s_setAttr, s_setIdx, s_delIdx, s_append, s_expr, s_ret0, s_ret, s_ite, s_whl, s_for, s_brk, s_pass] at hw
  refine wpAny_For (hi a hw fun it s2 xs ok H2 P I hP hz ap a2 x2 q2 => ?_) (hs env)
  refine codeAny_mono (R := fun r s' => ∃ f, r = .ok f ∧ PSs C c env H s Q f s') ?_ (fun r s' z => by obtain ⟨f, rfl, z⟩ := z; exact z)
  have hl : it ≠ env.locals := fun q => by
    refine absG fun Cg hCg => ?_
    obtain ⟨mm, ⟨o, es, ep, ho, hr⟩, hm⟩ := a.N.ns
    refine hCg ?_; clear hCg
    rw [← q, hz] at ho; cases ho
  have hc : ∀ x, env.cells.lookup x ≠ some it := fun x q => by
    refine absG fun Cg hCg => ?_
    obtain ⟨_, _, _, _, o, lk⟩ := a.N.apC _ _ q
    refine hCg ?_; clear hCg
    rw [hz] at lk; cases lk
  refine codeAny_forLoop (fun n s' => ∃ k m' H', n = xs.length - k ∧ forW (wpSs Φ mb) [i] ok (xs.drop k) m' H' Q ∧ At C c env A m' H' s' ∧ ExtS env H s.heap H' s'.heap ∧ P k s'.heap ∧ Apart C H' s'.heap it) (fun n s1 hI => ?_) _ ⟨0, m, H2, rfl, q2, a2, x2.toS, hP, ap⟩
  refine absG fun Cg hCg => ?_
  obtain ⟨k, m1, H1, rfl, fw, a1, x1, P1, ap1⟩ := hI
  refine hCg ?_; clear hCg
  cases hx : xs[k]? with
  | none =>
    have hlen : xs.length ≤ k := List.getElem?_eq_none_iff.mp hx
    rw [List.drop_eq_nil_of_le hlen] at fw
    refine wpAny_noE (I.stop k H1 s1 A _ a.ao.hd hx a1.S fw.1 P1 fun s2 hk hg hos => ?_)
    obtain ⟨t1, t2⟩ := touch a1 ap1 hl hc hk hg hos
    exact wpAny_execs_nil ⟨_, rfl, .next, m1, H1, trivial, t1.S, t1.N, x1.touch hz hk t2, fw.2⟩
  | some y =>
    have hlt : k < xs.length := by
      by_cases q : k < xs.length
      · exact q
      · rw [List.getElem?_eq_none (by (first | lia | omega))] at hx; cases hx
    have hd : xs.drop k = y :: xs.drop (k + 1) := by
      rw [List.drop_eq_getElem_cons hlt]
      rw [List.getElem?_eq_getElem hlt] at hx
      rw [Option.some.inj hx]
    rw [hd] at fw
    refine wpAny_noE (I.next k y H1 s1 A _ hx a1.S fw.1 P1 fun pv s2 r hP2 hk hg hos => ?_)
    obtain ⟨t1, t2⟩ := touch a1 ap1 hl hc (fun b o n e => (hk b n).trans e) hg hos
    have ap2 : Apart C H1 s2.heap it := ⟨ap1.at_, fun z => ap1.hid (t2 _ z), ap1.base⟩
    have x2 := x1.touch hz (fun b o n e => (hk b n).trans e) t2
    obtain ⟨oi, lki⟩ := I.look _ _ hP2
    refine wpAny_noE (wpAny_assign_Name (store_ok hn t1 r fun s3 S3 N3 x3 => ?_))
    obtain ⟨lk3, ap3⟩ := x3.apart lki ap2 hl hc
    refine wpAny_mono (hb (t1.then S3 N3) fw.2) (fun fl s4 z => ?_) fun _ _ f => f.elim
    refine absG fun Cg hCg => ?_
    obtain ⟨mfl, m4, H4, r4, S4, N4, x4, H5, l5, q4⟩ := z
    obtain ⟨lk4, ap4⟩ := x4.apart lk3 ap3 hl hc
    have xx := ((x2.trans x3).trans x4).forget l5
    refine hCg ?_; clear hCg
    have ap5 : Apart C H5 s4.heap it := ⟨(by
      cases q : H5 it with
      | none => rfl
      | some o => have := l5 _ _ q; rw [ap4.at_] at this; cases this), fun ⟨a, c, fs, o, e1, e2, e3⟩ => ap4.hid ⟨a, c, fs, o, l5 _ _ e1, e2, e3⟩, ap4.base⟩
    have go : forW (wpSs Φ mb) [i] ok (xs.drop (k + 1)) m4 H5 Q → ∃ n, n < xs.length - k ∧ ∃ k m' H', n = xs.length - k ∧ forW (wpSs Φ mb) [i] ok (xs.drop k) m' H' Q ∧ At C c env A m' H' s4 ∧ ExtS env H s.heap H' s4.heap ∧ P k s4.heap ∧ Apart C H' s4.heap it := fun q =>
      ⟨xs.length - (k + 1), by (first | lia | omega), k + 1, m4, H5, rfl, q, a.then (S4.forget l5) (N4.forget l5), xx, I.same _ _ _ hP2 (fun o e => by rw [lki] at e; cases e; exact lk4), ap5⟩
    cases fl with
    | next => cases mfl <;> first | exact r4.elim | exact go q4
    | cont => cases mfl <;> first | exact r4.elim | exact go q4
    | brk => cases mfl <;> first | exact r4.elim | exact ⟨_, rfl, .next, m4, H5, trivial, S4.forget l5, N4.forget l5, xx, q4⟩
    | ret v => cases mfl <;> first | exact r4.elim | exact ⟨_, rfl, _, m4, H5, r4, S4.forget l5, N4.forget l5, xx, q4⟩
end ML
namespace ML
open PySem PySem.W PySem.Calls PyProof.Rows PySem.SeqAt
variable {C : Cfg} {Φ : Orac} {c : Ctx} {H H' H'' H1 : Heap} {s s' s1 s2 : Shared} {h h' h'' : PHeap} {A : Around} {env : Env} {m m' : Loc}
theorem src_of {e : Expr} {me : E} (he : SndE C Φ c e me) : SndSrc C Φ c e (.of me) := fun {env A m H s Q R} a hw k => by
  simp only [w_rng1, w_rng2, w_rng3, w_rngS, w_of] at hw
  refine he.then a hw fun v s1 x H1 r a1 x1 q => ?_
  unfold ofW at q
  split at q
  · rename_i p
    split at q
    · rename_i o hp
      obtain ⟨xs, e1, q⟩ := q
      cases r.ref
      have fin : o.lst? = some xs → ∀ {vs : List Value}, s1.heap.IsList p vs.toArray → wpAny C.M A (pyIter (.ref p)) R NoE s1 := by
        intro e1 vs l
        refine wpAny_pyIter_list l ?_
        obtain ⟨S2, x2⟩ := a1.S.push { cls := .type "list_iterator", data := .fields #[.ref p, .int 0 0] } s1.toks
        have hz := look_size s1.heap
        refine k s1.heap.objs.size _ xs _ H1 _ (iter_list (it := s1.heap.objs.size) (p := p) e1) ?_ (x1.alive _ hz) ⟨a1.S.none_of hz, fun z => ?_, a1.S.base_none hz⟩ (a1.on S2 x2) (x1.trans x2) q
        · exact ⟨_, Heap.get?_push_size _ rfl, rfl, rfl⟩
        · have z := Hid.same (h := s1.heap) (fun _ _ _ _ o e => push_keeps _ _ _ _ e) (fun a o e => (a1.S.rep _ _ e).look) z
          obtain ⟨ob, lk⟩ := z.look a1.S
          rw [hz] at lk; cases lk
      have rr := a1.S.rep _ _ hp
      cases o with
      | list ys => obtain ⟨vs, n, l, _⟩ := rr; exact fin e1 l.isList
      | ro ys => obtain ⟨vs, l, _⟩ := rr; exact fin e1 l
      | _ => cases e1
    · exact q.elim
  · exact q.elim
theorem Apart.new (S : StH C H s) {o : Obj} : Apart C H (s.heap.push o) s.heap.objs.size := by
  have hz := look_size s.heap
  refine ⟨S.none_of hz, fun z => ?_, S.base_none hz⟩
  have z := Hid.same (h := s.heap) (fun _ _ _ _ o e => push_keeps _ _ _ _ e) (fun a o e => (S.rep _ _ e).look) z
  obtain ⟨ob, lk⟩ := z.look S
  rw [hz] at lk; cases lk
theorem rng_iter {a b st : Int} {t u v : Tok} {ob : Addr} {n : Nat} {f : Nat → Int} {R : Value → Shared → Prop} (S : StH C H s) (hr : IsRange s.heap ob a b st t u v) (hsm : Builtin.Range.small a b st = true) (hsz : Builtin.Range.rangeSize a b st = n) (hf : ∀ k, f k = a + k * st)
    (k : ∀ it s2 P, IterOk C ((List.range n).map fun k => V.int (f k)) (fun _ => True) it P → P 0 s2.heap → s.heap.get? it = none → Apart C H s2.heap it → StH C H s2 → Ext H s.heap H s2.heap → R (.ref it) s2) : wpAny C.M A (pyIter (.ref ob)) R NoE s := by
  refine wpAny_pyIter_range hr hsm ?_
  obtain ⟨S2, x2⟩ := S.push { cls := .type "range_iterator", data := .fields #[rawInt a, rawInt (Builtin.Range.rangeSize a b st), rawInt st] } s.toks
  refine k s.heap.objs.size _ _ (iter_range (a := a) (st := st) (n := n) (f := f) hf) ⟨Nat.zero_le _, ?_⟩ (look_size _) (Apart.new S) S2 x2
  have e1 : a + ((0 : Nat) : Int) * st = a := by simp
  have e2 : (n : Int) - ((0 : Nat) : Int) = Builtin.Range.rangeSize a b st := by rw [hsz]; simp
  rw [e1, e2]
  exact Heap.get?_push_size _ rfl
theorem callT_ok {T : Str} {N : String} {p pos : Pos} {es : List Expr} {mes : List E} {Q : List V → Heap → Prop} {R : Value → Shared → Prop} (O : C.Ok) (hT : T ∈ bltNames) (hv : bootBuiltins T = some (.type N)) (hx : c.isGlob T = true) (hs : es.any isStar = false) (h : SndEs C Φ c es mes) (a : At C c env A m H s) (hw : wpEs Φ mes m H Q)
    (k : ∀ vs s1 xs H1, All2 RepV vs xs → At C c env A m H1 s1 → Ext H s.heap H1 s1.heap → Q xs H1 → wpAny C.M A (call (.type N) vs []) R NoE s1) : wpAny C.M A (eval (.Call (.Name T p) es [] pos) env) R NoE s := by
  have hne : T ≠ "__name__" := fun q => by subst q; exact absurd hT (by decide)
  have hnd : (T == ("__debug__" : Str)) = false := beq_eq_false_iff_ne.mpr fun q => by subst q; exact absurd hT (by decide)
  refine wpAny_Call_NameR (blt_ok O a hx hnd (O.blts _ hT) hv hne ?_)
  refine PySem.callWith_type (any_star hs) (wpAny_ext (args_ok hs h a hw) fun x s1 z => ?_)
  obtain ⟨hkw, xs, H1, _, r, S1, x1, q⟩ := z
  rw [hkw]
  exact k x.pos s1 xs H1 r (a.on S1 x1) x1 q
theorem All2.one {x : V} {vs : List Value} (h : All2 RepV vs [x]) : ∃ v, vs = [v] ∧ RepV v x := by
  cases h with | cons a r => cases r; exact ⟨_, rfl, a⟩
theorem All2.two {x y : V} {vs : List Value} (h : All2 RepV vs [x, y]) : ∃ v w, vs = [v, w] ∧ RepV v x ∧ RepV w y := by
  cases h with | cons a r => obtain ⟨w, rfl, b⟩ := r.one; exact ⟨_, _, rfl, a, b⟩
noncomputable def on1 (f : V → Heap → Prop) (vs : List V) (H : Heap) : Prop := match vs with | [x] => f x H | _ => False
noncomputable def on2 (f : V → V → Heap → Prop) (vs : List V) (H : Heap) : Prop := match vs with | [x, y] => f x y H | _ => False
theorem on1.get {f : V → Heap → Prop} {vs : List Value} {xs : List V} (h : on1 f xs H) (r : All2 RepV vs xs) : ∃ v x, vs = [v] ∧ xs = [x] ∧ RepV v x ∧ f x H := by
  unfold on1 at h
  split at h
  · obtain ⟨v, rfl, r1⟩ := r.one; exact ⟨v, _, rfl, rfl, r1, h⟩
  · exact h.elim
theorem on2.get {f : V → V → Heap → Prop} {vs : List Value} {xs : List V} (h : on2 f xs H) (r : All2 RepV vs xs) : ∃ v w x y, vs = [v, w] ∧ xs = [x, y] ∧ RepV v x ∧ RepV w y ∧ f x y H := by
  unfold on2 at h
  split at h
  · obtain ⟨v, w, rfl, r1, r2⟩ := r.two; exact ⟨v, w, _, _, rfl, rfl, r1, r2, h⟩
  · exact h.elim
theorem src_rng1 {e : Expr} {me : E} {p pos : Pos} (O : C.Ok) (hx : c.isGlob "range" = true) (hs : isStar e = false) (he : SndE C Φ c e me) : SndSrc C Φ c (.Call (.Name "range" p) [e] [] pos) (.rng1 me) := fun {env A m H s Q R} a hw k => by
  simp only [w_rng1, w_rng2, w_rng3, w_rngS, w_of] at hw
  have hw' : wpEs Φ [me] m H (on1 fun x H => rng1W x fun xs => Q xs (fun _ => True) H) := hw
  refine callT_ok O (by decide) rfl hx (by simp [hs]) (items_cons hs he items_nil) a hw' fun vs s1 xs H1 r a1 x1 q => ?_
  have g := q.get r
  clear q r
  obtain ⟨v, x, rfl, rfl, r, q⟩ := g
  unfold rng1W at q
  split at q
  · rename_i n
    obtain ⟨t, rfl⟩ := r.int
    obtain ⟨hm, q⟩ := q
    refine call_range_1 ?_
    obtain ⟨S2, x2⟩ := a1.S.push { cls := .type "range", data := .fields #[.int 0 s1.toks, .int n t, .int 1 (s1.toks + 1)] } (s1.toks + 1 + 1)
    refine rng_iter (n := n.toNat) (f := fun k => 0 + (k : Int)) S2 (IsRange.new _ _ _ _ _ _ _) (small_one (by decide) (by decide) hm.1 hm.2) (by rw [rangeSize_one]; split <;> (first | lia | omega)) (fun k => by simp) fun it s2 P I hP hz ap S3 x3 => ?_
    refine k it s2 _ _ H1 P I hP (x1.alive _ (x2.alive _ hz)) ap (a1.on S3 (x2.trans x3)) (x1.trans (x2.trans x3)) ?_
    unfold rngList at q
    rw [Int.sub_zero] at q
    exact q
  · exact q.elim
end ML
namespace ML
open PySem PySem.W PySem.Calls PyProof.Rows PySem.SeqAt
variable {C : Cfg} {Φ : Orac} {c : Ctx} {H H' H'' H1 : Heap} {s s' s1 s2 : Shared} {h h' h'' : PHeap} {A : Around} {env : Env} {m m' : Loc}
noncomputable def notSet (e : Expr) : Bool := !isSetE e
theorem marks_no {op : CmpOp} {e : Expr} (h : notSet e = true) : behindInMarks op e = false := by
  cases e <;> first | rfl | cases h
section
variable {e e1 e2 e3 : Expr} {m1 m2 m3 : E} {pos : Pos} {op op' : CmpOp}
theorem cmp_expr {Q : PV} (h1 : SndE C Φ c e1 m1) (h2 : SndE C Φ c e2 m2) (hn : notSet e2 = true) (a : At C c env A m H s) (hw : wpE Φ (.cmp (trCmp op) m1 m2) m H Q) :
    wpAny C.M A (eval (.Compare e1 [op] [e2] pos) env) (PE C H s Q) NoE s := by
  simp only [w_var, w_lit, w_bop, w_neg, w_cmp, w_cmp2, w_and, w_or, w_not, w_call, w_meth, w_new, w_prim, w_attr, w_idx, w_slice, w_list, w_tup, w_comp] at hw
  refine wpAny_Compare1 (h1.then a hw fun v s1 x H1 r1 a1 x1 q1 => h2.then a1 q1 fun v' s2 y H2 r2 a2 x2 q2 => ?_) (marks_no hn)
  refine wpAny_ext (cmp_ok a2.S r1 r2 a.ao.room q2) fun v s3 z => ?_
  obtain ⟨r, rfl, S3, x3, q⟩ := z
  exact ⟨.bool r, H2, rfl, S3, (x1.trans x2).trans x3, q⟩
theorem cmp_test {Q : Bool → Heap → Prop} {whole : Sem Value} (h1 : SndE C Φ c e1 m1) (h2 : SndE C Φ c e2 m2) (hn : notSet e2 = true) (a : At C c env A m H s) (hw : wpT Φ (.cmp (trCmp op) m1 m2) m H Q) :
    wpAny C.M A (isTrue (.Compare e1 [op] [e2] pos) env whole) (PT C H s Q) NoE s := by
  simp only [t_not, t_and, t_or, t_cmp, t_cmp2] at hw
  refine wpAny_isTrue_Compare1 (h1.then a hw fun v s1 x H1 r1 a1 x1 q1 => h2.then a1 q1 fun v' s2 y H2 r2 a2 x2 q2 => ?_) (marks_no hn)
  refine wpAny_ext (cmp_ok a2.S r1 r2 a.ao.room q2) fun v s3 z => ?_
  obtain ⟨r, rfl, S3, x3, q⟩ := z
  exact wpAny_truthy_bool ⟨H2, S3, (x1.trans x2).trans x3, q⟩
theorem bool_expr {f : Expr → Option E} (hf : ∀ e me, f e = some me → SndE C Φ c e me) {bop : PySem.BoolOp} : ∀ {es : List Expr} {me : E}, trBool f bop es = some me → SndE C Φ c (.BoolOp bop es pos) me := by
  intro es
  induction es with
  | nil => intro me h; cases h
  | cons e es ih =>
    intro me h
    cases es with
    | nil => intro env A m H s Q a hw; exact BoolOp_one (hf _ _ h a hw)
    | cons e' es =>
      intro env A m H s Q a hw
      cases bop with
      | And =>
        simp only [trBool, Option.bind_eq_bind, Option.bind_eq_some_iff, Option.some.injEq] at h
        obtain ⟨x, e1, y, e2, rfl⟩ := h
        simp only [w_var, w_lit, w_bop, w_neg, w_cmp, w_cmp2, w_and, w_or, w_not, w_call, w_meth, w_new, w_prim, w_attr, w_idx, w_slice, w_list, w_tup, w_comp] at hw
        refine BoolOp_and (SndE.then (hf _ _ e1) a hw fun v s1 x H1 r1 a1 x1 q1 => wpAny_ext (truthy_ok a1.S r1 q1) fun r s2 z => ?_)
        obtain ⟨rfl, z⟩ := z
        cases r with
        | true => exact wpAny_ext (ih e2 a1 z) fun _ _ z => PE.ext x1 z
        | false => exact ⟨x, H1, r1, a1.S, x1, z⟩
      | Or =>
        simp only [trBool, Option.bind_eq_bind, Option.bind_eq_some_iff, Option.some.injEq] at h
        obtain ⟨x, e1, y, e2, rfl⟩ := h
        simp only [w_var, w_lit, w_bop, w_neg, w_cmp, w_cmp2, w_and, w_or, w_not, w_call, w_meth, w_new, w_prim, w_attr, w_idx, w_slice, w_list, w_tup, w_comp] at hw
        refine BoolOp_or (SndE.then (hf _ _ e1) a hw fun v s1 x H1 r1 a1 x1 q1 => wpAny_ext (truthy_ok a1.S r1 q1) fun r s2 z => ?_)
        obtain ⟨rfl, z⟩ := z
        cases r with
        | true => exact ⟨x, H1, r1, a1.S, x1, z⟩
        | false => exact wpAny_ext (ih e2 a1 z) fun _ _ z => PE.ext x1 z
theorem bool_test {f : Expr → Option E} (hf : ∀ e me, f e = some me → SndT C Φ c e me) {bop : PySem.BoolOp} {whole : Sem Value} : ∀ {es : List Expr} {me : E}, trBool f bop es = some me →
    ∀ {env : Env} {A : Around} {m : Loc} {H : Heap} {s : Shared} {Q : Bool → Heap → Prop}, At C c env A m H s → wpT Φ me m H Q → wpAny C.M A (isTrue (.BoolOp bop es pos) env whole) (PT C H s Q) NoE s := by
  intro es
  induction es with
  | nil => intro me h; cases h
  | cons e es ih =>
    intro me h env A m H s Q a hw
    cases es with
    | nil =>
      cases bop with
      | And =>
        refine isTrue_and (wpAny_ext (hf _ _ h a hw) fun r s1 z => ?_)
        cases r with
        | true => exact isTrue_and_nil z
        | false => exact z
      | Or =>
        refine isTrue_or (wpAny_ext (hf _ _ h a hw) fun r s1 z => ?_)
        cases r with
        | true => exact z
        | false => exact isTrue_or_nil z
    | cons e' es =>
      cases bop with
      | And =>
        simp only [trBool, Option.bind_eq_bind, Option.bind_eq_some_iff, Option.some.injEq] at h
        obtain ⟨x, e1, y, e2, rfl⟩ := h
        simp only [t_not, t_and, t_or, t_cmp, t_cmp2] at hw
        refine isTrue_and (SndT.then (hf _ _ e1) a hw fun r s1 H1 a1 x1 q1 => ?_)
        cases r with
        | true => exact wpAny_ext (ih e2 a1 q1) fun _ _ z => PT.ext x1 z
        | false => exact ⟨H1, a1.S, x1, q1⟩
      | Or =>
        simp only [trBool, Option.bind_eq_bind, Option.bind_eq_some_iff, Option.some.injEq] at h
        obtain ⟨x, e1, y, e2, rfl⟩ := h
        simp only [t_not, t_and, t_or, t_cmp, t_cmp2] at hw
        refine isTrue_or (SndT.then (hf _ _ e1) a hw fun r s1 H1 a1 x1 q1 => ?_)
        cases r with
        | true => exact ⟨H1, a1.S, x1, q1⟩
        | false => exact wpAny_ext (ih e2 a1 q1) fun _ _ z => PT.ext x1 z
end
end ML
namespace ML
open PySem PySem.W PySem.Calls PyProof.Rows PySem.SeqAt
variable {C : Cfg} {Φ : Orac} {c : Ctx} {H H' H'' H1 : Heap} {s s' s1 s2 : Shared} {h h' h'' : PHeap} {A : Around} {env : Env} {m m' : Loc}
theorem callB_ok {T : Str} {N : String} {p pos : Pos} {es : List Expr} {mes : List E} {Q : List V → Heap → Prop} {R : Value → Shared → Prop} (O : C.Ok) (hT : T ∈ bltNames) (hv : bootBuiltins T = some (.builtin N)) (hx : c.isGlob T = true) (hs : es.any isStar = false) (h : SndEs C Φ c es mes) (a : At C c env A m H s) (hw : wpEs Φ mes m H Q)
    (k : ∀ vs s1 xs H1, All2 RepV vs xs → At C c env A m H1 s1 → Ext H s.heap H1 s1.heap → Q xs H1 → wpAny C.M A (call (.builtin N) vs []) R NoE s1) : wpAny C.M A (eval (.Call (.Name T p) es [] pos) env) R NoE s := by
  have hne : T ≠ "__name__" := fun q => by subst q; exact absurd hT (by decide)
  have hnd : (T == ("__debug__" : Str)) = false := beq_eq_false_iff_ne.mpr fun q => by subst q; exact absurd hT (by decide)
  refine wpAny_Call_NameR (blt_ok O a hx hnd (O.blts _ hT) hv hne ?_)
  refine Calls.callWith_builtin (any_star hs) (wpAny_ext (args_ok hs h a hw) fun x s1 z => ?_)
  obtain ⟨hkw, xs, H1, _, r, S1, x1, q⟩ := z
  rw [hkw]
  exact k x.pos s1 xs H1 r (a.on S1 x1) x1 q
theorem len_fit {xs : List V} {vs : List Value} (r : All2 RepV vs xs) (hz : vs.length ≤ 2 * lim) : ((vs.toArray.size : Nat) : Int) < 2 ^ 63 := by
  have : lim = 1000000 := rfl
  simp only [List.size_toArray]; (first | lia | omega)
theorem len_call {vs : List Value} {xs : List V} {Q : PV} (hh : A.handled = none) (S : StH C H s) (r : All2 RepV vs xs) (hw : primW .len xs H Q) : wpAny C.M A (call (.builtin "len") vs []) (PE C H s Q) NoE s := by
  replace hw : lenW xs H Q := hw
  unfold lenW at hw
  split at hw
  · rename_i a
    obtain ⟨v, rfl, r1⟩ := r.one
    cases r1.ref
    split at hw
    · rename_i x hx
      obtain ⟨ys, e, q⟩ := hw
      have rr := S.rep _ _ hx
      cases x with
      | list zs => cases e; obtain ⟨us, n, l, r2, hz⟩ := rr; exact len_list l.isList (len_fit r2 hz) (PE.int S (by simpa [r2.length] using q) _)
      | ro zs => cases e; obtain ⟨us, l, r2, hz⟩ := rr; exact len_list l (len_fit r2 (by have : lim = 1000000 := rfl; (first | lia | omega))) (PE.int S (by simpa [r2.length] using q) _)
      | tup zs => cases e; obtain ⟨us, l, r2, hz⟩ := rr; exact PyProof.Rows.len_tuple l (len_fit r2 hz) (PE.int S (by simpa [r2.length] using q) _)
      | _ => cases e
    · exact hw.elim
  · exact hw.elim
end ML
namespace ML
open PySem PySem.W PySem.Calls PyProof.Rows PySem.SeqAt
variable {l : List (Str × NameKind)} {C : Cfg} {Φ : Orac} {c : Ctx} {H H' H'' H1 : Heap} {s s' s1 s2 : Shared} {h h' h'' : PHeap} {A : Around} {env : Env} {m m' : Loc}
theorem StH.adopt (S : StH C H s) {b : Addr} {o : O} (ap : Apart C H s.heap b) (hn : ∀ c fs, o ≠ .inst c fs) (hr : RepO C s.heap b o) : StH C (H.upd b o) s := by
  have cases' : ∀ d x, (H.upd b o) d = some x → (d = b ∧ x = o) ∨ H d = some x := fun d x e => by
    by_cases q : d = b
    · subst q; simp [Heap.upd] at e; exact .inl ⟨rfl, e.symm⟩
    · simp [Heap.upd, q] at e; exact .inr e
  have hid' : ∀ d, Hid (H.upd b o) s.heap d → Hid H s.heap d := fun d ⟨a, c, fs, x, e1, e2, e3⟩ =>
    (cases' _ _ e1).elim (fun ⟨_, q⟩ => absurd q.symm (hn c fs)) fun e1 => ⟨a, c, fs, x, e1, e2, e3⟩
  refine ⟨S.base, fun a x e => ?_, fun d f => ?_, fun d x => ?_, ?_, S.gens, S.os⟩
  · rcases cases' _ _ e with ⟨rfl, rfl⟩ | e
    · exact hr
    · exact S.rep _ _ e
  · rcases f with ⟨x, f⟩ | ⟨x, f⟩ | f
    · rcases cases' _ _ f with ⟨rfl, _⟩ | f
      · exact ap.base
      · exact S.own _ (.inl ⟨x, f⟩)
    · rcases cases' _ _ f with ⟨rfl, _⟩ | f
      · exact ap.base
      · exact S.own _ (.inr (.inl ⟨x, f⟩))
    · exact S.own _ (.inr (.inr (hid' _ f)))
  · have y := hid' _ x
    have ne : d ≠ b := fun q => ap.hid (q ▸ y)
    simp only [Heap.upd, ne, if_false]; exact S.hid _ y
  · intro a a' c fs c' fs' x x' d e1 e2
    rcases cases' _ _ e1 with ⟨_, q⟩ | e1
    · exact absurd q.symm (hn c fs)
    · rcases cases' _ _ e2 with ⟨_, q⟩ | e2
      · exact absurd q.symm (hn c' fs')
      · exact S.inj a a' c fs c' fs' x x' d e1 e2
theorem Ext.adopt (x : Ext H h H' h') {b : Addr} {o : O} (hz : h.get? b = none) (hn : ∀ c fs, o ≠ .inst c fs) : Ext H h (H'.upd b o) h' := by
  have cases' : ∀ d x, (H'.upd b o) d = some x → (d = b ∧ x = o) ∨ H' d = some x := fun d x e => by
    by_cases q : d = b
    · subst q; simp [Heap.upd] at e; exact .inl ⟨rfl, e.symm⟩
    · simp [Heap.upd, q] at e; exact .inr e
  refine ⟨x.keep, x.alive, fun d f => ?_, fun d y e => ?_⟩
  · rcases f with ⟨y, f⟩ | ⟨y, f⟩ | ⟨a, c, fs, y, e1, e2, e3⟩
    · rcases cases' _ _ f with ⟨rfl, _⟩ | f
      · exact .inr hz
      · exact x.fresh _ (.inl ⟨y, f⟩)
    · rcases cases' _ _ f with ⟨rfl, _⟩ | f
      · exact .inr hz
      · exact x.fresh _ (.inr (.inl ⟨y, f⟩))
    · rcases cases' _ _ e1 with ⟨_, q⟩ | e1
      · exact absurd q.symm (hn c fs)
      · exact x.fresh _ (.inr (.inr ⟨a, c, fs, y, e1, e2, e3⟩))
  · rcases cases' _ _ e with ⟨rfl, _⟩ | e
    · exact .inr hz
    · exact x.dom _ _ e
theorem Ext.touch {it : Addr} (x : Ext H h H' h') (hz : h.get? it = none) (hk : ∀ b o, b ≠ it → h'.get? b = some o → h''.get? b = some o) (hh : ∀ b, Hid H' h'' b → Hid H' h' b) : Ext H h H' h'' where
  keep b o e n := hk b o (fun q => by rw [q, hz] at e; cases e) (x.keep b o e n)
  alive b e := by
    by_cases q : b = it
    · rw [q]; exact hz
    · refine x.alive b ?_
      cases z : h'.get? b with
      | none => rfl
      | some o => rw [hk b o q z] at e; cases e
  fresh b f := x.fresh b (by
    rcases f with f | f | f
    · exact .inl f
    · exact .inr (.inl f)
    · exact .inr (.inr (hh _ f)))
  dom b o e := x.dom b o e
theorem Apart.ext (x : Ext H h H' h') {b : Addr} {o : Obj} (e : h.get? b = some o) (a : Apart C H h b) : h'.get? b = some o ∧ Apart C H' h' b :=
  let ⟨p, q, r⟩ := x.apart e a.at_ a.hid
  ⟨p, q, r, a.base⟩
theorem Apart.le {b : Addr} (a : Apart C H h b) (l : H'.le H) : Apart C H' h b := ⟨(by
    cases q : H' b with
    | none => rfl
    | some o => have := l _ _ q; rw [a.at_] at this; cases this), fun ⟨d, c, fs, o, e1, e2, e3⟩ => a.hid ⟨d, c, fs, o, l _ _ e1, e2, e3⟩, a.base⟩
theorem Apart.hidMono {b : Addr} (a : Apart C H h b) (hh : ∀ b, Hid H h' b → Hid H h b) : Apart C H h' b := ⟨a.at_, fun z => a.hid (hh _ z), a.base⟩
theorem Apart.fresh (S : StH C H s) {b : Addr} (hz : s.heap.get? b = none) : Apart C H s.heap b := ⟨S.none_of hz, fun z => (by
  obtain ⟨ob, lk⟩ := z.look S
  rw [hz] at lk; cases lk), S.base_none hz⟩
theorem hid_grow (S : StH C H s) (hk : ∀ b o, s.heap.get? b = some o → h'.get? b = some o) : ∀ b, Hid H h' b → Hid H s.heap b := fun b z => z.same (fun _ _ _ _ o e => hk _ _ e) fun a o e => (S.rep _ _ e).look
theorem store_local {x : Str} {pv : Value} {v : V} {i : Nat} {R : Unit → Shared → Prop} (hk : c.kinds.lookup x = some .local) (hn : c.ν.lookup x = some i) (a : At C c env A m H s) (r : RepV pv v)
    (k : ∀ s', At C c env A (m.set i (some v)) H s' → (∀ b, b ≠ env.locals → s'.heap.get? b = s.heap.get? b) → s'.gens = s.gens → s'.os = s.os → (∀ b, Hid H s'.heap b → Hid H s.heap b) → R () s') : wpAny C.M A (storeName env x pv) R NoE s := by
  have hi : i < m.length := by rw [a.N.len]; exact a.eo.bnd _ _ hn
  have self : OptRep (some pv) ((m.set i (some v))[i]?.join) := by rw [List.getElem?_set_self hi]; exact r
  refine absG fun Cg hCg => ?_
  obtain ⟨mm, hN, hm⟩ := a.N.ns
  refine hCg ?_; clear hCg
  refine wpAny_storeName_local (a.eo.kloc _ hk) hN (fun h' hN' hs => ?_) (by rw [a.eo.kind]; rfl)
  have Q1 := quiet_one (s' := { s with heap := h', toks := s.toks + 1 }) a.S a.N.apL (fun b n => hs.2 b n) (let ⟨o, _, _, ho, _⟩ := hN'; ⟨o, ho⟩) rfl rfl
  refine k _ ⟨a.eo, a.ao, Q1.1, ⟨by rw [List.length_set]; exact a.N.len, ⟨_, hN', fun y j hy hky => ?_⟩, fun y j hy hky => ?_, ⟨a.N.apL.1, fun z => a.N.apL.2.1 ((Q1.2 _).mp z), a.N.apL.2.2⟩, fun y b e => ?_, a.N.injC⟩⟩ (fun b n => hs.2 b n) rfl rfl fun b z => (Q1.2 b).mp z
  · by_cases q : y = x
    · subst q; rw [hn] at hy; cases hy; rw [if_pos rfl]; exact self
    · rw [if_neg q]
      have : j ≠ i := fun z => q (a.eo.inj _ _ _ hy (z ▸ hn))
      exact optRep_set hi this (hm y j hy hky)
  · refine absG fun Cg hCg => ?_
    obtain ⟨ca, ov, e1, e2, e3⟩ := a.N.cells y j hy hky
    obtain ⟨n1, n2, n3, n4, _⟩ := a.N.apC _ _ e1
    refine hCg ?_; clear hCg
    have : j ≠ i := fun z => by
      have := a.eo.inj _ _ _ hy (z ▸ hn)
      subst this
      rcases hky with q | q <;> (rw [hk] at q; cases q)
    exact ⟨ca, ov, e1, e2.sameBut hs n4, optRep_set hi this e3⟩
  · refine absG fun Cg hCg => ?_
    obtain ⟨n1, n2, n3, n4, o, lk⟩ := a.N.apC _ _ e
    refine hCg ?_; clear hCg
    exact ⟨n1, fun z => n2 ((Q1.2 _).mp z), n3, n4, o, (hs.2 _ n4).trans lk⟩
noncomputable def closOf (env : Env) : List (Str × NameKind) → List (Str × Addr) → List (Str × Addr)
  | [], acc => acc
  | (x, k) :: r, acc => closOf env r (if k == .free then (x, (env.cells.lookup x).getD 0) :: acc else acc)
theorem closOf_ok {scope : Scope} (h : ∀ x, (x, NameKind.free) ∈ scope.names → ∃ a, env.cells.lookup x = some a) : closureFor scope env = pure (closOf env scope.names []) := by
  unfold closureFor
  have key : ∀ (l : List (Str × NameKind)) (acc : List (Str × Addr)), (∀ x, (x, NameKind.free) ∈ l → ∃ a, env.cells.lookup x = some a) →
      (forIn l acc fun (x : Str × NameKind) (cs : List (Str × Addr)) => (match x with | (name, kind) => (if kind == .free then do let y ← cellOf env name; pure (ForInStep.yield ((name, y) :: cs)) else pure (ForInStep.yield cs)) : Sem (ForInStep (List (Str × Addr))))) = pure (closOf env l acc) := by
    intro l
    induction l with
    | nil => intro acc _; rfl
    | cons p r ih =>
      intro acc hl
      obtain ⟨x, k⟩ := p
      rw [List.forIn_cons]
      dsimp only
      by_cases hk : (k == NameKind.free) = true
      · obtain ⟨a, ha⟩ := hl x (by rw [beq_iff_eq.mp hk]; exact .head _)
        rw [if_pos hk]
        unfold closOf
        rw [if_pos hk, ha]
        have e : cellOf env x = pure a := by unfold cellOf; rw [ha]
        rw [e]
        exact ih _ fun y hy => hl y (.tail _ hy)
      · rw [if_neg hk]
        unfold closOf
        rw [if_neg hk]
        exact ih _ fun y hy => hl y (.tail _ hy)
  have k := key scope.names [] h
  exact congrArg (fun z : Sem (List (Str × Addr)) => z >>= fun cs => pure cs) k
theorem closOf_mem : ∀ {l : List (Str × NameKind)} {acc : List (Str × Addr)} {P : Str × Addr → Prop}, (∀ x, (x, NameKind.free) ∈ l → P (x, (env.cells.lookup x).getD 0)) → (∀ y ∈ acc, P y) → ∀ y ∈ closOf env l acc, P y
  | [], acc, P, _, h2 => h2
  | (x, k) :: r, acc, P, h1, h2 => by
    unfold closOf
    refine closOf_mem (fun y hy => h1 y (.tail _ hy)) ?_
    by_cases hk : (k == NameKind.free) = true
    · rw [if_pos hk]
      intro y hy
      cases hy with
      | head => exact h1 x (by rw [beq_iff_eq.mp hk]; exact .head _)
      | tail _ hy => exact h2 y hy
    · rw [if_neg hk]; exact h2
theorem closOf_sub : ∀ {l : List (Str × NameKind)} {acc : List (Str × Addr)} {y : Str × Addr}, y ∈ acc → y ∈ closOf env l acc
  | [], _, _, h => h
  | (x, k) :: r, acc, y, h => by
    unfold closOf
    refine closOf_sub ?_
    by_cases hk : (k == NameKind.free) = true
    · rw [if_pos hk]; exact .tail _ h
    · rw [if_neg hk]; exact h
theorem closOf_has : ∀ {l : List (Str × NameKind)} {acc : List (Str × Addr)} {x : Str}, (x, NameKind.free) ∈ l → (x, (env.cells.lookup x).getD 0) ∈ closOf env l acc
  | (y, k) :: r, acc, x, h => by
    unfold closOf
    cases h with
    | head => rw [if_pos (by rfl)]; exact closOf_sub (.head _)
    | tail _ h => exact closOf_has h
theorem lookup_mem {α : Type} : ∀ {l : List (Str × α)} {x : Str} {a : α}, l.lookup x = some a → (x, a) ∈ l
  | (y, b) :: r, x, a, h => by
    simp only [List.lookup] at h
    split at h
    · rename_i q; cases h; rw [beq_iff_eq.mp q]; exact .head _
    · exact .tail _ (lookup_mem h)
theorem lookup_some {α : Type} : ∀ {l : List (Str × α)} {x : Str} {a : α}, (x, a) ∈ l → ∃ b, l.lookup x = some b
  | (y, b) :: r, x, a, h => by
    simp only [List.lookup]
    split
    · exact ⟨_, rfl⟩
    · rename_i q
      cases h with
      | head => simp at q
      | tail _ h => exact lookup_some h
theorem clos_lookup (h : ∀ x, (x, NameKind.free) ∈ l → ∃ a, env.cells.lookup x = some a) {x : Str} {a : Addr} (e : (closOf env l []).lookup x = some a) : env.cells.lookup x = some a := by
  refine closOf_mem (P := fun y => env.cells.lookup y.1 = some y.2) (fun x hx => ?_) (fun _ h => by cases h) _ (lookup_mem e)
  obtain ⟨a, ha⟩ := h x hx
  show env.cells.lookup x = some ((env.cells.lookup x).getD 0)
  rw [ha]; rfl
theorem clos_lookup' (h : ∀ x, (x, NameKind.free) ∈ l → ∃ a, env.cells.lookup x = some a) {x : Str} {a : Addr} (hx : (x, NameKind.free) ∈ l) (e : env.cells.lookup x = some a) : (closOf env l []).lookup x = some a := by
  obtain ⟨b, hb⟩ := lookup_some (closOf_has (env := env) (acc := []) hx)
  have := clos_lookup h hb
  rw [e] at this; cases this; exact hb
theorem lookup_relabel {env : Env} : ∀ {names : List (Str × NameKind)} {x : Str} {k : NameKind}, names.lookup x = some k →
    (names.map fun (n, k) => if (k == NameKind.free && env.scope.kind == .function && env.kindOf n == some .cell) then (n, NameKind.cell) else (n, k)).lookup x = some k ∨
    (k = .free ∧ (names.map fun (n, k) => if (k == NameKind.free && env.scope.kind == .function && env.kindOf n == some .cell) then (n, NameKind.cell) else (n, k)).lookup x = some .cell)
  | (n, k') :: r, x, k, h => by
    have ih := @lookup_relabel env r x k
    rw [List.map_cons]
    cases hx : x == n with
    | true =>
      simp only [List.lookup_cons, hx] at h
      cases h
      dsimp only
      by_cases hc : (k' == NameKind.free && env.scope.kind == .function && env.kindOf n == some .cell) = true
      · rw [if_pos hc]
        simp only [Bool.and_eq_true] at hc
        exact .inr ⟨beq_iff_eq.mp hc.1.1, by simp only [List.lookup_cons, hx]⟩
      · rw [if_neg hc]; exact .inl (by simp only [List.lookup_cons, hx])
    | false =>
      simp only [List.lookup_cons, hx] at h
      dsimp only
      by_cases hc : (k' == NameKind.free && env.scope.kind == .function && env.kindOf n == some .cell) = true
      · rw [if_pos hc]; simp only [List.lookup_cons, hx]; exact ih h
      · rw [if_neg hc]; simp only [List.lookup_cons, hx]; exact ih h
structure CompOk (c : Ctx) (sc : Scope) (x : Str) : Prop where
  kind : sc.kind = .function
  own : sc.names.lookup x = some .local
  cell : ∀ y ∈ sc.names, y.2 ≠ .cell
  loc : ∀ y ∈ sc.names, y.2 = .local → sc.names.lookup y.1 = some .local
  free : ∀ y, (y, NameKind.free) ∈ sc.names → ∃ i, c.ν.lookup y = some i ∧ isCell c y
  alone : ∀ y ∈ sc.names, y.2 = .local → y.1 = x ∨ c.ν.lookup y.1 = none
structure CompB (c : Ctx) (sc : Scope) : Prop where
  kind : sc.kind = .function
  loc : ∀ y ∈ sc.names, y.2 = .local → sc.names.lookup y.1 = some .local
  free : ∀ y, (y, NameKind.free) ∈ sc.names → ∃ i, c.ν.lookup y = some i ∧ isCell c y
theorem CompOk.toB {sc : Scope} {x : Str} (K : CompOk c sc x) : CompB c sc := ⟨K.kind, K.loc, K.free⟩
theorem compOk_ok {sc : Scope} {x : Str} (h : compOk c sc x = true) : CompOk c sc x := by
  unfold compOk at h
  simp only [Bool.and_eq_true] at h
  refine absG fun Cg hCg => ?_
  obtain ⟨⟨h1, h2⟩, h3⟩ := h
  refine hCg ?_; clear hCg
  rw [List.all_eq_true] at h3
  refine ⟨by simpa using h1, beq_iff_eq.mp h2, fun y hy q => ?_, fun y hy q => ?_, fun y hy => ?_, fun y hy q => ?_⟩
  · have := h3 y hy
    unfold compName at this
    rw [q] at this
    cases this
  · have := h3 y hy
    unfold compName at this
    rw [q] at this
    simp only [Bool.and_eq_true, Bool.or_eq_true, beq_iff_eq] at this
    exact this.1
  · have := h3 _ hy
    unfold compName at this
    simp only [Bool.and_eq_true, Bool.or_eq_true, beq_iff_eq] at this
    obtain ⟨i, hi⟩ := Option.isSome_iff_exists.mp this.1
    exact ⟨i, hi, this.2⟩
  · have := h3 y hy
    unfold compName at this
    rw [q] at this
    simp only [Bool.and_eq_true, Bool.or_eq_true, beq_iff_eq] at this
    exact this.2
theorem inner_at {sc : Scope} {x : Str} {Cf : Addr} {mm : Str → Option Value} (K : CompOk c sc x) (a : At C c env A m H s) (hN : s.heap.Ns Cf mm) (hx : mm x = none) (ap : Apart C H s.heap Cf) (hl : Cf ≠ env.locals) (hc : ∀ x, env.cells.lookup x ≠ some Cf) :
    At C (c.inner1 sc x) (compEnvC sc (closOf env sc.names []) Cf env) A (m ++ [none]) H s := by
  have hfree : ∀ y, (y, NameKind.free) ∈ sc.names → ∃ b, env.cells.lookup y = some b := fun y hy => by
    refine absG fun Cg hCg => ?_
    obtain ⟨i, hi, hk⟩ := K.free y hy
    obtain ⟨b, ov, e, _⟩ := a.N.cells y i hi hk
    refine hCg ?_; clear hCg
    exact ⟨b, e⟩
  have hnu : ∀ y i, (c.inner1 sc x).ν.lookup y = some i → (y = x ∧ i = c.next) ∨ (y ≠ x ∧ c.ν.lookup y = some i) := fun y i e => by
    simp only [Ctx.inner1, List.lookup] at e
    split at e
    · rename_i q; cases e; exact .inl ⟨beq_iff_eq.mp q, rfl⟩
    · rename_i q; exact .inr ⟨by simpa using q, e⟩
  have hkf : ∀ y, isCell (c.inner1 sc x) y → (y, NameKind.free) ∈ sc.names := fun y q => by
    rcases q with q | q
    · exact absurd rfl (K.cell _ (lookup_mem q))
    · exact lookup_mem q
  have hkl : ∀ y i, (c.inner1 sc x).ν.lookup y = some i → isCell (c.inner1 sc x) y → c.ν.lookup y = some i ∧ isCell c y := fun y i e q => by
    rcases hnu y i e with ⟨rfl, _⟩ | ⟨_, e'⟩
    · rcases q with q | q <;> (have q : sc.names.lookup y = some _ := q; rw [K.own] at q; cases q)
    · refine absG fun Cg hCg => ?_
      obtain ⟨j, hj, hk⟩ := K.free y (hkf y q)
      refine hCg ?_; clear hCg
      rw [hj] at e'; cases e'; exact ⟨hj, hk⟩
  refine ⟨⟨a.eo.glob, a.eo.blts, K.kind, fun y e => ?_, fun y e => lookup_relabel_local e, fun y e => ?_, fun y e => ?_, fun y z i e1 e2 => ?_, fun y i e => ?_
    , a.eo.code
    ⟩, ⟨a.ao.hd, a.ao.dp, a.ao.un⟩, a.S,
    ⟨?_, ⟨mm, hN, fun y i e k => ?_⟩, fun y i e k => ?_, ⟨ap.at_, ap.hid, ap.base⟩, fun y b e => ?_, fun y z b e1 e2 => ?_⟩⟩
  · exact (lookup_relabel e).elim id fun q => by cases q.1
  · exact absurd rfl (K.cell _ (lookup_mem e))
  · exact (lookup_relabel e).elim .inl fun q => .inr q.2
  · rcases hnu y i e1 with ⟨rfl, rfl⟩ | ⟨_, e1'⟩
    · rcases hnu z _ e2 with ⟨rfl, _⟩ | ⟨_, e2'⟩
      · rfl
      · exact absurd (a.eo.bnd _ _ e2') (Nat.lt_irrefl _)
    · rcases hnu z _ e2 with ⟨rfl, rfl⟩ | ⟨_, e2'⟩
      · exact absurd (a.eo.bnd _ _ e1') (Nat.lt_irrefl _)
      · exact a.eo.inj _ _ _ e1' e2'
  · rcases hnu y i e with ⟨_, rfl⟩ | ⟨_, e⟩
    · exact Nat.lt_succ_self _
    · exact Nat.lt_succ_of_lt (a.eo.bnd _ _ e)
  · rw [List.length_append, a.N.len]; rfl
  · rcases hnu y i e with ⟨rfl, rfl⟩ | ⟨n, e'⟩
    · rw [hx, ← a.N.len, List.getElem?_append_right (Nat.le_refl _), Nat.sub_self]; trivial
    · rcases K.alone _ (lookup_mem k) rfl with q | q
      · exact absurd q n
      · rw [show c.ν.lookup y = none from q] at e'; cases e'
  · obtain ⟨e', k'⟩ := hkl y i e k
    refine absG fun Cg hCg => ?_
    obtain ⟨b, ov, e1, e2, e3⟩ := a.N.cells y i e' k'
    refine hCg ?_; clear hCg
    refine ⟨b, ov, clos_lookup' hfree (hkf y k) e1, e2, ?_⟩
    rw [List.getElem?_append_left (by rw [a.N.len]; exact a.eo.bnd _ _ e')]; exact e3
  · refine absG fun Cg hCg => ?_
    obtain ⟨n1, n2, n3, n4, o, lk⟩ := a.N.apC _ _ (clos_lookup hfree e)
    refine hCg ?_; clear hCg
    exact ⟨n1, n2, n3, fun q => hc y (by have z := clos_lookup hfree e; rw [show b = Cf from q] at z; exact z), o, lk⟩
  · exact a.N.injC _ _ _ (clos_lookup hfree e1) (clos_lookup hfree e2)
end ML
namespace ML
open PySem PySem.W PySem.Calls PyProof.Rows PySem.SeqAt
variable {C : Cfg} {Φ : Orac} {c : Ctx} {H H' H'' H1 : Heap} {s s' s1 s2 : Shared} {h h' h'' : PHeap} {A : Around} {env : Env} {m m' : Loc}
noncomputable def SndC (C : Cfg) (Φ : Orac) (c : Ctx) (ifs : List Expr) (mc : Option E) : Prop :=
  (ifs = [] ∧ mc = none) ∨ ∃ t mt, ifs = [t] ∧ mc = some mt ∧ SndT C Φ c t mt
theorem SndC.then {ifs : List Expr} {mc : Option E} {Q : Bool → Heap → Prop} {R : Bool → Shared → Prop} (h : SndC C Φ c ifs mc) (a : At C c env A m H s) (hw : wpC Φ mc m H Q)
    (k : ∀ r s1 H1, At C c env A m H1 s1 → Ext H s.heap H1 s1.heap → Q r H1 → R r s1) :
    wpAny C.M A (forIn ifs true fun c r => if r = true then do let ok ← isTrue c env (eval c env); pure (ForInStep.yield ok) else pure (ForInStep.yield r)) R NoE s := by
  rcases h with ⟨rfl, rfl⟩ | ⟨t, mt, rfl, rfl, ht⟩
  · simp only [w_cnone, w_csome] at hw
    exact wpAny_tests_nil (k true s H a Ext.refl hw)
  · simp only [w_cnone, w_csome] at hw
    exact wpAny_tests_one (SndT.then ht a hw k)
noncomputable abbrev CompInv (C : Cfg) (Φ : Orac) (ci : Ctx) (ce : Env) (A : Around) (m : Loc) (H : Heap) (h : PHeap) (Q : PV) (melt : E) (mc : Option E) (ok : Heap → Prop) (P : Nat → PHeap → Prop) (xs : List V) (it D : Addr) (n : Nat) (s' : Shared) : Prop :=
  ∃ k acc H' ov vs nn, n = xs.length - k ∧ compW (wpE Φ melt) (wpC Φ mc) 1 ok m (xs.drop k) acc H' Q ∧ At C ci ce A (m ++ [ov]) H' s' ∧ Ext H h H' s'.heap ∧ P k s'.heap ∧
    Apart C H' s'.heap it ∧ Apart C H' s'.heap D ∧ IsL s'.heap D vs.toArray nn ∧ All2 RepV vs acc
theorem hfree_of {sc : Scope} (K : CompB c sc) (N : EnvSt C c env m H h) : ∀ y, (y, NameKind.free) ∈ sc.names → ∃ b, env.cells.lookup y = some b := fun y hy => by
  refine absG fun Cg hCg => ?_
  obtain ⟨i, hi, hk⟩ := K.free y hy
  obtain ⟨b, ov, e, _⟩ := N.cells y i hi hk
  refine hCg ?_; clear hCg
  exact ⟨b, e⟩
theorem comp_loop {elt iter : Expr} {x : Str} {px pos : Pos} {ifs : List Expr} {sc : Scope} {melt : E} {mc : Option E} {Q : PV} {RR : Value → Addr → Result → Shared → Prop} {ci : Ctx} {ce : Env} {W : Addr}
    (hst : ∀ {m' : Loc} {H' : Heap} {s5 : Shared} {pv : Value} {y : V} {R : Unit → Shared → Prop}, At C ci ce A m' H' s5 → RepV pv y → (∀ s', At C ci ce A (m'.set m.length (some y)) H' s' → (∀ b, b ≠ W → s'.heap.get? b = s5.heap.get? b) → s'.gens = s5.gens → s'.os = s5.os → (∀ b, Hid H' s'.heap b → Hid H' s5.heap b) → R () s') → wpAny C.M A (storeName ce x pv) R NoE s5)
    (helt : SndE C Φ ci elt melt) (hc : SndC C Φ ci ifs mc) (a : At C c env A m H s)
    (hRR : ∀ D Cf s' H', s.heap.get? Cf = none → D ≠ Cf → (∃ mm, s'.heap.Ns Cf mm) → Apart C H' s'.heap Cf → StH C H' s' → Ext H s.heap H' s'.heap → Q (.ref D) H' → RR (.ref D) Cf (.ok .next) s')
    {it D : Addr} {s2 s3 : Shared} {xs : List V} {ok : Heap → Prop} {H2 : Heap} {P : Nat → PHeap → Prop} (I : IterOk C xs ok it P) (hP : P 0 s2.heap) (hz : s.heap.get? it = none) (ap : Apart C H2 s2.heap it) (a2 : At C c env A m H2 s2) (x2 : Ext H s.heap H2 s2.heap) (q2 : compW (wpE Φ melt) (wpC Φ mc) 1 ok m xs [] H2 Q)
    (hDC : D ≠ ce.locals) (hDz : s2.heap.get? D = none) (hCz : s2.heap.get? ce.locals = none) (hWz : s2.heap.get? W = none) (hDW : D ≠ W) (hcit : ∀ y, ce.cells.lookup y ≠ some it) (hcD : ∀ y, ce.cells.lookup y ≠ some D) (hk3 : ∀ b o, s2.heap.get? b = some o → s3.heap.get? b = some o) (x3 : Ext H2 s2.heap H2 s3.heap) (a3 : At C ci ce A (m ++ [none]) H2 s3) (lkD : s3.heap.get? D = some { cls := .type "list", dict := none, data := .seq ([] : List Value).toArray }) :
    codeAny C.M A (.compLoop (.ListComp elt [⟨.Name x px, iter, ifs, 0⟩] sc pos) 0 (.ref it) (.ref D) ce) (RR (.ref D) ce.locals) s3 := by
  obtain ⟨oit, lkit⟩ := I.look _ _ hP
  have hDit : D ≠ it := fun q => by rw [q, lkit] at hDz; cases hDz
  have hCit : ce.locals ≠ it := fun q => by rw [q, lkit] at hCz; cases hCz
  have zD : s.heap.get? D = none := x2.alive _ hDz
  have zC : s.heap.get? ce.locals = none := x2.alive _ hCz
  have hWit : W ≠ it := fun q => by rw [q, lkit] at hWz; cases hWz
  have zW : s.heap.get? W = none := x2.alive _ hWz
  have hid3 := hid_grow a2.S hk3
  have apD : Apart C H2 s3.heap D := (Apart.fresh a2.S hDz).hidMono hid3
  refine codeAny_compLoop_tests (CompInv C Φ ci ce A m H s.heap Q melt mc ok P xs it D) (fun n s4 hI => ?_) _
    ⟨0, [], H2, none, [], 0, rfl, q2, a3, x2.trans x3, I.same _ _ _ hP (fun o e => hk3 _ _ e), ap.hidMono hid3, apD, lkD, .nil⟩
  refine absG fun Cg hCg => ?_
  obtain ⟨k, acc, H4, ov, vs, nn, rfl, cw, a4, x4, P4, ap4, apD4, l4, r4⟩ := hI
  have apC4 : Apart C H4 s4.heap ce.locals := ⟨a4.N.apL.1, a4.N.apL.2.1, a4.N.apL.2.2⟩
  refine hCg ?_; clear hCg
  cases hx : xs[k]? with
  | none =>
    have hlen : xs.length ≤ k := List.getElem?_eq_none_iff.mp hx
    rw [List.drop_eq_nil_of_le hlen] at cw
    refine absG fun Cg hCg => ?_
    obtain ⟨hok, hal, cw⟩ := cw
    refine hCg ?_; clear hCg
    refine wpAny_noE (I.stop k H4 s4 A _ a.ao.hd hx a4.S hok P4 fun s5 hk hg hos => ?_)
    obtain ⟨t1, t2⟩ := touch a4 ap4 (fun q => hCit q.symm) hcit hk hg hos
    have x5 := x4.touch hz hk t2
    have l5 : IsL s5.heap D vs.toArray nn := hk _ _ hDit l4
    have apD5 := apD4.hidMono t2
    have S5 := t1.S.adopt (o := .list acc) apD5 (fun _ _ q => by cases q) ⟨vs, nn, l5, r4, by rw [r4.length]; (first | lia | omega)⟩
    have x6 := x5.adopt (o := .list acc) zD (fun _ _ q => by cases q)
    have apC5 := apC4.hidMono t2
    refine hRR D ce.locals s5 _ zC hDC (let ⟨mm, hm, _⟩ := t1.N.ns; ⟨mm, hm⟩) ⟨?_, fun z => apC5.hid ?_, apC5.base⟩ S5 x6 (cw D apD5.at_)
    · simp only [Heap.upd, Ne.symm hDC, if_false]; exact apC5.at_
    · refine absG fun Cg hCg => ?_
      obtain ⟨d, ci, fs, o, e1, e2, e3⟩ := z
      refine hCg ?_; clear hCg
      by_cases q : d = D
      · subst q; simp [Heap.upd] at e1
      · simp [Heap.upd, q] at e1; exact ⟨d, ci, fs, o, e1, e2, e3⟩
  | some y =>
    have hlt : k < xs.length := by
      by_cases q : k < xs.length
      · exact q
      · rw [List.getElem?_eq_none (by (first | lia | omega))] at hx; cases hx
    have hd : xs.drop k = y :: xs.drop (k + 1) := by
      rw [List.drop_eq_getElem_cons hlt]
      rw [List.getElem?_eq_getElem hlt] at hx
      rw [Option.some.inj hx]
    rw [hd] at cw
    refine absG fun Cg hCg => ?_
    obtain ⟨hok, hal, cw⟩ := cw
    refine hCg ?_; clear hCg
    refine wpAny_noE (I.next k y H4 s4 A _ hx a4.S hok P4 fun pv s5 r5 P5 hk hg hos => ?_)
    have hk' : ∀ b o, b ≠ it → s4.heap.get? b = some o → s5.heap.get? b = some o := fun b o n e => (hk b n).trans e
    obtain ⟨t1, t2⟩ := touch a4 ap4 (fun q => hCit q.symm) hcit hk' hg hos
    have x5 := x4.touch hz hk' t2
    have l5 : IsL s5.heap D vs.toArray nn := hk' _ _ hDit l4
    have apD5 := apD4.hidMono t2
    have ap5 := ap4.hidMono t2
    obtain ⟨oi5, lki5⟩ := I.look _ _ P5
    refine wpAny_noE (wpAny_assign_Name (hst t1 r5 fun s6 a6 hk6 hg6 hos6 hid6 => ?_))
    have em : (m ++ [ov]).set m.length (some y) = m ++ [some y] := by rw [List.set_append_right _ _ (Nat.le_refl _), Nat.sub_self]; rfl
    rw [em] at a6
    have hk6' : ∀ b o, b ≠ W → s5.heap.get? b = some o → s6.heap.get? b = some o := fun b o n e => (hk6 b n).trans e
    have x6 := x5.touch zW hk6' hid6
    have l6 : IsL s6.heap D vs.toArray nn := hk6' _ _ hDW l5
    have apD6 := apD5.hidMono hid6
    have ap6 := ap5.hidMono hid6
    have lki6 : s6.heap.get? it = some oi5 := hk6' _ _ (Ne.symm hWit) lki5
    refine wpAny_noE (hc.then a6 cw fun r s7 H7 a7 x7 q7 => ?_)
    obtain ⟨lD7, apD7⟩ := apD6.ext x7 l6
    obtain ⟨li7, ap7⟩ := ap6.ext x7 lki6
    cases r with
    | false =>
      exact ⟨xs.length - (k + 1), by (first | lia | omega), k + 1, acc, H7, some y, vs, nn, rfl, q7, a7, x6.trans x7, I.same _ _ _ P5 (fun o e => by rw [lki5] at e; cases e; exact li7), ap7, apD7, lD7, r4⟩
    | true =>
      refine wpAny_noE (SndE.then helt a7 q7 fun v s8 z H8 r8 a8 x8 q8 => ?_)
      refine absG fun Cg hCg => ?_
      obtain ⟨H9, l9, q9⟩ := q8
      obtain ⟨lD8, apD8⟩ := apD7.ext x8 lD7
      obtain ⟨li8, ap8⟩ := ap7.ext x8 li7
      have a9 : At C ci ce A (m ++ [some y]) H9 s8 := ⟨a8.eo, a8.ao, a8.S.forget l9, a8.N.forget l9⟩
      have lD8 : IsL s8.heap D vs.toArray nn := lD8
      refine hCg ?_; clear hCg
      refine wpAny_noE (call_meets F.slot_list_append ⟨_, lD8, rfl⟩ F.entry_list_append (F.args_list_append_2 _ _) (list_append D vs.toArray nn v (by simp only [List.size_toArray, r4.length]; exact sizeLine_lim hal)) ⟨lD8, ?_⟩)
      obtain ⟨n', en⟩ := mapSeq_list (items := vs.toArray) (n := nn) (fun x => x.push v)
      have hkD : ∀ b o, b ≠ D → s8.heap.get? b = some o → (s8.heap.update D (Obj.mapSeq fun x => x.push v)).get? b = some o := fun b o n e => (Heap.get?_update_other _ _ (Ne.symm n)).trans e
      have lD9 : (s8.heap.update D (Obj.mapSeq fun x => x.push v)).get? D = some { cls := .type "list", dict := none, data := .seq (vs.toArray.push v) n', slots := #[] } := by
        rw [Heap.get?_update_self _ lD8 (by rw [en]; rfl), en]
      obtain ⟨u1, u2⟩ := touch (s' := { s8 with heap := s8.heap.update D (Obj.mapSeq fun x => x.push v) }) a9 (apD8.le l9) hDC hcD hkD rfl rfl
      have xx := (((x6.trans x7).trans x8).forget l9).touch zD hkD u2
      refine ⟨xs.length - (k + 1), by (first | lia | omega), k + 1, acc ++ [z], H9, some y, vs ++ [v], n', rfl, q9, u1, xx, I.same _ _ _ P5 (fun o e => by rw [lki5] at e; cases e; exact hkD _ _ (Ne.symm hDit) li8), (ap8.le l9).hidMono u2, (apD8.le l9).hidMono u2, ?_, r4.append (.cons r8 .nil)⟩
      show _ = _
      rw [lD9]; simp
noncomputable def CompMain (C : Cfg) (Φ : Orac) (c : Ctx) (sc : Scope) (x : Str) (elt iter : Expr) (ifs : List Expr) (melt : E) (src : Src) (mc : Option E) : Prop :=
  ∀ {env : Env} {A : Around} {m : Loc} {H : Heap} {s : Shared} {px pos : Pos} {Q : PV} {RR : Value → Addr → Result → Shared → Prop}, At C c env A m H s → wpE Φ (.comp melt 1 src mc) m H Q →
    (∀ D Cf s' H', s.heap.get? Cf = none → D ≠ Cf → (∃ mm, s'.heap.Ns Cf mm) → Apart C H' s'.heap Cf → StH C H' s' → Ext H s.heap H' s'.heap → Q (.ref D) H' → RR (.ref D) Cf (.ok .next) s') →
    wpAny C.M A (eval iter env) (fun xv s₁ => wpAny C.M A (pyIter xv) (fun it s₂ => wpAny C.M A (newList []) (fun acc s₃ => wpAny C.M A (newFunctionEnv sc env.globals (closOf env sc.names []) [] env.qual none .none (some env)) (fun cenv s₄ =>
      codeAny C.M A (.compStart (.ListComp elt [⟨.Name x px, iter, ifs, 0⟩] sc pos) 0 it acc { cenv with scope := relabel sc env }) (RR acc cenv.locals) s₄) NoE s₃) NoE s₂) NoE s₁) NoE s
noncomputable def CompMainG (C : Cfg) (Φ : Orac) (c : Ctx) (sc : Scope) (elt tg iter : Expr) (ifs : List Expr) (rest : List Comprehension) (me : E) : Prop :=
  ∀ {env : Env} {A : Around} {m : Loc} {H : Heap} {s : Shared} {pos : Pos} {Q : PV} {RR : Value → Addr → Result → Shared → Prop}, At C c env A m H s → wpE Φ me m H Q →
    (∀ D Cf s' H', s.heap.get? Cf = none → D ≠ Cf → (∃ mm, s'.heap.Ns Cf mm) → Apart C H' s'.heap Cf → StH C H' s' → Ext H s.heap H' s'.heap → Q (.ref D) H' → RR (.ref D) Cf (.ok .next) s') →
    wpAny C.M A (eval iter env) (fun xv s₁ => wpAny C.M A (pyIter xv) (fun it s₂ => wpAny C.M A (newList []) (fun acc s₃ => wpAny C.M A (newFunctionEnv sc env.globals (closOf env sc.names []) [] env.qual none .none (some env)) (fun cenv s₄ =>
      codeAny C.M A (.compStart (.ListComp elt (⟨tg, iter, ifs, 0⟩ :: rest) sc pos) 0 it acc { cenv with scope := relabel sc env }) (RR acc cenv.locals) s₄) NoE s₃) NoE s₂) NoE s₁) NoE s
theorem CompMain.toG {elt iter : Expr} {x : Str} {ifs : List Expr} {sc : Scope} {melt : E} {src : Src} {mc : Option E} {px : Pos} (h : CompMain C Φ c sc x elt iter ifs melt src mc) : CompMainG C Φ c sc elt (.Name x px) iter ifs [] (.comp melt 1 src mc) :=
  fun {env A m H s pos Q RR} a hw hRR => h a hw hRR
theorem comp_main {elt iter : Expr} {x : Str} {ifs : List Expr} {sc : Scope} {melt : E} {src : Src} {mc : Option E} (K : CompOk c sc x) (hsrc : SndSrc C Φ c iter src)
    (helt : SndE C Φ (c.inner1 sc x) elt melt) (hc : SndC C Φ (c.inner1 sc x) ifs mc) : CompMain C Φ c sc x elt iter ifs melt src mc := fun {env A m H s px pos Q RR} a hw hRR => by
  simp only [w_var, w_lit, w_bop, w_neg, w_cmp, w_cmp2, w_and, w_or, w_not, w_call, w_meth, w_new, w_prim, w_attr, w_idx, w_slice, w_list, w_tup, w_comp] at hw
  refine hsrc a hw fun it s2 xs ok H2 P I hP hz ap a2 x2 q2 => ?_
  refine wpAny_newObj_type (wpAny_newFunctionEnv K.cell (by intro y hy; cases hy) (fun h₁ hns₁ hsb₁ => ?_) K.kind)
  dsimp only at hns₁ hsb₁ ⊢
  have hC : (s2.heap.push { cls := .type "list", dict := none, data := .seq ([] : List Value).toArray }).objs.size = s2.heap.objs.size + 1 := Heap.size_push _ _
  have hCz : s2.heap.get? (s2.heap.push { cls := .type "list", dict := none, data := .seq ([] : List Value).toArray }).objs.size = none := by
    cases q : s2.heap.get? (s2.heap.push { cls := .type "list", dict := none, data := .seq ([] : List Value).toArray }).objs.size with
    | none => rfl
    | some o => have := Heap.lt_size q; rw [hC] at this; exact absurd this (Nat.not_lt.mpr (Nat.le_succ _))
  have hDC : s2.heap.objs.size ≠ (s2.heap.push { cls := .type "list", dict := none, data := .seq ([] : List Value).toArray }).objs.size := by rw [hC]; exact Nat.ne_of_lt (Nat.lt_succ_self _)
  have old : ∀ b o, s2.heap.get? b = some o → h₁.get? b = some o := fun b o e => hsb₁.extBut b o (fun q => by rw [q, hCz] at e; cases e) (Heap.get?_push_of_some _ (Heap.get?_push_of_some _ e))
  have lkD : h₁.get? s2.heap.objs.size = some { cls := .type "list", dict := none, data := .seq ([] : List Value).toArray } := hsb₁.extBut _ _ hDC (Heap.get?_push_of_some _ (Heap.get?_push_size _ rfl))
  have zC := x2.alive _ hCz
  have locL : ∀ b, s.heap.get? b = none → b ≠ env.locals := fun b e q => by
    obtain ⟨mm, ⟨o, es, ep, ho, hr⟩, hm⟩ := a.N.ns
    rw [← q, e] at ho; cases ho
  have locC : ∀ b, s.heap.get? b = none → ∀ x, env.cells.lookup x ≠ some b := fun b e x q => by
    obtain ⟨_, _, _, _, o, lk⟩ := a.N.apC _ _ q
    rw [e] at lk; cases lk
  have hfree := hfree_of K.toB a.N
  have locK : ∀ b, s.heap.get? b = none → ∀ x, (closOf env sc.names []).lookup x ≠ some b := fun b e x q => locC b e x (clos_lookup hfree q)
  obtain ⟨S3, x3⟩ := a2.S.grow (s' := { s2 with heap := h₁, toks := s2.toks + ([] : List (Str × Value)).length }) old rfl rfl
  have apC := (Apart.fresh a2.S hCz).hidMono (hid_grow a2.S old)
  have a3 := inner_at K (a2.on S3 x3) (mm := fun x => ([] : List (Str × Value)).reverse.lookup x) hns₁ rfl apC (locL _ zC) (locC _ zC)
  have hnu : (c.inner1 sc x).ν.lookup x = some m.length := by rw [a.N.len]; simp [Ctx.inner1, List.lookup]
  have loop := comp_loop (elt := elt) (iter := iter) (px := px) (pos := pos) (sc := sc) (W := (compEnvC sc (closOf env sc.names []) _ env).locals) (fun t r k => store_local (c := c.inner1 sc x) K.own hnu t r k) helt hc a hRR I hP hz ap a2 x2 q2 hDC (look_size _) hCz hCz hDC (locK _ hz) (locK _ (x2.alive _ (look_size _))) old x3 a3 lkD
  exact codeAny_compStart_list loop (wpAny_noE (I.self 0 _ _ _ (I.same _ _ _ hP (fun o e => old _ _ e)) loop))
section
variable {elt tg iter : Expr} {ifs : List Expr} {pos : Pos} {sc : Scope} {rest : List Comprehension} {me : E}
theorem comp_expr {Q : PV} (K : CompB c sc) (hM : CompMainG C Φ c sc elt tg iter ifs rest me) (hs : ∀ (env : Env) x, foldedSetIterable iter env x = pure x) (a : At C c env A m H s) (hw : wpE Φ me m H Q) :
    wpAny C.M A (eval (.ListComp elt (⟨tg, iter, ifs, 0⟩ :: rest) sc pos) env) (PE C H s Q) NoE s := by
  rw [eval_ListComp]
  refine wpAny_comprehension_free (use := none) rfl (hs env) (closOf_ok (hfree_of K a.N)) K.kind K.loc (hM (RR := fun acc Cf => compPost C.M A NoE none (PE C H s Q) acc Cf) a hw ?_)
  intro D Cf s' H' hz hne ⟨mm, hN⟩ ap S' x' q
  refine ⟨mm, hN, fun h' hs' => ?_⟩
  have hk : ∀ b o, b ≠ Cf → s'.heap.get? b = some o → h'.get? b = some o := fun b o n e => hs'.extBut b o n e
  have hh : ∀ b, Hid H' h' b → Hid H' s'.heap b := fun b z => z.same (fun d c fs e o lk => hk _ _ (fun q => by rw [q, ap.at_] at e; cases e) lk) fun a o e => (S'.rep _ _ e).look
  exact ⟨.ref D, H', rfl, S'.quiet (s' := { s' with heap := h' }) (fun b => b = Cf) (fun b o e n => hk b o n e) (fun b e => by subst e; exact ⟨ap.at_, ap.base, ap.hid⟩) rfl rfl, x'.touch hz hk hh, q⟩
theorem comp_assign {Q : PS} {y : Str} {py spos : Pos} {i : Nat} (hn : trName c y = some i) (K : CompB c sc) (hM : CompMainG C Φ c sc elt tg iter ifs rest me) (hs : ∀ (env : Env) x, foldedSetIterable iter env x = pure x) (a : At C c env A m H s) (hw : wpS Φ (.assign i me) m H Q) :
    wpAny C.M A (exec (.Assign [.Name y py] (.ListComp elt (⟨tg, iter, ifs, 0⟩ :: rest) sc pos) spos) env) (PSs C c env H s Q) NoE s := by
  simp only [s_assign, s_unpack, s_setAttr, s_setIdx, s_delIdx, s_append, s_expr, s_ret0, s_ret, s_ite, s_whl, s_for, s_brk, s_pass] at hw
  obtain ⟨b, hb⟩ : ∃ b, swapsWith (.ListComp elt (⟨tg, iter, ifs, 0⟩ :: rest) sc pos) (some (.Name y py)) spos.line env = pure b := ⟨_, rfl⟩
  cases b with
  | false => exact wpAny_Assign_Name (SndE.then (comp_expr K hM hs) a hw fun v s1 z H1 r a1 x1 q => store_ok hn a1 r fun s2 S2 N2 x2 => ⟨.next, _, H1, trivial, S2, N2, x1.toS.trans x2, q⟩) hb
  | true =>
    rw [exec_Assign_Name_used _ _ _ _ hb]
    refine wpAny_bind (wpAny_standAt (wpAny_bind ?_))
    show wpAny _ A (do let _ ← comprehension (.ListComp elt (⟨tg, iter, ifs, 0⟩ :: rest) sc pos) sc env _ (newList []) false (eval iter env) (some (assign (.Name y py) env))) _ _ s
    refine wpAny_bind (wpAny_mono (wpAny_comprehension_free (use := some (assign (.Name y py) env)) (Q := fun _ s' => PSs C c env H s Q .next s') rfl (hs env) (closOf_ok (hfree_of K a.N)) K.kind K.loc
      (hM (RR := fun acc Cf => compPost C.M A NoE (some (assign (.Name y py) env)) (fun _ s' => PSs C c env H s Q .next s') acc Cf) a hw ?_)) (fun _ s' hq => wpAny_pure (wpAny_pure hq)) fun _ _ e => e)
    intro D Cf s' H' hz hne ⟨mm, hN⟩ ap S' x' q
    have hL : Cf ≠ env.locals := fun q => by
      refine absG fun Cg hCg => ?_
      obtain ⟨mm, ⟨o, es, ep, ho, hr⟩, hm⟩ := a.N.ns
      refine hCg ?_; clear hCg
      rw [← q, hz] at ho; cases ho
    have hK : ∀ x, env.cells.lookup x ≠ some Cf := fun x q => by
      refine absG fun Cg hCg => ?_
      obtain ⟨_, _, _, _, o, lk⟩ := a.N.apC _ _ q
      refine hCg ?_; clear hCg
      rw [hz] at lk; cases lk
    have a' := a.on S' x'
    refine wpAny_assign_Name (store_ok (v := .ref D) hn a' rfl fun s2 S2 N2 x2 => ?_)
    refine absG fun Cg hCg => ?_
    obtain ⟨o, es, ep, ho, hr⟩ := hN
    obtain ⟨lk2, ap2⟩ := x2.apart ho ap hL hK
    refine hCg ?_; clear hCg
    refine ⟨mm, ⟨o, es, ep, lk2, hr⟩, fun h' hs' => ?_⟩
    have hk : ∀ b o, b ≠ Cf → s2.heap.get? b = some o → h'.get? b = some o := fun b o n e => hs'.extBut b o n e
    obtain ⟨t1, t2⟩ := touch (s' := { s2 with heap := h' }) (a'.then S2 N2) ap2 hL hK hk rfl rfl
    exact ⟨.next, _, H', trivial, t1.S, t1.N, (x'.toS.trans x2).touch hz hk t2, q⟩
end
end ML
namespace ML
open PySem PySem.W PySem.Calls PyProof.Rows PySem.SeqAt
variable {C : Cfg} {Φ : Orac} {c : Ctx} {H H' H'' H1 : Heap} {s s' s1 s2 : Shared} {h h' h'' : PHeap} {A : Around} {env : Env} {m m' : Loc}
theorem PE.made {tk : Nat} {b : Addr} {vs : List Value} {n : Nat} {xs : List V} {Q : PV} (S : StH C H s) (hk : ∀ b o, s.heap.get? b = some o → h'.get? b = some o) (hz : s.heap.get? b = none) (hl : IsL h' b vs.toArray n) (r : All2 RepV vs xs) (hlen : vs.length ≤ 2 * lim) (q : allocW (.list xs) H Q) :
    PE C H s Q (.ref b) { s with heap := h', toks := tk } := by
  obtain ⟨S1, x1⟩ := S.grow (s' := { s with heap := h', toks := tk }) hk rfl rfl
  have ap : Apart C H h' b := ⟨S.none_of hz, fun z => (by
    have z := Hid.same (h := s.heap) (fun _ _ _ _ o e => hk _ _ e) (fun a o e => (S.rep _ _ e).look) z
    obtain ⟨ob, lk⟩ := z.look S
    rw [hz] at lk; cases lk), S.base_none hz⟩
  exact ⟨.ref b, H.upd b (.list xs), rfl, S1.adopt ap (fun _ _ q => by cases q) ⟨vs, n, hl, r, hlen⟩, x1.adopt hz (fun _ _ q => by cases q), q b (S.none_of hz)⟩
theorem ints_of {ns : List Int} : ∀ {vs : List Value}, All2 RepV vs (ns.map V.int) → ∃ ps : List (Int × Tok), vs = ps.map (fun p => .int p.1 p.2) ∧ ns = ps.map (·.1) := by
  induction ns with
  | nil => intro vs r; cases r; exact ⟨[], rfl, rfl⟩
  | cons n ns ih =>
    intro vs r
    cases r with
    | cons a r =>
      obtain ⟨t, rfl⟩ := RepV.int a
      obtain ⟨ps, rfl, rfl⟩ := ih r
      exact ⟨(n, t) :: ps, rfl, rfl⟩
theorem ints_are : ∀ {vs : List Value} {ns : List Int}, All2 RepV vs (ns.map V.int) → IntsAre vs ns
  | [], [], _ => .nil
  | v :: vs, n :: ns, .cons a r => by
    obtain ⟨t, rfl⟩ := RepV.int a
    exact .cons _ _ (ints_are r)
theorem intsA_rep : ∀ {vs : List Value} {ns : List Int}, IntsAre vs ns → All2 RepV vs (ns.map V.int)
  | _, _, .nil => .nil
  | _, _, .cons _ _ r => .cons rfl (intsA_rep r)
theorem sum_take : ∀ (ps : List (Int × Tok)) (k : Nat), k ≤ ps.length → preSum (numAt ps.toArray) k = sumZ ((ps.take k).map (·.1)) := by
  intro ps k hk
  induction k with
  | zero => rfl
  | succ k ih =>
    have hs : ∀ (a b : List Int), sumZ (a ++ b) = sumZ a + sumZ b := by
      intro a b
      induction a with
      | nil => show sumZ b = 0 + sumZ b; (first | lia | omega)
      | cons x a ih => show x + sumZ (a ++ b) = x + sumZ a + sumZ b; (first | lia | omega)
    have e : ps[k]? = some (ps[k]'hk) := List.getElem?_eq_getElem _
    show preSum (numAt ps.toArray) k + numAt ps.toArray k = _
    rw [ih (by (first | lia | omega)), List.take_add_one, e, Option.toList_some, List.map_append, hs]
    have : numAt ps.toArray k = (ps[k]'hk).1 := by simp [numAt, e]
    rw [this]
    show _ = _ + ((ps[k]'hk).1 + 0)
    (first | lia | omega)
theorem sum_call {vs : List Value} {xs : List V} {Q : PV} (hh : A.handled = none) (S : StH C H s) (r : All2 RepV vs xs) (hw : primW .sum xs H Q) : wpAny C.M A (call (.builtin "sum") vs []) (PE C H s Q) NoE s := by
  replace hw : sumW xs H Q := hw
  unfold sumW at hw
  split at hw
  · rename_i a
    obtain ⟨v, rfl, r1⟩ := r.one
    cases r1.ref
    split at hw
    · rename_i x hx
      obtain ⟨ns, e, q⟩ := hw
      have rr := S.rep _ _ hx
      have fin : ∀ {us : List Value}, s.heap.IsList a us.toArray → All2 RepV us (ns.map V.int) → wpAny C.M A (call (.builtin "sum") [.ref a] []) (PE C H s Q) NoE s := by
        intro us l r2
        obtain ⟨ps, rfl, rfl⟩ := ints_of r2
        refine sum_intListG (xs := ps.toArray) hh (by simpa [intItems] using l) fun h' tk t' hk => ?_
        obtain ⟨S', x'⟩ := S.grow (s' := { s with heap := h', toks := tk }) hk rfl rfl
        refine ⟨_, H, ?_, S', x', q⟩
        show preSum (numAt ps.toArray) ps.toArray.size = _
        rw [List.size_toArray, sum_take ps _ (Nat.le_refl _), List.take_length]
      cases x with
      | list zs => cases e; obtain ⟨us, n, l, r2, _⟩ := rr; exact fin l.isList r2
      | ro zs => cases e; obtain ⟨us, l, r2, _⟩ := rr; exact fin l r2
      | _ => cases e
    · exact hw.elim
  · exact hw.elim
theorem sort_call {vs : List Value} {xs : List V} {Q : PV} (hh : A.handled = none) (S : StH C H s) (r : All2 RepV vs xs) (hw : primW .sorted xs H Q) : wpAny C.M A (call (.builtin "sorted") vs []) (PE C H s Q) NoE s := by
  replace hw : sortW xs H Q := hw
  have hlim : lim = 1000000 := rfl
  unfold sortW at hw
  split at hw
  · rename_i a
    obtain ⟨v, rfl, r1⟩ := r.one
    cases r1.ref
    split at hw
    · rename_i x hx
      obtain ⟨ns, e, h64, q⟩ := hw
      have rr := S.rep _ _ hx
      have fin : ∀ {us : List Value}, s.heap.IsList a us.toArray → All2 RepV us (ns.map V.int) → wpAny C.M A (call (.builtin "sorted") [.ref a] []) (PE C H s Q) NoE s := by
        intro us l r2
        have hl : us.length = ns.length := by rw [r2.length, List.length_map]
        refine sorted_ints l (ints_are r2) (by (first | lia | omega)) fun out ns' a1 a2 a3 => ?_
        obtain ⟨e1, he⟩ := sortedAll_at s.heap us out
        have r3 := intsA_rep a1
        have hz : s.heap.get? (s.heap.objs.size + 1) = none := by
          cases q : s.heap.get? (s.heap.objs.size + 1) with
          | none => rfl
          | some o => exact absurd (Heap.lt_size q) (Nat.not_lt.mpr (Nat.le_succ _))
        refine PE.made (tk := s.toks) (vs := out.toList) (n := e1) S (fun b o e => sortedAll_old e) hz (by rw [Array.toArray_toList]; exact he) r3 ?_ (q ns' a2 a3)
        have := r3.length
        rw [List.length_map, a2.length_eq] at this
        (first | lia | omega)
      cases x with
      | list zs => cases e; obtain ⟨us, n, l, r2, _⟩ := rr; exact fin l.isList r2
      | ro zs => cases e; obtain ⟨us, l, r2, _⟩ := rr; exact fin l r2
      | _ => cases e
    · exact hw.elim
  · exact hw.elim
end ML
namespace ML
open PySem PySem.W PySem.Calls PyProof.Rows PySem.SeqAt
variable {C : Cfg} {Φ : Orac} {c : Ctx} {H H' H'' H1 : Heap} {s s' s1 s2 : Shared} {h h' h'' : PHeap} {A : Around} {env : Env} {m m' : Loc}
theorem store_cell {x : Str} {pv : Value} {v : V} {i : Nat} {ca : Addr} {R : Unit → Shared → Prop} (hk : c.kinds.lookup x = some .cell) (hn : c.ν.lookup x = some i) (hca : env.cells.lookup x = some ca) (a : At C c env A m H s) (r : RepV pv v)
    (k : ∀ s', At C c env A (m.set i (some v)) H s' → (∀ b, b ≠ ca → s'.heap.get? b = s.heap.get? b) → s'.gens = s.gens → s'.os = s.os → (∀ b, Hid H s'.heap b → Hid H s.heap b) → R () s') : wpAny C.M A (storeName env x pv) R NoE s := by
  have hi : i < m.length := by rw [a.N.len]; exact a.eo.bnd _ _ hn
  have self : OptRep (some pv) ((m.set i (some v))[i]?.join) := by rw [List.getElem?_set_self hi]; exact r
  obtain ⟨ca', ov, e1, e2, e3⟩ := a.N.cells x i hn (.inl hk)
  rw [hca] at e1; cases e1
  obtain ⟨n1, n2, n3, n4, oc, lkc⟩ := a.N.apC _ _ hca
  refine wpAny_storeName_cell a.eo.kind (a.eo.kcell _ hk) hca e2 fun h' hc' hs => ?_
  have Q1 := quiet_one (s' := { s with heap := h' }) a.S ⟨n1, n2, n3⟩ (fun b n => hs.2 b n) (let ⟨o, ho, _⟩ := hc'; ⟨o, ho⟩) rfl rfl
  obtain ⟨mm, hN, hm⟩ := a.N.ns
  refine k _ ⟨a.eo, a.ao, Q1.1, ⟨by rw [List.length_set]; exact a.N.len, ⟨mm, hN.sameBut hs (fun q => n4 q.symm), fun y j hy hky => ?_⟩, fun y j hy hky => ?_, ⟨a.N.apL.1, fun z => a.N.apL.2.1 ((Q1.2 _).mp z), a.N.apL.2.2⟩, fun y b e => ?_, a.N.injC⟩⟩ (fun b n => hs.2 b n) rfl rfl fun b z => (Q1.2 b).mp z
  · have : j ≠ i := fun z => by
      have := a.eo.inj _ _ _ hy (z ▸ hn)
      subst this
      rw [hk] at hky; cases hky
    exact optRep_set hi this (hm y j hy hky)
  · by_cases q : y = x
    · subst q; rw [hn] at hy; cases hy
      exact ⟨ca, _, hca, hc', self⟩
    · obtain ⟨cb, ov', f1, f2, f3⟩ := a.N.cells y j hy hky
      have : j ≠ i := fun z => q (a.eo.inj _ _ _ hy (z ▸ hn))
      have nb : cb ≠ ca := fun z => q (a.N.injC _ _ _ f1 (z ▸ hca))
      exact ⟨cb, ov', f1, f2.sameBut hs nb, optRep_set hi this f3⟩
  · obtain ⟨n1', n2', n3', n4', o, lk⟩ := a.N.apC _ _ e
    refine ⟨n1', fun z => n2' ((Q1.2 _).mp z), n3', n4', ?_⟩
    by_cases q : b = ca
    · obtain ⟨o', ho', _⟩ := hc'; exact ⟨o', q ▸ ho'⟩
    · exact ⟨o, (hs.2 _ q).trans lk⟩
theorem no_cells : ∀ {l : List (Str × NameKind)} {n : Nat} {acc : List (Str × Addr)} {h : PHeap}, (l.filter fun p => p.2 == .cell) = [] → cellsFrom n l acc = acc ∧ pushCells h l = h
  | [], _, _, _, _ => ⟨rfl, rfl⟩
  | (y, k) :: r, n, acc, h, e => by
    by_cases q : (k == NameKind.cell) = true
    · rw [List.filter_cons_of_pos (by exact q)] at e; cases e
    · rw [List.filter_cons_of_neg (by exact q)] at e
      unfold cellsFrom pushCells
      rw [if_neg q, if_neg q]
      exact no_cells e
theorem one_cell {x : Str} : ∀ {l : List (Str × NameKind)} {n : Nat} {acc : List (Str × Addr)} {h : PHeap}, (l.filter fun p => p.2 == .cell).length = 1 → (∀ p ∈ l, p.2 = .cell → p.1 = x) →
    cellsFrom n l acc = (x, n) :: acc ∧ pushCells h l = h.push { cls := .type "cell", data := .cell none }
  | [], _, _, _, e, _ => by cases e
  | (y, k) :: r, n, acc, h, e, hx => by
    by_cases q : (k == NameKind.cell) = true
    · rw [List.filter_cons_of_pos (by exact q), List.length_cons] at e
      have e0 : (r.filter fun p => p.2 == .cell) = [] := List.eq_nil_of_length_eq_zero (Nat.succ.inj e)
      unfold cellsFrom pushCells
      rw [if_pos q, if_pos q]
      have := hx _ (.head _) (beq_iff_eq.mp q)
      subst this
      exact no_cells e0
    · rw [List.filter_cons_of_neg (by exact q)] at e
      unfold cellsFrom pushCells
      rw [if_neg q, if_neg q]
      exact one_cell e fun p hp => hx p (.tail _ hp)
structure CompOkC (c : Ctx) (sc : Scope) (x : Str) : Prop where
  kind : sc.kind = .function
  own : sc.names.lookup x = some .cell
  one : (sc.names.filter fun p => p.2 == .cell).length = 1
  cell : ∀ y ∈ sc.names, y.2 = .cell → y.1 = x
  loc : ∀ y ∈ sc.names, y.2 = .local → sc.names.lookup y.1 = some .local
  free : ∀ y, (y, NameKind.free) ∈ sc.names → ∃ i, c.ν.lookup y = some i ∧ isCell c y
  alone : ∀ y ∈ sc.names, y.2 = .local → c.ν.lookup y.1 = none ∧ y.1 ≠ x
theorem CompOkC.toB {sc : Scope} {x : Str} (K : CompOkC c sc x) : CompB c sc := ⟨K.kind, K.loc, K.free⟩
theorem compOkC_ok {sc : Scope} {x : Str} (h : compOkC c sc x = true) : CompOkC c sc x := by
  unfold compOkC at h
  simp only [Bool.and_eq_true] at h
  obtain ⟨⟨⟨h1, h2⟩, h4⟩, h3⟩ := h
  rw [List.all_eq_true] at h3
  refine ⟨by simpa using h1, beq_iff_eq.mp h2, beq_iff_eq.mp h4, fun y hy q => ?_, fun y hy q => ?_, fun y hy => ?_, fun y hy q => ?_⟩
  · have := h3 y hy
    unfold compNameC at this
    rw [q] at this
    exact beq_iff_eq.mp this
  · have := h3 y hy
    unfold compNameC at this
    rw [q] at this
    simp only [Bool.and_eq_true, Bool.or_eq_true, beq_iff_eq] at this
    exact this.1.1
  · have := h3 _ hy
    unfold compNameC at this
    simp only [Bool.and_eq_true, Bool.or_eq_true, beq_iff_eq] at this
    obtain ⟨i, hi⟩ := Option.isSome_iff_exists.mp this.1
    exact ⟨i, hi, this.2⟩
  · have := h3 y hy
    unfold compNameC at this
    rw [q] at this
    simp only [Bool.and_eq_true, Bool.or_eq_true, beq_iff_eq, Bool.not_eq_true', beq_eq_false_iff_ne] at this
    exact ⟨this.1.2, this.2⟩
theorem newEnv_cell {sc : Scope} {x : Str} {cl : List (Str × Addr)} {Q : Env → Shared → Prop} {E' : Value → Shared → Prop} (K : CompOkC c sc x)
    (hQ : Q (newEnv sc s.heap.objs.size env.globals ((x, s.heap.objs.size + 1) :: cl) env.qual none .none (some env) builtinsNs) { s with heap := (s.heap.push { cls := .type "dict", data := .dict #[] }).push { cls := .type "cell", data := .cell none } }) :
    wpAny C.M A (newFunctionEnv sc env.globals cl [] env.qual none .none (some env)) Q E' s := by
  simp only [newFunctionEnv, Option.isSome_some, if_true]
  refine wpAny_bind (wpAny_alloc ?_)
  refine wpAny_bind (wpAny_layCells _ (fun name kind cells => by cases hkc : kind == NameKind.cell <;> simp [hkc]) _ _ _ _ ?_)
  obtain ⟨e1, e2⟩ := one_cell (n := (s.heap.push { cls := .type "dict", data := .dict #[] }).objs.size) (acc := cl) (h := s.heap.push { cls := .type "dict", data := .dict #[] }) K.one K.cell
  dsimp only
  rw [e1, e2, Heap.size_push]
  exact wpAny_pure hQ
theorem inner_atC {sc : Scope} {x : Str} {Cf ca : Addr} {mm : Str → Option Value} (K : CompOkC c sc x) (a : At C c env A m H s) (hN : s.heap.Ns Cf mm) (ap : Apart C H s.heap Cf) (hl : Cf ≠ env.locals) (hc : ∀ x, env.cells.lookup x ≠ some Cf)
    (hcell : s.heap.IsCell ca none) (apc : Apart C H s.heap ca) (hcf : ca ≠ Cf) (hcc : ∀ x, env.cells.lookup x ≠ some ca) :
    At C (c.inner1 sc x) (compEnvC sc ((x, ca) :: closOf env sc.names []) Cf env) A (m ++ [none]) H s := by
  have hfree := hfree_of K.toB a.N
  have hnu : ∀ y i, (c.inner1 sc x).ν.lookup y = some i → (y = x ∧ i = c.next) ∨ (y ≠ x ∧ c.ν.lookup y = some i) := fun y i e => by
    simp only [Ctx.inner1, List.lookup] at e
    split at e
    · rename_i q; cases e; exact .inl ⟨beq_iff_eq.mp q, rfl⟩
    · rename_i q; exact .inr ⟨by simpa using q, e⟩
  have hlk : ∀ y b, ((x, ca) :: closOf env sc.names []).lookup y = some b → (y = x ∧ b = ca) ∨ (y ≠ x ∧ env.cells.lookup y = some b) := fun y b e => by
    rw [List.lookup_cons] at e
    split at e
    · rename_i q; cases e; exact .inl ⟨beq_iff_eq.mp q, rfl⟩
    · rename_i q; exact .inr ⟨by simpa using q, clos_lookup hfree e⟩
  have lself : ((x, ca) :: closOf env sc.names []).lookup x = some ca := by rw [List.lookup_cons, beq_self_eq_true]
  obtain ⟨oc, loc, hdc⟩ := hcell
  refine ⟨⟨a.eo.glob, a.eo.blts, K.kind, fun y e => ?_, fun y e => lookup_relabel_local e, fun y e => ?_, fun y e => ?_, fun y z i e1 e2 => ?_, fun y i e => ?_
    , a.eo.code
    ⟩, ⟨a.ao.hd, a.ao.dp, a.ao.un⟩, a.S,
    ⟨?_, ⟨mm, hN, fun y i e k => ?_⟩, fun y i e k => ?_, ⟨ap.at_, ap.hid, ap.base⟩, fun y b e => ?_, fun y z b e1 e2 => ?_⟩⟩
  · exact (lookup_relabel e).elim id fun q => by cases q.1
  · exact (lookup_relabel e).elim id fun q => by cases q.1
  · exact (lookup_relabel e).elim .inl fun q => .inr q.2
  · rcases hnu y i e1 with ⟨rfl, rfl⟩ | ⟨_, e1'⟩
    · rcases hnu z _ e2 with ⟨rfl, _⟩ | ⟨_, e2'⟩
      · rfl
      · exact absurd (a.eo.bnd _ _ e2') (Nat.lt_irrefl _)
    · rcases hnu z _ e2 with ⟨rfl, rfl⟩ | ⟨_, e2'⟩
      · exact absurd (a.eo.bnd _ _ e1') (Nat.lt_irrefl _)
      · exact a.eo.inj _ _ _ e1' e2'
  · rcases hnu y i e with ⟨_, rfl⟩ | ⟨_, e⟩
    · exact Nat.lt_succ_self _
    · exact Nat.lt_succ_of_lt (a.eo.bnd _ _ e)
  · rw [List.length_append, a.N.len]; rfl
  · have al := K.alone _ (lookup_mem k) rfl
    rcases hnu y i e with ⟨rfl, rfl⟩ | ⟨n, e'⟩
    · exact absurd rfl al.2
    · rw [al.1] at e'; cases e'
  · rcases hnu y i e with ⟨rfl, rfl⟩ | ⟨n, e'⟩
    · refine ⟨ca, none, lself, ⟨oc, loc, hdc⟩, ?_⟩
      rw [← a.N.len, List.getElem?_append_right (Nat.le_refl _), Nat.sub_self]; trivial
    · have hf : (y, NameKind.free) ∈ sc.names := by
        rcases k with k | k
        · exact absurd (K.cell _ (lookup_mem k) rfl) n
        · exact lookup_mem k
      obtain ⟨j, hj, hk⟩ := K.free y hf
      rw [hj] at e'; cases e'
      obtain ⟨b, ov, e1, e2, e3⟩ := a.N.cells y i hj hk
      refine ⟨b, ov, ?_, e2, ?_⟩
      · have : (y == x) = false := by simpa using n
        show ((x, ca) :: closOf env sc.names []).lookup y = some b
        rw [List.lookup_cons, this]; exact clos_lookup' hfree hf e1
      · rw [List.getElem?_append_left (by rw [a.N.len]; exact a.eo.bnd _ _ hj)]; exact e3
  · rcases hlk y b e with ⟨_, rfl⟩ | ⟨_, e⟩
    · exact ⟨apc.at_, apc.hid, apc.base, hcf, oc, loc⟩
    · obtain ⟨n1, n2, n3, n4, o, lk⟩ := a.N.apC _ _ e
      exact ⟨n1, n2, n3, fun q => hc y (by rw [show b = Cf from q] at e; exact e), o, lk⟩
  · rcases hlk y b e1 with ⟨rfl, rfl⟩ | ⟨_, f1⟩
    · rcases hlk z _ e2 with ⟨rfl, _⟩ | ⟨_, f2⟩
      · rfl
      · exact absurd f2 (hcc _)
    · rcases hlk z _ e2 with ⟨rfl, rfl⟩ | ⟨_, f2⟩
      · exact absurd f1 (hcc _)
      · exact a.N.injC _ _ _ f1 f2
theorem comp_mainC {elt iter : Expr} {x : Str} {ifs : List Expr} {sc : Scope} {melt : E} {src : Src} {mc : Option E} (K : CompOkC c sc x) (hsrc : SndSrc C Φ c iter src)
    (helt : SndE C Φ (c.inner1 sc x) elt melt) (hc : SndC C Φ (c.inner1 sc x) ifs mc) : CompMain C Φ c sc x elt iter ifs melt src mc := fun {env A m H s px pos Q RR} a hw hRR => by
  simp only [w_comp] at hw
  refine hsrc a hw fun it s2 xs ok H2 P I hP hz ap a2 x2 q2 => ?_
  refine wpAny_newObj_type (newEnv_cell K ?_)
  dsimp only
  have hC : (s2.heap.push { cls := .type "list", dict := none, data := .seq ([] : List Value).toArray }).objs.size = s2.heap.objs.size + 1 := Heap.size_push _ _
  have zer : ∀ k : Nat, s2.heap.get? (s2.heap.objs.size + k) = none := fun k => by
    cases q : s2.heap.get? (s2.heap.objs.size + k) with
    | none => rfl
    | some o => exact absurd (Heap.lt_size q) (Nat.not_lt.mpr (Nat.le_add_right _ _))
  rw [hC]
  generalize hh1 : ((s2.heap.push { cls := .type "list", dict := none, data := .seq ([] : List Value).toArray }).push { cls := .type "dict", data := .dict #[] }).push { cls := .type "cell", data := .cell none } = h₁
  have old : ∀ b o, s2.heap.get? b = some o → h₁.get? b = some o := fun b o e => by rw [← hh1]; exact Heap.get?_push_of_some _ (Heap.get?_push_of_some _ (Heap.get?_push_of_some _ e))
  have lkD : h₁.get? s2.heap.objs.size = some { cls := .type "list", dict := none, data := .seq ([] : List Value).toArray } := by rw [← hh1]; exact Heap.get?_push_of_some _ (Heap.get?_push_of_some _ (Heap.get?_push_size _ rfl))
  have hns : h₁.Ns (s2.heap.objs.size + 1) (fun _ => none) := by
    rw [← hh1, ← hC]
    exact (Heap.Ns.new (s2.heap.push { cls := .type "list", dict := none, data := .seq ([] : List Value).toArray }) (.type "dict")).push _
  have hce : h₁.IsCell (s2.heap.objs.size + 1 + 1) none := by
    have e : ((s2.heap.push { cls := .type "list", dict := none, data := .seq ([] : List Value).toArray }).push { cls := .type "dict", data := .dict #[] }).objs.size = s2.heap.objs.size + 1 + 1 := by rw [Heap.size_push, hC]
    rw [← hh1, ← e]
    exact ⟨_, Heap.get?_push_size _ rfl, rfl⟩
  have zD := x2.alive _ (zer 0)
  have zC := x2.alive _ (zer 1)
  have zE := x2.alive _ (zer 2)
  have locL : ∀ b, s.heap.get? b = none → b ≠ env.locals := fun b e q => by
    obtain ⟨mm, ⟨o, es, ep, ho, hr⟩, hm⟩ := a.N.ns
    rw [← q, e] at ho; cases ho
  have locC : ∀ b, s.heap.get? b = none → ∀ x, env.cells.lookup x ≠ some b := fun b e x q => by
    obtain ⟨_, _, _, _, o, lk⟩ := a.N.apC _ _ q
    rw [e] at lk; cases lk
  have hfree := hfree_of K.toB a.N
  have locK : ∀ b, s.heap.get? b = none → b ≠ s2.heap.objs.size + 1 + 1 → ∀ y, ((x, s2.heap.objs.size + 1 + 1) :: closOf env sc.names []).lookup y ≠ some b := fun b e n y q => by
    rw [List.lookup_cons] at q
    split at q
    · cases q; exact n rfl
    · exact locC b e y (clos_lookup hfree q)
  obtain ⟨S3, x3⟩ := a2.S.grow (s' := { s2 with heap := h₁ }) old rfl rfl
  have hid3 := hid_grow a2.S old
  have apC := (Apart.fresh a2.S (zer 1)).hidMono hid3
  have apE := (Apart.fresh a2.S (zer 2)).hidMono hid3
  have a3 := inner_atC K (a2.on S3 x3) hns apC (locL _ zC) (locC _ zC) hce apE (Nat.ne_of_gt (Nat.lt_succ_self _)) (locC _ zE)
  have hnu : (c.inner1 sc x).ν.lookup x = some m.length := by rw [a.N.len]; simp [Ctx.inner1, List.lookup]
  have lself : (compEnvC sc ((x, s2.heap.objs.size + 1 + 1) :: closOf env sc.names []) (s2.heap.objs.size + 1) env).cells.lookup x = some (s2.heap.objs.size + 1 + 1) := by show List.lookup x ((x, _) :: _) = _; rw [List.lookup_cons, beq_self_eq_true]
  obtain ⟨oit, lkit⟩ := I.look _ _ hP
  have nit : it ≠ s2.heap.objs.size + 1 + 1 := fun q => by rw [q, zer 2] at lkit; cases lkit
  have loop := comp_loop (elt := elt) (iter := iter) (px := px) (pos := pos) (sc := sc) (W := s2.heap.objs.size + 1 + 1) (fun t r k => store_cell (c := c.inner1 sc x) K.own hnu lself t r k) helt hc a hRR I hP hz ap a2 x2 q2 (Nat.ne_of_lt (Nat.lt_succ_self _)) (zer 0) (zer 1) (zer 2) (Nat.ne_of_lt (Nat.lt_succ_of_lt (Nat.lt_succ_self _)))
    (locK _ hz nit) (locK _ zD (Nat.ne_of_lt (Nat.lt_succ_of_lt (Nat.lt_succ_self _)))) old x3 a3 lkD
  exact codeAny_compStart_list loop (wpAny_noE (I.self 0 _ _ _ (I.same _ _ _ hP (fun o e => old _ _ e)) loop))
end ML
namespace ML
open PySem PySem.W PySem.Calls PyProof.Rows PySem.SeqAt
variable {C : Cfg} {Φ : Orac} {c : Ctx} {H H' H'' H1 : Heap} {s s' s1 s2 : Shared} {h h' h'' : PHeap} {A : Around} {env : Env} {m m' : Loc}
section
variable {elt t1 iter1 t2 iter2 : Expr} {scope : Scope} {pos : Pos} {it acc : Value} {R : Result → Shared → Prop}
noncomputable abbrev two (elt t1 iter1 t2 iter2 : Expr) (scope : Scope) (pos : Pos) : Expr := .ListComp elt [⟨t1, iter1, [], 0⟩, ⟨t2, iter2, [], 0⟩] scope pos
theorem compTurn_out : compTurn (two elt t1 iter1 t2 iter2 scope pos) 0 it acc env = (standAt iter1.pos >>= fun _ => pyNext it >>= fun r => match r with
      | none => pure (.done .next)
      | some v => letOwnedTupleGo t1 it v >>= fun _ => assign t1 env v >>= fun _ =>
        eval iter2 env >>= fun x => standAt iter2.pos >>= fun _ => foldedSetIterable iter2 env x >>= fun x => holding [x] (pyIter x) >>= fun it2 => runOwn (.compStart (two elt t1 iter1 t2 iter2 scope pos) 1 it2 acc env) env >>= fun _ =>
          again (.compLoop (two elt t1 iter1 t2 iter2 scope pos) 0 it acc env)) := by rfl
theorem compTurn_in : compTurn (two elt t1 iter1 t2 iter2 scope pos) 1 it acc env = (standAt iter2.pos >>= fun _ => pyNext it >>= fun r => match r with
      | none => pure (.done .next)
      | some v => letOwnedTupleGo t2 it v >>= fun _ => assign t2 env v >>= fun _ =>
        (eval elt env >>= fun x => call (.builtin "list.append") [acc, x] >>= fun _ => pure ()) >>= fun _ =>
          again (.compLoop (two elt t1 iter1 t2 iter2 scope pos) 1 it acc env)) := by rfl
theorem loop_out (I : Nat → Shared → Prop)
    (turn : ∀ n s, I n s → wpAny C.M A (pyNext it) (fun r s₁ => match r with
      | none => R (.ok .next) s₁
      | some v => wpAny C.M A (assign t1 env v) (fun _ s₂ => wpAny C.M A (eval iter2 env) (fun x s₃ => wpAny C.M A (pyIter x) (fun it2 s₄ =>
          codeAny C.M A (.compStart (two elt t1 iter1 t2 iter2 scope pos) 1 it2 acc env) (fun r s₅ => r = .ok .next ∧ ∃ m, m < n ∧ I m s₅) s₄) NoE s₃) NoE s₂) NoE s₁) NoE s)
    (n : Nat) (h : I n s) (hf : ∀ x, foldedSetIterable iter2 env x = pure x) (ht : ∀ v, letOwnedTupleGo t1 it v = pure () := by intro _; rfl) :
    codeAny C.M A (.compLoop (two elt t1 iter1 t2 iter2 scope pos) 0 it acc env) R s := by
  refine codeAny_loop rfl I (fun n s hI => ?_) n h
  show wpAny _ _ ((compTurn (two elt t1 iter1 t2 iter2 scope pos) 0 it acc env).onRaise (fun x => do noteFrame x env; theTreesLotGoes x)) _ _ s
  refine wpAny_noted ?_
  rw [compTurn_out]
  refine wpAny_bind (wpAny_standAt (wpAny_bind (wpAny_mono (turn n s hI) (fun r s₁ h₁ => ?_) fun _ _ f => f.elim)))
  cases r with
  | none => exact wpAny_pure h₁
  | some v =>
    refine wpAny_bind (wpAny_of_eq (ht v) ?_)
    refine wpAny_bind (wpAny_mono h₁ (fun _ s₂ h₂ => wpAny_bind (wpAny_mono h₂ (fun x s₃ h₃ => ?_) fun _ _ f => f.elim)) fun _ _ f => f.elim)
    refine wpAny_bind (wpAny_standAt (wpAny_bind (wpAny_of_eq (hf x) ?_)))
    refine wpAny_bind (wpAny_holding (wpAny_mono h₃ (fun it2 s₄ h₄ => ?_) fun _ _ f => f.elim))
    refine wpAny_bind (wpAny_runOwn (codeAny_mono h₄ fun r s₅ h₅ => ?_))
    obtain ⟨rfl, h₅⟩ := h₅
    exact wpAny_pure ⟨rfl, h₅⟩
theorem loop_in (I : Nat → Shared → Prop)
    (turn : ∀ n s, I n s → wpAny C.M A (pyNext it) (fun r s₁ => match r with
      | none => R (.ok .next) s₁
      | some v => wpAny C.M A (assign t2 env v) (fun _ s₂ => wpAny C.M A (eval elt env) (fun x s₃ =>
          wpAny C.M A (call (.builtin "list.append") [acc, x]) (fun _ s₄ => ∃ m, m < n ∧ I m s₄) NoE s₃) NoE s₂) NoE s₁) NoE s)
    (n : Nat) (h : I n s) (ht : ∀ v, letOwnedTupleGo t2 it v = pure () := by intro _; rfl) :
    codeAny C.M A (.compLoop (two elt t1 iter1 t2 iter2 scope pos) 1 it acc env) R s := by
  refine codeAny_loop rfl I (fun n s hI => ?_) n h
  show wpAny _ _ ((compTurn (two elt t1 iter1 t2 iter2 scope pos) 1 it acc env).onRaise (fun x => do noteFrame x env; theTreesLotGoes x)) _ _ s
  refine wpAny_noted ?_
  rw [compTurn_in]
  refine wpAny_bind (wpAny_standAt (wpAny_bind (wpAny_mono (turn n s hI) (fun r s₁ h₁ => ?_) fun _ _ f => f.elim)))
  cases r with
  | none => exact wpAny_pure h₁
  | some v =>
    refine wpAny_bind (wpAny_of_eq (ht v) ?_)
    exact wpAny_bind (wpAny_mono h₁ (fun _ s₂ h₂ => wpAny_bind (wpAny_bind (wpAny_mono h₂ (fun x s₃ h₃ => wpAny_bind (wpAny_mono h₃
      (fun _ s₄ h₄ => wpAny_pure (wpAny_pure ⟨rfl, h₄⟩)) fun _ _ f => f.elim)) fun _ _ f => f.elim))) fun _ _ f => f.elim)
theorem start_in
    (h0 : codeAny C.M A (.compLoop (two elt t1 iter1 t2 iter2 scope pos) 1 it acc env) R s)
    (h : wpAny C.M A (pyIter it) (fun it' s' => codeAny C.M A (.compLoop (two elt t1 iter1 t2 iter2 scope pos) 1 it' acc env) R s') NoE s) :
    codeAny C.M A (.compStart (two elt t1 iter1 t2 iter2 scope pos) 1 it acc env) R s := by
  refine codeAny_of_tree ?_
  show wpAny _ _ ((compStart (two elt t1 iter1 t2 iter2 scope pos) 1 it acc env).onRaise (fun x => do noteFrame x env; standAt theWindowsPlace)) _ _ s
  refine wpAny_notedAt ?_
  unfold compStart
  show wpAny _ _ (ask >>= _) _ _ s
  refine wpAny_bind (wpAny_askSetting (wpAny_ite ?_))
  split
  · first
      | exact wpAny_bind (wpAny_pure (wpAny_pure (And.intro rfl h0)))
      | exact wpAny_pure (And.intro rfl h0)
  · first
      | exact wpAny_bind (wpAny_rule (wpAny_bind (wpAny_standAt (wpAny_bind (wpAny_mono h (fun it' s' h' => wpAny_pure (And.intro rfl h')) fun _ _ f => f.elim)))))
      | (refine wpAny_bind (wpAny_rule ?_); show wpAny _ _ (standAt iter2.pos >>= _) _ _ s; exact wpAny_bind (wpAny_standAt (wpAny_bind (wpAny_mono h (fun it' s' h' => wpAny_pure (And.intro rfl h')) fun _ _ f => f.elim))))
end
theorem store_other {x : Str} {pv : Value} {R : Unit → Shared → Prop} (hk : c.kinds.lookup x = some .local) (hn : c.ν.lookup x = none) (a : At C c env A m H s)
    (k : ∀ s', At C c env A m H s' → (∃ mm, s'.heap.Ns env.locals mm ∧ mm x = some pv) → (∀ b, b ≠ env.locals → s'.heap.get? b = s.heap.get? b) → s'.gens = s.gens → s'.os = s.os → (∀ b, Hid H s'.heap b → Hid H s.heap b) → R () s') : wpAny C.M A (storeName env x pv) R NoE s := by
  obtain ⟨mm, hN, hm⟩ := a.N.ns
  refine wpAny_storeName_local (a.eo.kloc _ hk) hN (fun h' hN' hs => ?_) (by rw [a.eo.kind]; rfl)
  have Q1 := quiet_one (s' := { s with heap := h', toks := s.toks + 1 }) a.S a.N.apL (fun b n => hs.2 b n) (let ⟨o, _, _, ho, _⟩ := hN'; ⟨o, ho⟩) rfl rfl
  refine k _ ⟨a.eo, a.ao, Q1.1, ⟨a.N.len, ⟨_, hN', fun y j hy hky => ?_⟩, fun y j hy hky => ?_, ⟨a.N.apL.1, fun z => a.N.apL.2.1 ((Q1.2 _).mp z), a.N.apL.2.2⟩, fun y b e => ?_, a.N.injC⟩⟩ ⟨_, hN', if_pos rfl⟩ (fun b n => hs.2 b n) rfl rfl fun b z => (Q1.2 b).mp z
  · by_cases q : y = x
    · subst q; rw [hn] at hy; cases hy
    · rw [if_neg q]; exact hm y j hy hky
  · obtain ⟨ca, ov, e1, e2, e3⟩ := a.N.cells y j hy hky
    obtain ⟨n1, n2, n3, n4, _⟩ := a.N.apC _ _ e1
    exact ⟨ca, ov, e1, e2.sameBut hs n4, e3⟩
  · obtain ⟨n1, n2, n3, n4, o, lk⟩ := a.N.apC _ _ e
    exact ⟨n1, fun z => n2 ((Q1.2 _).mp z), n3, n4, o, (hs.2 _ n4).trans lk⟩
section
variable {x y : Str} {px py pe pos : Pos} {iter iter2 : Expr} {sc : Scope} {ci : Ctx} {ce : Env} {it D : Addr} {H2 : Heap} {xs : List V} {LL : List (List V)} {P : Nat → PHeap → Prop}
structure OutInv (C : Cfg) (ci : Ctx) (ce : Env) (A : Around) (m : Loc) (H : Heap) (h : PHeap) (H2 : Heap) (P : Nat → PHeap → Prop) (it D : Addr) (acc : List V) (k : Nat) (ov : Option V) (s' : Shared) : Prop where
  a : At C ci ce A (m ++ [ov]) H2 s'
  x : Ext H h H2 s'.heap
  p : P k s'.heap
  ai : Apart C H2 s'.heap it
  ad : Apart C H2 s'.heap D
  l : ∃ vs nn, IsL s'.heap D vs.toArray nn ∧ All2 RepV vs acc
theorem kids_in {it2 : Addr} {ys acc : List V} {ok ok2 : Heap → Prop} {P2 : Nat → PHeap → Prop} {k : Nat} {ov : Option V} {R : Result → Shared → Prop} {s0 : Shared} (hk : ci.kinds.lookup y = some .local) (hn : ci.ν.lookup y = none) (hd : (y == ("__debug__" : Str)) = false)
    (I : IterOk C xs ok it P) (I2 : IterOk C ys ok2 it2 P2) (hok2 : ok2 H2) (hlim : (acc ++ ys).length ≤ lim) (nit : it2 ≠ it) (nD : it2 ≠ D) (nL : it2 ≠ ce.locals) (nC : ∀ y, ce.cells.lookup y ≠ some it2) (nDi : D ≠ it) (nDL : D ≠ ce.locals) (nDC : ∀ y, ce.cells.lookup y ≠ some D) (niL : it ≠ ce.locals)
    (zi : h.get? it2 = none) (zD : h.get? D = none) (zL : h.get? ce.locals = none)
    (J : OutInv C ci ce A m H h H2 P it D acc k ov s0) (hP2 : P2 0 s0.heap) (ap2 : Apart C H2 s0.heap it2)
    (kk : ∀ s', OutInv C ci ce A m H h H2 P it D (acc ++ ys) k ov s' → R (.ok .next) s') :
    codeAny C.M A (.compLoop (two (.Name y pe) (.Name x px) iter (.Name y py) iter2 sc pos) 1 (.ref it2) (.ref D) ce) R s0 := by
  refine loop_in (fun n s' => ∃ j, n = ys.length - j ∧ j ≤ ys.length ∧ OutInv C ci ce A m H h H2 P it D (acc ++ ys.take j) k ov s' ∧ P2 j s'.heap ∧ Apart C H2 s'.heap it2) (fun n s1 hI => ?_) _ ⟨0, rfl, Nat.zero_le _, by rw [List.take_zero, List.append_nil]; exact J, hP2, ap2⟩
  clear J hP2 ap2
  obtain ⟨j, rfl, hjl, J, hP2, ap2⟩ := hI
  obtain ⟨vs, nn, l4, r4⟩ := J.l
  cases hx : ys[j]? with
  | none =>
    have hlen : ys.length ≤ j := List.getElem?_eq_none_iff.mp hx
    refine I2.stop j H2 s1 A _ J.a.ao.hd hx J.a.S hok2 hP2 fun s5 hk hg hos => ?_
    obtain ⟨t1, t2⟩ := touch J.a ap2 nL nC hk hg hos
    have e0 : acc ++ ys.take j = acc ++ ys := by rw [List.take_of_length_le hlen]
    exact kk s5 ⟨t1, J.x.touch zi hk t2, I.same _ _ _ J.p (fun o e => hk _ _ nit.symm e), J.ai.hidMono t2, J.ad.hidMono t2, ⟨vs, nn, hk _ _ nD.symm l4, e0 ▸ r4⟩⟩
  | some z =>
    have hlt : j < ys.length := by
      by_cases q : j < ys.length
      · exact q
      · rw [List.getElem?_eq_none (by (first | lia | omega))] at hx; cases hx
    refine I2.next j z H2 s1 A _ hx J.a.S hok2 hP2 fun pv s5 r5 P5 hk5 hg hos => ?_
    have hk' : ∀ b o, b ≠ it2 → s1.heap.get? b = some o → s5.heap.get? b = some o := fun b o n e => (hk5 b n).trans e
    obtain ⟨t1, t2⟩ := touch J.a ap2 nL nC hk' hg hos
    have x5 := J.x.touch zi hk' t2
    refine wpAny_noE (wpAny_assign_Name (store_other hk hn t1 fun s6 a6 hN6 hk6 hg6 hos6 hid6 => ?_))
    obtain ⟨mm, hN, hmm⟩ := hN6
    have hk6' : ∀ b o, b ≠ ce.locals → s5.heap.get? b = some o → s6.heap.get? b = some o := fun b o n e => (hk6 b n).trans e
    have x6 := x5.touch zL hk6' hid6
    refine wpAny_Name (wpAny_loadName_local a6.eo.kind (a6.eo.kloc _ hk) hN hmm ?_) hd
    have l6 : IsL s6.heap D vs.toArray nn := hk6' _ _ nDL (hk' _ _ nD.symm l4)
    have ad6 := (J.ad.hidMono t2).hidMono hid6
    have ai6 := (J.ai.hidMono t2).hidMono hid6
    have ap6 := (ap2.hidMono t2).hidMono hid6
    have hal : vs.length < lim := by
      have := r4.length
      rw [this, List.length_append, List.length_take]
      rw [List.length_append] at hlim
      (first | lia | omega)
    refine wpAny_noE (call_meets F.slot_list_append ⟨_, l6, rfl⟩ F.entry_list_append (F.args_list_append_2 _ _) (list_append D vs.toArray nn pv (by simp only [List.size_toArray]; exact sizeLine_lim (Nat.le_of_lt hal))) ⟨l6, ?_⟩)
    obtain ⟨n', en⟩ := mapSeq_list (items := vs.toArray) (n := nn) (fun x => x.push pv)
    have hkD : ∀ b o, b ≠ D → s6.heap.get? b = some o → (s6.heap.update D (Obj.mapSeq fun x => x.push pv)).get? b = some o := fun b o n e => (Heap.get?_update_other _ _ (Ne.symm n)).trans e
    have lD9 : (s6.heap.update D (Obj.mapSeq fun x => x.push pv)).get? D = some { cls := .type "list", dict := none, data := .seq (vs.toArray.push pv) n', slots := #[] } := by
      rw [Heap.get?_update_self _ l6 (by rw [en]; rfl), en]
    obtain ⟨u1, u2⟩ := touch (s' := { s6 with heap := s6.heap.update D (Obj.mapSeq fun x => x.push pv) }) a6 ad6 nDL nDC hkD rfl rfl
    have et : acc ++ ys.take (j + 1) = (acc ++ ys.take j) ++ [z] := by rw [List.take_succ, hx, List.append_assoc]; rfl
    obtain ⟨oi, lki⟩ := I.look _ _ J.p
    obtain ⟨oi5, lki5⟩ := I2.look _ _ P5
    refine ⟨ys.length - (j + 1), by (first | lia | omega), j + 1, rfl, hlt, ⟨u1, x6.touch zD hkD u2, I.same _ _ _ J.p (fun o e => hkD _ _ nDi.symm (hk6' _ _ niL (hk' _ _ nit.symm e))), ai6.hidMono u2, ad6.hidMono u2, ⟨vs ++ [pv], n', ?_, ?_⟩⟩, I2.same _ _ _ P5 (fun o e => hkD _ _ nD (hk6' _ _ nL e)), ap6.hidMono u2⟩
    · show _ = _
      rw [lD9]; simp
    · rw [et]; exact r4.append (.cons r5 .nil)
theorem kids_out {ok : Heap → Prop} {R : Result → Shared → Prop} {s0 : Shared} (hk : ci.kinds.lookup y = some .local) (hn : ci.ν.lookup y = none) (hd : (y == ("__debug__" : Str)) = false)
    (hattr : SndE C Φ ci iter2 (.attr (.var m.length) 2)) (hfold : ∀ x, foldedSetIterable iter2 ce x = pure x)
    (hst : ∀ {m' : Loc} {H' : Heap} {s5 : Shared} {pv : Value} {y : V} {R : Unit → Shared → Prop}, At C ci ce A m' H' s5 → RepV pv y → (∀ s', At C ci ce A (m'.set m.length (some y)) H' s' → (∀ b, b ≠ ce.locals → s'.heap.get? b = s5.heap.get? b) → s'.gens = s5.gens → s'.os = s5.os → (∀ b, Hid H' s'.heap b → Hid H' s5.heap b) → R () s') → wpAny C.M A (storeName ce x pv) R NoE s5)
    (I : IterOk C xs ok it P) (hok : ok H2) (hks : All2 (KidsAt H2) xs LL) (hlim : LL.flatten.length ≤ lim) (nDi : D ≠ it) (nDL : D ≠ ce.locals) (nDC : ∀ y, ce.cells.lookup y ≠ some D) (niL : it ≠ ce.locals) (niC : ∀ y, ce.cells.lookup y ≠ some it)
    (zi : h.get? it = none) (zD : h.get? D = none) (zL : h.get? ce.locals = none)
    (J : OutInv C ci ce A m H h H2 P it D [] 0 none s0)
    (kk : ∀ (k : Nat) ov s', At C ci ce A (m ++ [ov]) H2 s' → Ext H h H2 s'.heap → Apart C H2 s'.heap it → Apart C H2 s'.heap D → (∃ vs nn, IsL s'.heap D vs.toArray nn ∧ All2 RepV vs LL.flatten) → R (.ok .next) s') :
    codeAny C.M A (.compLoop (two (.Name y pe) (.Name x px) iter (.Name y py) iter2 sc pos) 0 (.ref it) (.ref D) ce) R s0 := by
  refine loop_out (fun n s' => ∃ k ov, n = xs.length - k ∧ k ≤ xs.length ∧ OutInv C ci ce A m H h H2 P it D (LL.take k).flatten k ov s') (fun n s1 hI => ?_) _ ⟨0, none, rfl, Nat.zero_le _, J⟩ hfold
  clear J
  obtain ⟨k, ov, rfl, hkl, J⟩ := hI
  obtain ⟨vs, nn, l4, r4⟩ := J.l
  have hlen := hks.length
  cases hx : xs[k]? with
  | none =>
    have hle : xs.length ≤ k := List.getElem?_eq_none_iff.mp hx
    refine I.stop k H2 s1 A _ J.a.ao.hd hx J.a.S hok J.p fun s5 hk5 hg hos => ?_
    obtain ⟨t1, t2⟩ := touch J.a J.ai niL niC hk5 hg hos
    have e0 : (LL.take k).flatten = LL.flatten := by rw [List.take_of_length_le (by (first | lia | omega))]
    exact kk k ov s5 t1 (J.x.touch zi hk5 t2) (J.ai.hidMono t2) (J.ad.hidMono t2) ⟨vs, nn, hk5 _ _ nDi l4, e0 ▸ r4⟩
  | some z =>
    have hlt : k < xs.length := by
      by_cases q : k < xs.length
      · exact q
      · rw [List.getElem?_eq_none (by (first | lia | omega))] at hx; cases hx
    have hL : LL[k]? = some (LL[k]'(by (first | lia | omega))) := List.getElem?_eq_getElem _
    obtain ⟨z', hz', kz⟩ := hks.get hL
    rw [hx] at hz'; cases hz'
    obtain ⟨d, cc, fs, r, rfl, hd1, hd2, hd3⟩ := kz
    refine I.next k (.ref d) H2 s1 A _ hx J.a.S hok J.p fun pv s5 r5 P5 hk5 hg hos => ?_
    have hk' : ∀ b o, b ≠ it → s1.heap.get? b = some o → s5.heap.get? b = some o := fun b o n e => (hk5 b n).trans e
    obtain ⟨t1, t2⟩ := touch J.a J.ai niL niC hk' hg hos
    have x5 := J.x.touch zi hk' t2
    refine wpAny_noE (wpAny_assign_Name (hst t1 r5 fun s6 a6 hk6 hg6 hos6 hid6 => ?_))
    have em : (m ++ [ov]).set m.length (some (V.ref d)) = m ++ [some (V.ref d)] := by rw [List.set_append_right _ _ (Nat.le_refl _), Nat.sub_self]; rfl
    rw [em] at a6
    have hk6' : ∀ b o, b ≠ ce.locals → s5.heap.get? b = some o → s6.heap.get? b = some o := fun b o n e => (hk6 b n).trans e
    have x6 := x5.touch zL hk6' hid6
    obtain ⟨oi5, lki5⟩ := I.look _ _ P5
    have lki6 := hk6' _ _ niL lki5
    have lD6 : IsL s6.heap D vs.toArray nn := hk6' _ _ nDL (hk' _ _ nDi l4)
    have ad6 := (J.ad.hidMono t2).hidMono hid6
    have ai6 := (J.ai.hidMono t2).hidMono hid6
    have gv : (m ++ [some (V.ref d)])[m.length]? = some (some (V.ref d)) := by rw [List.getElem?_append_right (Nat.le_refl _), Nat.sub_self]; rfl
    have hw6 : wpSrc Φ (.of (.attr (.var m.length) 2)) (m ++ [some (V.ref d)]) H2 (fun ys ok2 H7 => H7 = H2 ∧ ys = LL[k]'(by (first | lia | omega)) ∧ ok2 H2) := by
      simp only [w_of, w_attr, w_var, gv]
      show attrW (.ref d) 2 H2 _
      unfold attrW
      simp only [hd1]
      refine ⟨.ref r, hd2, ?_⟩
      unfold ofW
      simp only [hd3]
      exact ⟨_, rfl, by first | trivial | rfl, by first | trivial | rfl, by first | trivial | exact hd3⟩
    refine src_of hattr a6 hw6 fun it2 s7 ys ok2 H7 P2 I2 hP2 hz2 ap7 a7 x7 q7 => ?_
    obtain ⟨rfl, rfl, hok2⟩ := q7
    obtain ⟨li7, ai7⟩ := ai6.ext x7 lki6
    obtain ⟨lD7, ad7⟩ := ad6.ext x7 lD6
    have n1 : it2 ≠ it := fun q => by rw [q, lki6] at hz2; cases hz2
    have n2 : it2 ≠ D := fun q => by rw [q, show s6.heap.get? D = _ from lD6] at hz2; cases hz2
    have n3 : it2 ≠ ce.locals := fun q => by
      obtain ⟨mm, ⟨o, es, ep, ho, hr⟩, hm⟩ := a6.N.ns
      rw [← q, hz2] at ho; cases ho
    have n4 : ∀ y, ce.cells.lookup y ≠ some it2 := fun y q => by
      obtain ⟨_, _, _, _, o, lk⟩ := a6.N.apC _ _ q
      rw [hz2] at lk; cases lk
    have et : (LL.take (k + 1)).flatten = (LL.take k).flatten ++ LL[k]'(by (first | lia | omega)) := by
      rw [List.take_succ, hL, List.flatten_append]
      exact congrArg _ (List.append_nil _)
    have zl : ((LL.take k).flatten ++ LL[k]'(by (first | lia | omega))).length ≤ lim := by
      rw [← et]
      have : LL.flatten = (LL.take (k + 1)).flatten ++ (LL.drop (k + 1)).flatten := by rw [← List.flatten_append, List.take_append_drop]
      rw [this, List.length_append] at hlim
      (first | lia | omega)
    have loop := kids_in (x := x) (px := px) (py := py) (pe := pe) (pos := pos) (iter := iter) (iter2 := iter2) (sc := sc) (R := fun r s₅ => r = .ok .next ∧ ∃ m', m' < xs.length - k ∧ ∃ k ov, m' = xs.length - k ∧ k ≤ xs.length ∧ OutInv C ci ce A m H h H7 P it D (LL.take k).flatten k ov s₅)
      hk hn hd I I2 hok2 zl n1 n2 n3 n4 nDi nDL nDC niL (x6.alive _ hz2) zD zL (k := k + 1) (ov := some (V.ref d)) (s0 := s7) ⟨a7, x6.trans x7, I.same _ _ _ P5 (fun o e => by rw [lki5] at e; cases e; exact li7), ai7, ad7, ⟨vs, nn, lD7, r4⟩⟩ hP2 ap7
      fun s' J' => ⟨rfl, xs.length - (k + 1), by (first | lia | omega), k + 1, some (V.ref d), rfl, hlt, by rw [et]; exact J'⟩
    exact start_in loop (I2.self 0 _ _ _ hP2 loop)
theorem kids_main {i : Nat} (K : CompOk c sc x) (hy : sc.names.lookup y = some .local) (hny : c.ν.lookup y = none) (hxy : y ≠ x) (hd : (y == ("__debug__" : Str)) = false)
    (hattr : SndE C Φ (c.inner1 sc x) iter2 (.attr (.var c.next) 2)) (hfold : ∀ (env : Env) x, foldedSetIterable iter2 env x = pure x) (hsrc : SndE C Φ c iter (.var i)) :
    CompMainG C Φ c sc (.Name y pe) (.Name x px) iter [] [⟨.Name y py, iter2, [], 0⟩] (.prim .kidsOf [.var i]) := fun {env A m H s pos Q RR} a hw hRR => by
  have hw' : varW m[i]? fun v => kidsW [v] H Q := hw
  have hw2 : wpSrc Φ (.of (.var i)) m H (fun xs ok H2 => H2 = H ∧ ok H ∧ ∃ LL, All2 (KidsAt H) xs LL ∧ LL.flatten.length ≤ lim ∧ allocW (.list LL.flatten) H Q) := by
    simp only [w_of, w_var]
    unfold varW at hw' ⊢
    split at hw'
    · rename_i v hm
      unfold kidsW at hw'
      split at hw'
      · rename_i _ p e
        cases e
        obtain ⟨ks, LL, h1, h2, h3, h4⟩ := hw'
        show ofW (.ref p) H _
        unfold ofW
        simp only [h1]
        exact ⟨ks, rfl, by first | trivial | rfl, by first | trivial | exact h1, LL, h2, h3, h4⟩
      · exact hw'.elim
    · exact hw'.elim
  clear hw hw'
  refine src_of hsrc a hw2 fun it s2 xs ok H2 P I hP hz ap a2 x2 q2 => ?_
  obtain ⟨rfl, hok, LL, hks, hlim, hal⟩ := q2
  refine wpAny_newObj_type (wpAny_newFunctionEnv K.cell (by intro y hy; cases hy) (fun h₁ hns₁ hsb₁ => ?_) K.kind)
  dsimp only at hns₁ hsb₁ ⊢
  have hC : (s2.heap.push { cls := .type "list", dict := none, data := .seq ([] : List Value).toArray }).objs.size = s2.heap.objs.size + 1 := Heap.size_push _ _
  have hCz : s2.heap.get? (s2.heap.push { cls := .type "list", dict := none, data := .seq ([] : List Value).toArray }).objs.size = none := by
    cases q : s2.heap.get? (s2.heap.push { cls := .type "list", dict := none, data := .seq ([] : List Value).toArray }).objs.size with
    | none => rfl
    | some o => have := Heap.lt_size q; rw [hC] at this; exact absurd this (Nat.not_lt.mpr (Nat.le_succ _))
  have hDC : s2.heap.objs.size ≠ (s2.heap.push { cls := .type "list", dict := none, data := .seq ([] : List Value).toArray }).objs.size := by rw [hC]; exact Nat.ne_of_lt (Nat.lt_succ_self _)
  have old : ∀ b o, s2.heap.get? b = some o → h₁.get? b = some o := fun b o e => hsb₁.extBut b o (fun q => by rw [q, hCz] at e; cases e) (Heap.get?_push_of_some _ (Heap.get?_push_of_some _ e))
  have lkD : h₁.get? s2.heap.objs.size = some { cls := .type "list", dict := none, data := .seq ([] : List Value).toArray } := hsb₁.extBut _ _ hDC (Heap.get?_push_of_some _ (Heap.get?_push_size _ rfl))
  have zC := x2.alive _ hCz
  have zD := x2.alive _ (look_size s2.heap)
  have locL : ∀ b, s.heap.get? b = none → b ≠ env.locals := fun b e q => by
    obtain ⟨mm, ⟨o, es, ep, ho, hr⟩, hm⟩ := a.N.ns
    rw [← q, e] at ho; cases ho
  have locC : ∀ b, s.heap.get? b = none → ∀ x, env.cells.lookup x ≠ some b := fun b e x q => by
    obtain ⟨_, _, _, _, o, lk⟩ := a.N.apC _ _ q
    rw [e] at lk; cases lk
  have hfree := hfree_of K.toB a.N
  have locK : ∀ b, s.heap.get? b = none → ∀ x, (closOf env sc.names []).lookup x ≠ some b := fun b e x q => locC b e x (clos_lookup hfree q)
  obtain ⟨S3, x3⟩ := a2.S.grow (s' := { s2 with heap := h₁, toks := s2.toks + ([] : List (Str × Value)).length }) old rfl rfl
  have hid3 := hid_grow a2.S old
  have apC := (Apart.fresh a2.S hCz).hidMono hid3
  have a3 := inner_at K (a2.on S3 x3) (mm := fun x => ([] : List (Str × Value)).reverse.lookup x) hns₁ rfl apC (locL _ zC) (locC _ zC)
  have hnu : (c.inner1 sc x).ν.lookup x = some m.length := by rw [a.N.len]; simp [Ctx.inner1, List.lookup]
  have hnu2 : (c.inner1 sc x).ν.lookup y = none := by simp only [Ctx.inner1, List.lookup, beq_eq_false_iff_ne.mpr hxy, hny]
  obtain ⟨oit, lkit⟩ := I.look _ _ hP
  have nDi : s2.heap.objs.size ≠ it := fun q => by have := Heap.lt_size lkit; rw [← q] at this; exact Nat.lt_irrefl _ this
  have nCi : it ≠ (s2.heap.push { cls := .type "list", dict := none, data := .seq ([] : List Value).toArray }).objs.size := fun q => by rw [q, hCz] at lkit; cases lkit
  have loop := kids_out (R := RR (.ref s2.heap.objs.size) (s2.heap.push { cls := .type "list", dict := none, data := .seq ([] : List Value).toArray }).objs.size) (pe := pe) (px := px) (py := py) (pos := pos) (iter := iter) (sc := sc) (ci := c.inner1 sc x) (h := s.heap) (H := H2) (H2 := H2) (m := m) hy hnu2 hd (by rw [a.N.len]; exact hattr) (hfold _) (fun t r k => store_local (c := c.inner1 sc x) K.own hnu t r k)
    I hok hks hlim nDi hDC (locK _ zD) nCi (locK _ hz) hz zD zC ⟨a3, x2.trans x3, I.same _ _ _ hP (fun o e => old _ _ e), ap.hidMono hid3, (Apart.fresh a2.S (look_size _)).hidMono hid3, ⟨[], 0, lkD, .nil⟩⟩ fun k ov s5 a5 x5 ai5 ad5 l5 => ?_
  · exact codeAny_compStart_list loop (wpAny_noE (I.self 0 _ _ _ (I.same _ _ _ hP (fun o e => old _ _ e)) loop))
  · obtain ⟨vs, nn, l5, r5⟩ := l5
    have S5 := a5.S.adopt (o := .list LL.flatten) ad5 (fun _ _ q => by cases q) ⟨vs, nn, l5, r5, by rw [r5.length]; (first | lia | omega)⟩
    have x6 := x5.adopt (o := .list LL.flatten) zD (fun _ _ q => by cases q)
    have apC5 : Apart C H2 s5.heap (s2.heap.push { cls := .type "list", dict := none, data := .seq ([] : List Value).toArray }).objs.size := ⟨a5.N.apL.1, a5.N.apL.2.1, a5.N.apL.2.2⟩
    refine hRR _ _ s5 _ zC hDC (let ⟨mm, hm, _⟩ := a5.N.ns; ⟨mm, hm⟩) ⟨?_, fun z => apC5.hid ?_, apC5.base⟩ S5 x6 (hal _ ad5.at_)
    · simp only [Heap.upd, Ne.symm hDC, if_false]; exact apC5.at_
    · obtain ⟨d, ci, fs, o, e1, e2, e3⟩ := z
      by_cases q : d = s2.heap.objs.size
      · subst q; simp [Heap.upd] at e1
      · simp [Heap.upd, q] at e1; exact ⟨d, ci, fs, o, e1, e2, e3⟩
end
end ML
namespace ML
open PySem PySem.W PySem.Calls PyProof.Rows PySem.SeqAt
variable {C : Cfg} {Φ : Orac} {c : Ctx} {H H' H'' H1 : Heap} {s s' s1 s2 : Shared} {h h' h'' : PHeap} {A : Around} {env : Env} {m m' : Loc}
theorem tupZ_ok {e : Expr} {es : List Expr} (h : tupZ e = some es) : ∃ k p, e = .Tuple es k p := by
  unfold tupZ at h
  by_cases q : e.ctorIdx = 25
  · revert h
    refine Expr.Tuple.elim e q fun es k p h => ?_
    cases h
    exact ⟨k, p, rfl⟩
  · rw [dif_neg q] at h; cases h
theorem touchP (P : Addr → Prop) (a : At C c env A m H s) (ap : ∀ b, P b → Apart C H s.heap b) (hl : ¬ P env.locals) (hc : ∀ x b, env.cells.lookup x = some b → ¬ P b) (hk : ∀ b o, ¬ P b → s.heap.get? b = some o → s'.heap.get? b = some o) (hg : s'.gens = s.gens) (hos : s'.os = s.os) :
    At C c env A m H s' ∧ ∀ b, Hid H s'.heap b → Hid H s.heap b := by
  have hh : ∀ b, Hid H s'.heap b → Hid H s.heap b := fun b z => z.same (fun d c fs e o lk => hk _ _ (fun q => by rw [(ap _ q).at_] at e; cases e) lk) fun d o e => (a.S.rep _ _ e).look
  refine ⟨⟨a.eo, a.ao, a.S.quiet P (fun b o e n => hk b o n e) (fun b e => ⟨(ap b e).at_, (ap b e).base, (ap b e).hid⟩) hg hos, a.N.stay (fun b o w e => hk b o (fun q => ?_) e) hh⟩, hh⟩
  rcases w with w | ⟨y, w⟩
  · exact hl (w ▸ q)
  · exact hc y _ w q
theorem ExtS.touchP {P : Addr → Prop} (x : ExtS env H h H' h') (hz : ∀ b, P b → h.get? b = none) (hk : ∀ b o, ¬ P b → h'.get? b = some o → h''.get? b = some o) (hh : ∀ b, Hid H' h'' b → Hid H' h' b) : ExtS env H h H' h'' where
  keep b o e n l k := hk b o (fun q => by rw [hz b q] at e; cases e) (x.keep b o e n l k)
  alive b e := by
    by_cases q : P b
    · exact hz b q
    · refine x.alive b ?_
      cases z : h'.get? b with
      | none => rfl
      | some o => rw [hk b o q z] at e; cases e
  fresh b f := x.fresh b (by
    rcases f with f | f | f
    · exact .inl f
    · exact .inr (.inl f)
    · exact .inr (.inr (hh _ f)))
  dom b o e := x.dom b o e
noncomputable def ZipAt (n p q k : Nat) (h : PHeap) : Prop := IsZip h (n + 4) (n + 2) (n + 3) .none ∧ IsPair h (n + 2) (.ref n) (.ref (n + 1)) ∧ (∃ a b, IsPair h (n + 3) a b) ∧ h.IsListIter n p k ∧ h.IsListIter (n + 1) q k
theorem ZipAt.same {n p q k : Nat} (z : ZipAt n p q k h) (e : ∀ b o, n ≤ b → b < n + 5 → h.get? b = some o → h'.get? b = some o) : ZipAt n p q k h' :=
  let ⟨h1, h2, ⟨a, b, h3⟩, h4, h5⟩ := z
  ⟨e _ _ (by (first | lia | omega)) (by (first | lia | omega)) h1, e _ _ (by (first | lia | omega)) (by (first | lia | omega)) h2, ⟨a, b, e _ _ (by (first | lia | omega)) (by (first | lia | omega)) h3⟩, h4.at fun o x => e _ _ (by (first | lia | omega)) (by (first | lia | omega)) x, h5.at fun o x => e _ _ (by (first | lia | omega)) (by (first | lia | omega)) x⟩
theorem ZipAt.look {n p q k b : Nat} (z : ZipAt n p q k h) (h1 : n ≤ b) (h2 : b < n + 5) : ∃ o, h.get? b = some o := by
  obtain ⟨z1, z2, ⟨u, v, z3⟩, ⟨o4, z4, _⟩, ⟨o5, z5, _⟩⟩ := z
  have : b = n ∨ b = n + 1 ∨ b = n + 2 ∨ b = n + 3 ∨ b = n + 4 := by (first | lia | omega)
  rcases this with rfl | rfl | rfl | rfl | rfl
  · exact ⟨_, z4⟩
  · exact ⟨_, z5⟩
  · exact ⟨_, z2⟩
  · exact ⟨_, z3⟩
  · exact ⟨_, z1⟩
theorem lt_of_get' {α : Type} {l : List α} {k : Nat} {x : α} (h : l[k]? = some x) : k < l.length := by
  by_cases q : k < l.length
  · exact q
  · rw [List.getElem?_eq_none (Nat.not_lt.mp q)] at h; cases h
theorem zip_apart {n p q : Nat} (hp : p < n) (hq : q < n) : ZipApart (n + 4) (n + 2) (n + 3) n (n + 1) p q := by constructor <;> exact (show @Ne Nat _ _ by (first | lia | omega))
theorem All2.fst {vs : List Value} {ps : List (V × V)} {k : Nat} {x : V × V} (r : All2 RepV vs (ps.map Prod.fst)) (hx : ps[k]? = some x) : ∃ v, vs[k]? = some v ∧ RepV v x.1 := r.get (by rw [List.getElem?_map, hx]; rfl)
theorem All2.snd {vs : List Value} {ps : List (V × V)} {k : Nat} {x : V × V} (r : All2 RepV vs (ps.map Prod.snd)) (hx : ps[k]? = some x) : ∃ v, vs[k]? = some v ∧ RepV v x.2 := r.get (by rw [List.getElem?_map, hx]; rfl)
theorem on2.of {f : V → V → Heap → Prop} : (fun vs H => match vs with | [x, y] => f x y H | _ => False) = on2 f := rfl
theorem forz_ok {x y : Str} {px py pt p pc pos : Pos} {kt : Nat} {e1 e2 : Expr} {me1 me2 : E} {b : List Stmt} {mb : List S} {i j : Nat} {Q : PS} (O : C.Ok) (hx : trName c x = some i) (hy : trName c y = some j) (hg : c.isGlob "zip" = true) (s1' : isStar e1 = false) (s2' : isStar e2 = false) (he1 : SndE C Φ c e1 me1) (he2 : SndE C Φ c e2 me2) (hb : SndSs C Φ c b mb)
    (a : At C c env A m H s) (hw : wpS Φ (.forz i j me1 me2 mb) m H Q) :
    wpAny C.M A (exec (.For (.Tuple [.Name x px, .Name y py] kt pt) (.Call (.Name "zip" p) [e1, e2] [] pc) b [] pos) env) (PSs C c env H s Q) NoE s := by
  rw [s_forz] at hw
  have hw' : wpEs Φ [me1, me2] m H (on2 fun v u H => zipW v u H fun ps ok => forzL (wpSs Φ mb) i j ok ps m H Q) := hw
  refine wpAny_For ?_ (fun _ => rfl)
  refine callT_ok O (by decide) rfl hg (by simp [s1', s2']) (items_cons s1' he1 (items_cons s2' he2 items_nil)) a hw' fun vs s1 xs H1 r a1 x1 q => ?_
  have g := q.get r
  clear q r
  obtain ⟨v, w, vx, vy, rfl, rfl, r1, r2, q⟩ := g
  unfold zipW at q
  split at q
  case h_2 => exact q.elim
  rename_i p'
  split at q
  case h_2 => exact q.elim
  rename_i q'
  cases r1.ref
  cases r2.ref
  obtain ⟨ps, ok1, fw⟩ := q
  have rp := a1.S.rep _ _ ok1.1
  have rq := a1.S.rep _ _ ok1.2
  obtain ⟨vs1, n1, l1, rr1, _⟩ := rp
  obtain ⟨vs2, n2, l2, rr2, _⟩ := rq
  refine call_zip_2 l1.isList l2.isList fun h2 z1 z2 z3 z4 z5 hsz hk2 => ?_
  have zp : p' < s1.heap.objs.size := Heap.lt_size l1
  have zq : q' < s1.heap.objs.size := Heap.lt_size l2
  have Z : ZipAt s1.heap.objs.size p' q' 0 h2 := ⟨z1, z2, ⟨_, _, z3⟩, z4, z5⟩
  refine wpAny_pyIter_zip z1 ?_
  clear z1 z2 z3 z4 z5
  obtain ⟨S2, x2⟩ := a1.S.grow (s' := { s1 with heap := h2 }) hk2 rfl rfl
  have a2 := a1.on S2 x2
  have xx2 := x1.trans x2
  have new : ∀ b, s1.heap.objs.size ≤ b → s1.heap.get? b = none := fun b hb => by
    cases q : s1.heap.get? b with
    | none => rfl
    | some o => exact absurd (Heap.lt_size q) (Nat.not_lt.mpr hb)
  have zs : ∀ b, s1.heap.objs.size ≤ b → s.heap.get? b = none := fun b hb => x1.alive _ (new b hb)
  have ap2 : ∀ b, s1.heap.objs.size ≤ b → Apart C H1 h2 b := fun b hb => (Apart.fresh a1.S (new b hb)).hidMono (hid_grow a1.S hk2)
  generalize s1.heap.objs.size = n at *
  let P : Addr → Prop := fun b => n ≤ b ∧ b < n + 5
  have hl : ¬ P env.locals := fun q => by
    obtain ⟨mm, ⟨o, es, ep, ho, hr⟩, hm⟩ := a.N.ns
    rw [zs _ q.1] at ho; cases ho
  have hc : ∀ x b, env.cells.lookup x = some b → ¬ P b := fun x b e q => by
    obtain ⟨_, _, _, _, o, lk⟩ := a.N.apC _ _ e
    rw [zs _ q.1] at lk; cases lk
  refine codeAny_mono (R := fun r s' => ∃ f, r = .ok f ∧ PSs C c env H s Q f s') ?_ (fun r s' z => by obtain ⟨f, rfl, z⟩ := z; exact z)
  refine codeAny_forLoop_any (fun nn s' => ∃ k m' H', nn = ps.length - k ∧ k ≤ ps.length ∧ forzL (wpSs Φ mb) i j (zipOk p' q' ps) (ps.drop k) m' H' Q ∧ At C c env A m' H' s' ∧ ExtS env H s.heap H' s'.heap ∧ ZipAt n p' q' k s'.heap ∧ ∀ b, P b → Apart C H' s'.heap b) (fun nn s1 hI => ?_) _ ⟨0, m, H1, rfl, Nat.zero_le _, fw, a2, xx2.toS, Z, fun b hb => ap2 b hb.1⟩
  clear fw a2 xx2 Z ap2 S2 x2 a1 x1 l1 l2 rr1 rr2 ok1 hk2 new
  obtain ⟨k, m1, H1, rfl, hkl, fw, a1, x1, Z1, ap1⟩ := hI
  have ok1 : zipOk p' q' ps H1 := by
    cases hd : ps.drop k with
    | nil => rw [hd] at fw; exact fw.1
    | cons x r => rw [hd] at fw; exact fw.1
  obtain ⟨vs1, n1, l1, rr1, _⟩ := a1.S.rep _ _ ok1.1
  obtain ⟨vs2, n2, l2, rr2, _⟩ := a1.S.rep _ _ ok1.2
  have W := WalksT.zip2 (prog := C.prog) (w := C.w) (A := A) a.ao.hd (n + 4) (n + 2) (n + 3) n (n + 1) p' q' (zip_apart zp zq) vs1.toArray vs2.toArray
  have wrP : ∀ b, ¬ P b → b ∉ [n + 4, n + 3, n, n + 1] := fun b hb hm => hb (by
    simp only [List.mem_cons, List.not_mem_nil, or_false] at hm
    show n ≤ b ∧ b < n + 5
    rcases hm with rfl | rfl | rfl | rfl <;> (constructor <;> (first | exact Nat.le_refl _ | exact Nat.le_add_right _ _ | exact Nat.lt_add_of_pos_right (by decide) | exact Nat.add_lt_add_left (by decide) _)))
  have len1 : vs1.length = ps.length := by rw [rr1.length, List.length_map]
  have len2 : vs2.length = ps.length := by rw [rr2.length, List.length_map]
  have hmin : min vs1.toArray.size vs2.toArray.size = ps.length := by rw [List.size_toArray, List.size_toArray, len1, len2, Nat.min_self]
  have hst : IsZip s1.heap (n + 4) (n + 2) (n + 3) .none ∧ IsPair s1.heap (n + 2) (.ref n) (.ref (n + 1)) ∧ (∃ a b, IsPair s1.heap (n + 3) a b) ∧ s1.heap.IsListIter n p' k ∧ s1.heap.IsListIter (n + 1) q' k ∧ s1.heap.IsList p' vs1.toArray ∧ s1.heap.IsList q' vs2.toArray := ⟨Z1.1, Z1.2.1, Z1.2.2.1, Z1.2.2.2.1, Z1.2.2.2.2, l1.isList, l2.isList⟩
  rw [hmin] at W
  cases hx' : ps[k]? with
  | none =>
    have hlen : ps.length ≤ k := List.getElem?_eq_none_iff.mp hx'
    rw [List.drop_eq_nil_of_le hlen] at fw
    cases Nat.le_antisymm hkl hlen
    refine W.done s1 _ _ hst fun h2 tk hk => ?_
    have keep : ∀ b o, ¬ P b → s1.heap.get? b = some o → h2.get? b = some o := fun b o n e => hk b o (wrP b n) e
    obtain ⟨t1, t2⟩ := touchP P (s' := { s1 with heap := h2, toks := tk }) a1 ap1 hl hc keep rfl rfl
    exact wpAny_execs_nil ⟨_, rfl, .next, m1, H1, trivial, t1.S, t1.N, x1.touchP (P := P) (fun b hb => zs b hb.1) keep t2, fw.2⟩
  | some xy =>
    have hlt : k < ps.length := lt_of_get' hx'
    have hd : ps.drop k = xy :: ps.drop (k + 1) := by
      rw [List.drop_eq_getElem_cons hlt]
      rw [List.getElem?_eq_getElem hlt] at hx'
      rw [Option.some.inj hx']
    rw [hd] at fw
    refine W.item k s1 _ _ hlt hst fun T vals h2 tk hPt _ hT hmid hk => ?_
    obtain ⟨vx, vy, ex, ey, rfl⟩ := hPt
    obtain ⟨vx', ex', rx⟩ := rr1.fst hx'
    obtain ⟨vy', ey', ry⟩ := rr2.snd hx'
    rw [List.getElem?_toArray, ex'] at ex
    rw [List.getElem?_toArray, ey'] at ey
    cases ex; cases ey
    refine W.go _ kt pt k T _ _ _ hmid fun h3 hst3 hk3 => ?_
    have hT3 : h3.IsTuple T #[vx, vy] := hT.at fun o e => hk3 T o (W.apart k T h2 hmid) e
    refine wpAny_assign_Tuple a.ao.hd hT3 rfl rfl fun h4 hx4 => ?_
    replace hx4 : Heap.ExtBut h3.objs.size h3 h4 := hx4
    have up4 : ∀ b o, h3.get? b = some o → h4.get? b = some o := fun b o e => hx4 b o (Nat.ne_of_lt (Heap.lt_size e)) e
    have keep : ∀ b o, ¬ P b → s1.heap.get? b = some o → h4.get? b = some o := fun b o n e => up4 b o (hk3 b o (wrP b n) (hk b o (wrP b n) e))
    obtain ⟨t1, t2⟩ := touchP P (s' := { s1 with heap := h4, toks := tk }) a1 ap1 hl hc keep rfl rfl
    have Z4 : ZipAt n p' q' (k + 1) h4 := ZipAt.same (h := h3) ⟨hst3.1, hst3.2.1, hst3.2.2.1, hst3.2.2.2.1, hst3.2.2.2.2.1⟩ fun b o _ _ e => up4 b o e
    have x4 := x1.touchP (P := P) (fun b hb => zs b hb.1) keep t2
    have ap4 : ∀ b, P b → Apart C H1 h4 b := fun b hb => (ap1 b hb).hidMono t2
    show wpAny _ A (do holding [vy] (assign (.Name x px) env vx); do holding [] (assign (.Name y py) env vy); pure ()) _ _ _
    refine wpAny_bind (wpAny_holding (wpAny_noE (wpAny_assign_Name (store_ok hx t1 rx fun s5 S5 N5 x5 => ?_))))
    refine wpAny_bind (wpAny_holding (wpAny_noE (wpAny_assign_Name (store_ok hy (t1.then S5 N5) ry fun s6 S6 N6 x6 => wpAny_pure ?_))))
    have x46 := x5.trans x6
    have hl' : ∀ b, P b → b ≠ env.locals := fun b hb q => hl (q ▸ hb)
    have hc' : ∀ b, P b → ∀ x, env.cells.lookup x ≠ some b := fun b hb x q => hc x b q hb
    have ap6 : ∀ b o, P b → h4.get? b = some o → s6.heap.get? b = some o ∧ Apart C H1 s6.heap b := fun b o hb e => x46.apart e (ap4 b hb) (hl' b hb) (hc' b hb)
    refine wpAny_mono (hb ((t1.then S5 N5).then S6 N6) fw.2) (fun fl s7 z => ?_) fun _ _ f => f.elim
    obtain ⟨mfl, m7, H7, r7, S7, N7, x7, H8, l8, q7⟩ := z
    have xx := ((x4.trans x46).trans x7).forget l8
    have ap7 : ∀ b o, P b → h4.get? b = some o → s7.heap.get? b = some o ∧ Apart C H8 s7.heap b := fun b o hb e =>
      let ⟨e6, a6⟩ := ap6 b o hb e
      let ⟨e7, a7⟩ := x7.apart e6 a6 (hl' b hb) (hc' b hb)
      ⟨e7, a7.le l8⟩
    have go : forzL (wpSs Φ mb) i j (zipOk p' q' ps) (ps.drop (k + 1)) m7 H8 Q → ∃ nn, nn < ps.length - k ∧ ∃ k m' H', nn = ps.length - k ∧ k ≤ ps.length ∧ forzL (wpSs Φ mb) i j (zipOk p' q' ps) (ps.drop k) m' H' Q ∧ At C c env A m' H' s7 ∧ ExtS env H s.heap H' s7.heap ∧ ZipAt n p' q' k s7.heap ∧ ∀ b, P b → Apart C H' s7.heap b := fun q =>
      ⟨ps.length - (k + 1), by (first | lia | omega), k + 1, m7, H8, rfl, hlt, q, a.then (S7.forget l8) (N7.forget l8), xx, Z4.same (fun b o b1 b2 e => (ap7 b o ⟨b1, b2⟩ e).1), fun b hb => let ⟨o, e⟩ := Z4.look hb.1 hb.2; (ap7 b o hb e).2⟩
    cases fl with
    | next => cases mfl <;> first | exact r7.elim | exact go q7
    | cont => cases mfl <;> first | exact r7.elim | exact go q7
    | brk => cases mfl <;> first | exact r7.elim | exact ⟨_, rfl, .next, m7, H8, trivial, S7.forget l8, N7.forget l8, xx, q7⟩
    | ret v => cases mfl <;> first | exact r7.elim | exact ⟨_, rfl, _, m7, H8, r7, S7.forget l8, N7.forget l8, xx, q7⟩
end ML
namespace ML
open PySem PySem.W PySem.Calls PyProof.Rows PySem.SeqAt
variable {C : Cfg} {Φ : Orac} {c : Ctx} {H H' H'' H1 : Heap} {s s' s1 s2 : Shared} {h h' h'' : PHeap} {A : Around} {env : Env} {m m' : Loc}
theorem gen_isCode (S : StH C H s) {P : Addr} (hP : H P = some (.dict [])) : ∃ ps, s.heap.IsCode C.tab.gen P ps ∧ s.heap.TableAt C.tab.gen P ps := by
  obtain ⟨_, ⟨o, vs, file, tf, flags, tg, inF, text, tt, e1, e2, e3, e4, e5, e6, e7, e8, e9⟩, hne, ps, hp, htr⟩ := S.rep _ _ hP
  have ho := S.base _ _ e1
  exact ⟨ps, ⟨o, vs, file, tf, flags, tg, inF, text, tt, _, ho, e3, e5, e6, e7, e8, e9, hp, rfl, htr, hne⟩, ⟨⟨o, vs, ho, e2, e3, e4⟩, hp⟩⟩
theorem gen_code {P : Addr} {pos : Pos} {qn : Str} {sc : Scope} {Q : Value → Shared → Prop} (S : StH C H s) (hP : H P = some (.dict [])) (hc : env.code = .ref C.tab.gen)
    (k : ∀ code h' tk, (∀ b o, b ≠ P → s.heap.get? b = some o → h'.get? b = some o) → (∃ ps : Array Value, h'.get? P = some { cls := .none, data := .fields ps } ∧ TriplesOk ps.toList) → Q code { s with heap := h', toks := tk }) : wpAny C.M A (genexprCode env pos qn sc) Q NoE s := by
  obtain ⟨ps, ic, ta⟩ := gen_isCode S hP
  cases hnf : codeAmong pos ps.toList with
  | none =>
    refine wpAny_genexprCodeX hc ic ta hnf fun c' h' tk hx _ _ ic' _ ta' _ => k _ h' tk (fun b o n e => hx b o n e) ⟨_, ta'.2, ?_⟩
    obtain ⟨_, _, _, _, _, _, _, _, _, _, _, _, _, _, _, _, _, _, _, htr, _⟩ := ic'
    exact htr
  | some cv =>
    obtain ⟨o, vs, file, tf, flags, tg, inF, text, tt, op, ho, hd, h11, h2, h7, h9, h10, hop, hpd, htr, hne⟩ := ic
    unfold genexprCode codeAt
    rw [hc, if_neg (show ¬ ((Value.ref C.tab.gen == Value.none) = true) from Bool.false_ne_true)]
    refine wpAny_bind (wpAny_fieldsOf ho hd ?_)
    rw [h11]
    refine wpAny_bind (wpAny_fieldsOf hop hpd ?_)
    rw [hnf]
    exact wpAny_pure (k cv s.heap s.toks (fun _ _ _ e => e) ⟨ps, ta.2, htr⟩)
theorem gen_blt (O : C.Ok) {R : Addr → Shared → Prop} {running : Addr} (hk : ∀ b o, C.h₀.get? b = some o → s.heap.get? b = some o) (k : R builtinsNs s) : wpAny C.M A (builtinsFor mainGlobals running) R NoE s := by
  obtain ⟨bm, ob, e1, ne, e2, e3, e4, e5⟩ := O.bm
  have T := O.T.keeps hk
  exact wpAny_builtinsFor T.g (mg_of O.X O.T.g e1) ne (hk _ _ (O.X _ _ e2)) e3 e4 e5 k
theorem gelt_ok (O : C.Ok) {cenv : Env} {x : Str} {p1 p2 p3 p4 p5 : Pos} {E' : Value → Shared → Prop} {mm : Str → Option Value} {i : Int} {t : Tok} (hg : cenv.globals = mainGlobals) (hb : cenv.builtins = builtinsNs) (hk : cenv.scope.kind = .function) (kx : cenv.kindOf x = some .local) (kt : cenv.kindOf "type" = some .globalImplicit) (ki : cenv.kindOf "int" = some .globalImplicit)
    (base : ∀ b o, C.h₀.get? b = some o → s.heap.get? b = some o) (hn : s.heap.Ns cenv.locals mm) (hx : mm x = some (.int i t)) (hd : (x == ("__debug__" : Str)) = false) :
    wpAny C.M A (eval (.Compare (.Call (.Name "type" p1) [.Name x p2] [] p3) [.Is] [.Name "int" p4] p5) cenv) (fun y s' => y = .bool true ∧ Keeps s s') E' s := by
  have T := O.T.keeps base
  refine wpAny_Compare1 ?_ rfl
  refine wpAny_Call_NameR ?_
  refine Name_function_global hk kt (loadGlobal_builtin (env := cenv) (hg ▸ T.g) (mg_none_of O.X O.T.g (O.blts "type" (by decide))) (hb ▸ T.b) ((O.T.builtins "type" (by decide)).trans rfl) ?_) rfl
  refine PySem.callWith_type1 ?_
  show wpAny C.M A (eval (.Name x p2) cenv) _ _ _
  refine wpAny_Name (wpAny_loadName_local hk kx hn hx ?_) hd
  refine call_type_of (Tx := "int") (typeIs_int _ _ _) (by decide +kernel) ?_
  refine Name_function_global hk ki (loadGlobal_builtin (env := cenv) (hg ▸ T.g) (mg_none_of O.X O.T.g (O.blts "int" (by decide))) (hb ▸ T.b) ((O.T.builtins "int" (by decide)).trans rfl) ?_) rfl
  show wpAny C.M A (do return Value.bool (← isSame (Value.type "int") (Value.type "int"))) _ _ _
  refine wpAny_bind (wpAny_isSame_plain rfl (wpAny_pure ⟨?_, s.heap, s.toks, rfl, fun _ _ e => e⟩))
  rw [show (Value.type "int" == Value.type "int") = true from beq_self_eq_true _]
structure GScope (sc : Scope) (x : Str) : Prop where
  kind : sc.kind = .function
  co : sc.isCoroutine = false
  dot : sc.names.lookup (".0" : Str) = some NameKind.local
  own : sc.names.lookup x = some .local
  cell : ∀ y ∈ sc.names, y.2 ≠ .cell
  free : ∀ y ∈ sc.names, y.2 ≠ .free
  ty : sc.names.lookup ("type" : Str) = some .globalImplicit
  it : sc.names.lookup ("int" : Str) = some .globalImplicit
theorem gints_of : ∀ {vs : List Value} {ns : List Int}, All2 RepV vs (ns.map V.int) → ∀ (i : Nat) v, vs[i]? = some v → ∃ j t, v = .int j t
  | _, [], .nil, i, v, e => by cases e
  | _, n :: ns, .cons a r, 0, v, e => by cases e; obtain ⟨t, rfl⟩ := RepV.int a; exact ⟨_, _, rfl⟩
  | _, n :: ns, .cons a r, i + 1, v, e => gints_of r i v e
theorem all_ok {x y : Str} {p p1 p2 p3 p4 p5 px py pg pos : Pos} {sc : Scope} {mi : E} {Q : PV} (O : C.Ok) (ht : c.tab = C.tab) (htop : c.top = c.tab.gtop) (hgl : c.isGlob "all" = true) (G : GScope sc x) (hd : (x == ("__debug__" : Str)) = false) (hi : SndE C Φ c (.Name y py) mi) (a : At C c env A m H s) (hw : wpE Φ (.prim .spare [mi]) m H Q) :
    wpAny C.M A (eval (.Call (.Name "all" p) [.GeneratorExp (.Compare (.Call (.Name "type" p1) [.Name x p2] [] p3) [.Is] [.Name "int" p4] p5) [⟨.Name x px, .Name y py, [], 0⟩] sc pg] [] pos) env) (PE C H s Q) NoE s := by
  have hcode : env.code = .ref C.tab.gen := by rw [← ht]; exact a.eo.code htop
  simp only [w_prim] at hw
  refine wpAny_Call_NameR (blt_ok O a hgl rfl (O.blts "all" (by decide)) rfl (by decide) ?_)
  refine PySem.callWith_builtin1 ?_
  show wpAny C.M A (eval (.GeneratorExp _ _ _ _) env) _ _ _
  refine wpAny_GeneratorExp_walksQ a.ao.hd G.co (closureFor_none G.free) G.cell G.dot G.own G.kind (by have := a.ao.dp; have : recursionLimit = 1000 := rfl; (first | lia | omega)) ?_ fun _ => rfl
  refine hi.then a hw fun v s1 z H1 r1 a1 x1 q1 => ?_
  replace q1 : allIntW [z] H1 Q := q1
  unfold allIntW at q1
  split at q1
  case h_2 => exact q1.elim
  rename_i pl hz
  cases hz
  cases r1.ref
  refine absG fun Cg hCg => ?_
  obtain ⟨⟨ns, hp, hlen⟩, ⟨P, hP⟩, q⟩ := q1
  obtain ⟨vs, n, l, rr, hvz⟩ := a1.S.rep _ _ hp
  refine hCg ?_; clear hCg
  have hl : s1.heap.IsList pl vs.toArray := ⟨_, l, rfl, n, rfl⟩
  have hplt : pl < s1.heap.objs.size := Heap.lt_size l
  have hP0 : C.h₀.get? P = none := a1.S.own _ (.inr (.inl ⟨_, hP⟩))
  have hPlt : P < s1.heap.objs.size := by obtain ⟨ob, e⟩ := (a1.S.rep _ _ hP).look; exact Heap.lt_size e
  have hnP : pl ≠ P := fun e => by rw [e, hP] at hp; cases hp
  refine wpAny_pyIter_list hl ?_
  have T := O.T.keeps a1.S.base
  refine ⟨T.nolimit.push _, ?_⟩
  obtain ⟨S2, _⟩ := a1.S.push { cls := .type "list_iterator", data := .fields #[.ref pl, .int 0 0] } s1.toks
  refine gen_code S2 hP hcode fun code h3 tk hk3 ht3 => ?_
  have hk1 : ∀ b o, b ≠ P → s1.heap.get? b = some o → h3.get? b = some o := fun b o n e => hk3 b o n (push_keeps _ _ _ _ e)
  have hb3 : ∀ b o, C.h₀.get? b = some o → h3.get? b = some o := fun b o e => hk1 b o (fun q => by rw [q, hP0] at e; cases e) (a1.S.base _ _ e)
  have hit : h3.get? s1.heap.objs.size = some { cls := .type "list_iterator", data := .fields #[.ref pl, .int 0 0] } := hk3 _ _ (Nat.ne_of_gt hPlt) (Heap.get?_push_size _ rfl)
  have hitlt := Heap.lt_size hit
  have T3 := O.T.keeps hb3
  have hcs : cStatics < s1.heap.objs.size := let ⟨_, hn, _⟩ := T.nolimit; hn.lt
  rw [a.eo.glob]
  refine gen_blt O hb3 ?_
  refine ⟨s1.heap.objs.size, [s1.heap.objs.size, pl], [s1.heap.objs.size], vs.toArray.size, fun i v => vs.toArray[i]? = some v, fun i h => h.IsListIter s1.heap.objs.size pl i ∧ h.IsList pl vs.toArray, fun _ => true, fun _ y => y = .bool true, rfl,
    fun A' hA => Walks.list hA _ _ (Nat.ne_of_lt hplt) vs.toArray, ⟨⟨_, hit, rfl, rfl⟩, ⟨_, hk1 _ _ hnP l, rfl, n, rfl⟩⟩, ?_, T3.nolimit, ?_, fun href hre => ?_, fun g h5 tk5 gs hb hlt hsz hk5 W hat => ?_⟩
  · intro b hb
    rcases List.mem_cons.mp hb with rfl | hb
    · exact hitlt
    · rcases List.mem_cons.mp hb with rfl | hb
      · exact Nat.lt_trans hplt hitlt
      · cases hb
  · intro hm
    rcases List.mem_cons.mp hm with e | hm
    · exact absurd (e ▸ hcs) (Nat.lt_irrefl _)
    · cases hm
  · refine ⟨fun A' E' i v s₂ m₂ hA hv hn hx hke => wpAny_pure ⟨rfl, s₂.heap, s₂.toks, rfl, fun _ _ e => e⟩, fun A' E' i v s₂ m₂ hA hv _ hn hx hke => ?_⟩
    have hv' : vs[i]? = some v := by simpa using hv
    obtain ⟨j, t, rfl⟩ := gints_of rr i v hv'
    refine gelt_ok O (cenv := genEnv sc [] h3.objs.size code builtinsNs env) a.eo.glob rfl G.kind G.own G.ty G.it (fun b o e => ?_) hn hx hd
    have e3 := hb3 _ _ e
    refine hke b (List.mem_range.mpr (Heap.lt_size e3)) (fun hm => ?_) o (hre _ _ e3)
    rcases List.mem_cons.mp hm with q | hm
    · rw [q, a1.S.base_none (look_size s1.heap)] at e; cases e
    · cases hm
  · refine call_all_walkS ?_
    refine W.in4_1.self 0 _ _ _ hat ?_
    refine ⟨g, _, _, _, _, _, _, fun _ => true, rfl, W.in4_1, hat, fun i v s Q E hv hq => ?_, fun s' hm => ?_⟩
    · obtain ⟨_, _, rfl⟩ := hv
      exact wpAny_truthy_bool hq
    · have hall : ∀ n : Nat, (List.range n).all (fun _ => true) = true := fun n => by simp
      rw [hall]
      have hk : ∀ b o, b ≠ P → s1.heap.get? b = some o → s'.heap.get? b = some o := fun b o n e => by
        have hbl := Heap.lt_size e
        refine hm.heap b o (fun hw => ?_) (hk5 _ _ (hk1 _ _ n e))
        rcases List.mem_cons.mp hw with q | hw
        · exact absurd (Nat.lt_trans hbl hitlt) (by rw [q]; exact Nat.lt_irrefl _)
        · rcases List.mem_cons.mp hw with q | hw
          · exact absurd hbl (by rw [q]; exact Nat.lt_irrefl _)
          · cases hw
      have htb : ∃ ps : Array Value, s'.heap.get? P = some { cls := .none, data := .fields ps } ∧ TriplesOk ps.toList := by
        obtain ⟨ps, e, ho⟩ := ht3
        refine ⟨ps, hm.heap P _ (fun hw => ?_) (hk5 _ _ e), ho⟩
        rcases List.mem_cons.mp hw with q | hw
        · exact absurd (Nat.lt_trans hPlt hitlt) (by rw [q]; exact Nat.lt_irrefl _)
        · rcases List.mem_cons.mp hw with q | hw
          · exact absurd hPlt (by rw [q]; exact Nat.lt_irrefl _)
          · cases hw
      obtain ⟨S', E'⟩ := a1.S.table (s' := s') hP hk htb (AllBare.moved (a1.S.gens.push hb) hm.gens) hm.os
      exact ⟨.bool true, H1, rfl, S', x1.trans E', q⟩
theorem len_E {e : Expr} {me : E} {p pos : Pos} (O : C.Ok) (hg : c.isGlob "len" = true) (he : SndE C Φ c e me) (hs : isStar e = false) : SndE C Φ c (.Call (.Name "len" p) [e] [] pos) (.prim .len [me]) := fun {env A m H s Q} a hw => by
  simp only [w_prim] at hw
  exact callB_ok (N := "len") O (by decide) rfl hg (by simp [hs]) (items_cons hs he items_nil) a hw fun vs s1 xs H1 r a1 x1 q1 => wpAny_ext (len_call a1.ao.hd a1.S r q1) fun _ _ z => PE.ext x1 z
theorem gsame_ok {cenv : Env} {j g w : Str} {p1 p2 p3 p4 p5 p6 p7 : Pos} {E' : Value → Shared → Prop} {mm : Str → Option Value} {k : Nat} {t : Tok} {cg cw pg pw : Addr} {xs ys : Array Value} {r : Addr} (hk : cenv.scope.kind = .function) (kj : cenv.kindOf j = some .local) (kg : cenv.kindOf g = some .free) (kw : cenv.kindOf w = some .free)
    (lg : cenv.cells.lookup g = some cg) (lw : cenv.cells.lookup w = some cw) (hg : s.heap.IsCell cg (some (.ref pg))) (hw : s.heap.IsCell cw (some (.ref pw))) (hlg : s.heap.IsList pg xs) (hlw : s.heap.IsList pw ys) (xg : xs[k]? = some (.ref r)) (xw : ys[k]? = some (.ref r)) (hfit : (k : Int) < 2 ^ 63)
    (hn : s.heap.Ns cenv.locals mm) (hx : mm j = some (.int k t)) (d1 : (j == ("__debug__" : Str)) = false) (d2 : (g == ("__debug__" : Str)) = false) (d3 : (w == ("__debug__" : Str)) = false) (d4 : (g == ("__classdict__" : Str)) = false) (d5 : (w == ("__classdict__" : Str)) = false) :
    wpAny C.M A (eval (.Compare (.Subscript (.Name g p1) (.Name j p2) p3) [.Is] [.Subscript (.Name w p4) (.Name j p5) p6] p7) cenv) (fun y s' => y = .bool true ∧ Keeps s s') E' s := by
  refine wpAny_Compare1 ?_ rfl
  refine Subscript_ (wpAny_Name (wpAny_loadName_free hk kg lg hg ?_ d4) d2)
  refine wpAny_Name (wpAny_loadName_local hk kj hn hx ?_) d1
  refine tail_any hlg.typeIs slot_list_getitem.lookup (wpAny_getItem_list hlg (Int.natCast_nonneg _) hfit (by rw [Int.toNat_natCast]; exact xg) ?_) rfl
  refine Subscript_ (wpAny_Name (wpAny_loadName_free hk kw lw hw ?_ d5) d3)
  refine wpAny_Name (wpAny_loadName_local hk kj hn hx ?_) d1
  refine tail_any hlw.typeIs slot_list_getitem.lookup (wpAny_getItem_list hlw (Int.natCast_nonneg _) hfit (by rw [Int.toNat_natCast]; exact xw) ?_) rfl
  show wpAny C.M A (do return Value.bool (← isSame (.ref r) (.ref r))) _ _ _
  exact wpAny_bind (wpAny_isSame_ref_self (wpAny_pure ⟨rfl, s.heap, s.toks, rfl, fun _ _ e => e⟩))
theorem walks_bound {prog : Program} {w : World} {A : Around} {I : Addr} {fp wr : List Addr} {n : Nat} {P : Nat → Value → Prop} {St : Nat → PHeap → Prop} (W : Walks prog w A I fp wr n P St) : Walks prog w A I fp wr n (fun i v => i < n ∧ P i v) St where
  sub := W.sub
  frame := W.frame
  item := fun i s Q E hi st hQ => W.item i s Q E hi st fun v h' tk hP => hQ v h' tk ⟨hi, hP⟩
  done := W.done
  self := W.self
structure SScope (c : Ctx) (sc : Scope) (j g w : Str) : Prop where
  kind : sc.kind = .function
  co : sc.isCoroutine = false
  dot : sc.names.lookup (".0" : Str) = some NameKind.local
  own : sc.names.lookup j = some .local
  cell : ∀ y ∈ sc.names, y.2 ≠ .cell
  free : ∀ y, (y, NameKind.free) ∈ sc.names → c.kinds.lookup y = some .cell ∧ ∃ i, c.ν.lookup y = some i
  kg : sc.names.lookup g = some .free
  kw : sc.names.lookup w = some .free
  rng : c.isGlob "range" = true
  len : c.isGlob "len" = true
  d1 : (j == ("__debug__" : Str)) = false
  d2 : (g == ("__debug__" : Str)) = false
  d3 : (w == ("__debug__" : Str)) = false
  d4 : (g == ("__classdict__" : Str)) = false
  d5 : (w == ("__classdict__" : Str)) = false
theorem refs_of : ∀ {vs : List Value} {rs : List Nat}, All2 RepV vs (rs.map V.ref) → vs = rs.map Value.ref
  | _, [], .nil => rfl
  | _, r :: rs, .cons a t => by cases RepV.ref a; rw [refs_of t]; rfl
theorem var_get {i : Nat} {Q : V → Prop} (h : varW m[i]? Q) : ∃ v, m[i]? = some (some v) ∧ Q v := by
  unfold varW at h
  split at h
  · rename_i v e; exact ⟨v, e, h⟩
  · exact h.elim
theorem same_ok {j g w : Str} {ig iw : Nat} {p p1 p2 p3 p4 p5 p6 p7 p8 p9 pa pb pc pd pe pos : Pos} {sc : Scope} {Q : PV} (O : C.Ok) (ht : c.tab = C.tab) (htop : c.top = c.tab.gtop) (hgl : c.isGlob "all" = true) (G : SScope c sc j g w) (hig : c.ν.lookup g = some ig) (hiw : c.ν.lookup w = some iw)
    (a : At C c env A m H s) (hw : wpE Φ (.prim .same [.var ig, .var iw]) m H Q) :
    wpAny C.M A (eval (.Call (.Name "all" p) [.GeneratorExp (.Compare (.Subscript (.Name g p1) (.Name j p2) p3) [.Is] [.Subscript (.Name w p4) (.Name j p5) p6] p7) [⟨.Name j p8, .Call (.Name "range" p9) [.Call (.Name "len" pa) [.Name w pb] [] pc] [] pd, [], 0⟩] sc pe] [] pos) env) (PE C H s Q) NoE s := by
  have hlim : lim = 1000000 := rfl
  have hcode : env.code = .ref C.tab.gen := by rw [← ht]; exact a.eo.code htop
  simp only [w_prim, w_econs, w_enil, w_var] at hw
  obtain ⟨xg, eg, hw1⟩ := var_get hw
  obtain ⟨xw, ew, hw2⟩ := var_get hw1
  clear hw hw1
  have kgc := (G.free g (lookup_mem G.kg)).1
  have kwc := (G.free w (lookup_mem G.kw)).1
  replace hw2 : allSameW [xg, xw] H Q := hw2
  unfold allSameW at hw2
  split at hw2
  case h_2 => exact hw2.elim
  rename_i p0 q0 hz
  cases hz
  obtain ⟨⟨rs, hp, hq, hlen⟩, ⟨P, hP⟩, q⟩ := hw2
  have hfree : ∀ y, (y, NameKind.free) ∈ sc.names → ∃ b, env.cells.lookup y = some b := fun y hy => by
    obtain ⟨hk, i, hi⟩ := G.free y hy
    obtain ⟨b, ov, e, _⟩ := a.N.cells y i hi (.inl hk)
    exact ⟨b, e⟩
  refine wpAny_Call_NameR (blt_ok O a hgl rfl (O.blts "all" (by decide)) rfl (by decide) ?_)
  refine PySem.callWith_builtin1 ?_
  show wpAny C.M A (eval (.GeneratorExp _ _ _ _) env) _ _ _
  refine wpAny_GeneratorExp_walksQ a.ao.hd G.co (closOf_ok hfree) G.cell G.dot G.own G.kind (by have := a.ao.dp; have : recursionLimit = 1000 := rfl; (first | lia | omega)) ?_ fun _ => rfl
  have hlw : wpEs Φ [.prim .len [.var iw]] m H (on1 fun x H' => rng1W x fun xs => x = .int rs.length ∧ H' = H) := by
    simp only [w_econs, w_enil, w_prim, w_var]
    rw [ew]
    have e : ∀ Q : PV, primW .len [.ref q0] H Q = lenW [.ref q0] H Q := fun _ => rfl
    unfold varW
    dsimp only
    rw [e]
    unfold lenW
    dsimp only
    rw [hq]
    refine ⟨rs.map V.ref, rfl, ?_⟩
    rw [List.length_map]
    exact ⟨⟨by (first | lia | omega), by (first | lia | omega)⟩, rfl, rfl⟩
  refine callT_ok O (by decide) rfl G.rng rfl (items_cons rfl (len_E O G.len (fun {env A m H s Q} a hw => name_ok G.d3 G.d5 kwc rfl hiw a hw) rfl) items_nil) a hlw fun vs s1 xs H1 r a1 x1 q1 => ?_
  have gg := q1.get r
  clear q1 r
  obtain ⟨v, x, rfl, rfl, r1, q1⟩ := gg
  unfold rng1W at q1
  split at q1
  case h_2 => exact q1.elim
  rename_i n
  obtain ⟨hm, e1, e2⟩ := q1
  cases e1
  subst e2
  obtain ⟨t, rfl⟩ := r1.int
  refine call_range_1 ?_
  obtain ⟨S2, x2⟩ := a1.S.push { cls := .type "range", data := .fields #[.int 0 s1.toks, .int rs.length t, .int 1 (s1.toks + 1)] } (s1.toks + 1 + 1)
  refine wpAny_pyIter_range (IsRange.new _ _ _ _ _ _ _) (small_one (by decide) (by decide) hm.1 hm.2) ?_
  have hsz : Builtin.Range.rangeSize 0 (rs.length : Int) 1 = rs.length := by rw [rangeSize_one]; split <;> (first | lia | omega)
  rw [hsz]
  have T := O.T.keeps a1.S.base
  refine ⟨(T.nolimit.push _).push _, ?_⟩
  obtain ⟨S3, x3⟩ := S2.push { cls := .type "range_iterator", data := .fields #[rawInt 0, rawInt (rs.length : Int), rawInt 1] } (s1.toks + 1 + 1)
  have hI : ((s1.heap.push { cls := .type "range", data := .fields #[.int 0 s1.toks, .int rs.length t, .int 1 (s1.toks + 1)] }).objs.size) = s1.heap.objs.size + 1 := Heap.size_push _ _
  generalize hh2 : (s1.heap.push { cls := .type "range", data := .fields #[.int 0 s1.toks, .int rs.length t, .int 1 (s1.toks + 1)] }).push { cls := .type "range_iterator", data := .fields #[rawInt 0, rawInt (rs.length : Int), rawInt 1] } = h2 at S3 ⊢
  have old2 : ∀ b o, s1.heap.get? b = some o → h2.get? b = some o := fun b o e => by rw [← hh2]; exact Heap.get?_push_of_some _ (Heap.get?_push_of_some _ e)
  have itr2 : IsRangeIter h2 (s1.heap.objs.size + 1) 0 rs.length 1 := by rw [← hh2, ← hI]; exact Heap.get?_push_size _ rfl
  rw [hI]
  clear hh2
  refine gen_code S3 hP hcode fun code h3 tk hk3 ht3 => ?_
  have hP0 : C.h₀.get? P = none := a1.S.own _ (.inr (.inl ⟨_, hP⟩))
  obtain ⟨obP, lkP⟩ : ∃ ob, s1.heap.get? P = some ob := (a1.S.rep _ _ hP).look
  have hPlt : P < s1.heap.objs.size := Heap.lt_size lkP
  have hk1 : ∀ b o, b ≠ P → s1.heap.get? b = some o → h3.get? b = some o := fun b o n e => hk3 b o n (old2 _ _ e)
  have hb3 : ∀ b o, C.h₀.get? b = some o → h3.get? b = some o := fun b o e => hk1 b o (fun q => by rw [q, hP0] at e; cases e) (a1.S.base _ _ e)
  have hit : IsRangeIter h3 (s1.heap.objs.size + 1) 0 rs.length 1 := hk3 _ _ (Nat.ne_of_gt (Nat.lt_succ_of_lt hPlt)) itr2
  have hitlt := Heap.lt_size hit
  have T3 := O.T.keeps hb3
  have hcs : cStatics < s1.heap.objs.size := let ⟨_, hn, _⟩ := T.nolimit; hn.lt
  obtain ⟨_, _, _, psP, lkP', _⟩ := a1.S.rep _ _ hP
  obtain ⟨cg, og, lg, cgv, rg⟩ := a1.N.cells g ig hig (.inl kgc)
  obtain ⟨cw, ow, lw, cwv, rw'⟩ := a1.N.cells w iw hiw (.inl kwc)
  have eg' : og = some (.ref p0) := by
    rw [eg] at rg
    cases og with
    | none => exact rg.elim
    | some pv => rw [RepV.ref (v := pv) rg]
  have ew' : ow = some (.ref q0) := by
    rw [ew] at rw'
    cases ow with
    | none => exact rw'.elim
    | some pv => rw [RepV.ref (v := pv) rw']
  subst eg'
  subst ew'
  obtain ⟨vg, ng, lig, rrg, _⟩ := a1.S.rep _ _ hp
  obtain ⟨vw, nw, liw, rrw, _⟩ := a1.S.rep _ _ hq
  cases refs_of rrg
  cases refs_of rrw
  have cellNe : ∀ {ca : Addr} {ov : Option Value}, s1.heap.IsCell ca ov → ca ≠ P := fun {ca ov} ⟨o, ho, hd⟩ q => by rw [q, lkP'] at ho; cases ho; cases hd
  have cell3 : ∀ {ca : Addr} {ov : Option Value}, s1.heap.IsCell ca ov → h3.IsCell ca ov ∧ ca < s1.heap.objs.size := fun {ca ov} z => by
    have n := cellNe z
    obtain ⟨o, ho, hd⟩ := z
    exact ⟨⟨o, hk1 _ _ n ho, hd⟩, Heap.lt_size ho⟩
  have ng' : p0 ≠ P := fun q => by rw [q, hP] at hp; cases hp
  have nw' : q0 ≠ P := fun q => by rw [q, hP] at hq; cases hq
  have cg3 := cell3 cgv
  have cw3 := cell3 cwv
  have lg3 := hk1 _ _ ng' lig
  have lw3 := hk1 _ _ nw' liw
  have zg := Heap.lt_size lig
  have zw := Heap.lt_size liw
  rw [a.eo.glob]
  refine gen_blt O hb3 ?_
  refine ⟨s1.heap.objs.size + 1, [s1.heap.objs.size + 1], [s1.heap.objs.size + 1], rs.length, fun i v => i < rs.length ∧ ∃ t, v = .int (0 + i * 1) t, fun i h => IsRangeIter h (s1.heap.objs.size + 1) (0 + (i : Nat) * 1) ((rs.length : Int) - (i : Nat)) 1, fun _ => true, fun _ y => y = .bool true, rfl,
    fun A' hA => walks_bound (Walks.range hA _ 0 1 rs.length), ?_, ?_, T3.nolimit, ?_, fun href hre => ?_, fun gn h5 tk5 gs hb hlt hsz5 hk5 W hat => ?_⟩
  · have e0 : (0 : Int) + ((0 : Nat) : Int) * 1 = 0 := by simp
    have e9 : (rs.length : Int) - ((0 : Nat) : Int) = rs.length := by simp
    show IsRangeIter h3 _ _ _ _
    rw [e0, e9]; exact hit
  · intro b hb
    rcases List.mem_cons.mp hb with rfl | hb
    · exact hitlt
    · cases hb
  · intro hm
    rcases List.mem_cons.mp hm with e | hm
    · exact absurd (e ▸ Nat.lt_succ_of_lt hcs) (Nat.lt_irrefl _)
    · cases hm
  · refine ⟨fun A' E' i v s₂ m₂ hA hv hn hx hke => wpAny_pure ⟨rfl, s₂.heap, s₂.toks, rfl, fun _ _ e => e⟩, fun A' E' i v s₂ m₂ hA hv _ hn hx hke => ?_⟩
    obtain ⟨hil, t', rfl⟩ := hv
    have ei : (0 : Int) + (i : Int) * 1 = i := by simp
    rw [ei] at hx
    have kp : ∀ b o, b < s1.heap.objs.size → h3.get? b = some o → s₂.heap.get? b = some o := fun b o hb e => hke b (List.mem_range.mpr (Heap.lt_size e)) (fun hm => by
      rcases List.mem_cons.mp hm with q | hm
      · exact absurd (Nat.lt_succ_of_lt hb) (by rw [q]; exact Nat.lt_irrefl _)
      · cases hm) o (hre _ _ e)
    have kc : ∀ {ca : Addr} {ov : Option Value}, h3.IsCell ca ov ∧ ca < s1.heap.objs.size → s₂.heap.IsCell ca ov := fun {ca ov} z => let ⟨⟨o, ho, hd⟩, hl⟩ := z; ⟨o, kp _ _ hl ho, hd⟩
    have er : (rs.map Value.ref).toArray[i]? = some (.ref (rs[i]'hil)) := by simp [hil]
    exact gsame_ok (cenv := genEnv sc (closOf env sc.names []) h3.objs.size code builtinsNs env) G.kind G.own G.kg G.kw (clos_lookup' hfree (lookup_mem G.kg) lg) (clos_lookup' hfree (lookup_mem G.kw) lw) (kc cg3) (kc cw3) ⟨_, kp _ _ zg lg3, rfl, ng, rfl⟩ ⟨_, kp _ _ zw lw3, rfl, nw, rfl⟩ er er (by (first | lia | omega)) hn hx G.d1 G.d2 G.d3 G.d4 G.d5
  · refine call_all_walkS ?_
    refine W.in4_1.self 0 _ _ _ hat ?_
    refine ⟨gn, _, _, _, _, _, _, fun _ => true, rfl, W.in4_1, hat, fun i v s Q E hv hq => ?_, fun s' hm => ?_⟩
    · obtain ⟨_, _, rfl⟩ := hv
      exact wpAny_truthy_bool hq
    · have hall : ∀ n : Nat, (List.range n).all (fun _ => true) = true := fun n => by simp
      rw [hall]
      have far : ∀ b, b < s1.heap.objs.size → b ∉ h3.objs.size :: [s1.heap.objs.size + 1] := fun b hb hw => by
        rcases List.mem_cons.mp hw with q | hw
        · exact absurd (Nat.lt_trans (Nat.lt_succ_of_lt hb) hitlt) (by rw [q]; exact Nat.lt_irrefl _)
        · rcases List.mem_cons.mp hw with q | hw
          · exact absurd (Nat.lt_succ_of_lt hb) (by rw [q]; exact Nat.lt_irrefl _)
          · cases hw
      have hk : ∀ b o, b ≠ P → s1.heap.get? b = some o → s'.heap.get? b = some o := fun b o n e => hm.heap b o (far b (Heap.lt_size e)) (hk5 _ _ (hk1 _ _ n e))
      have htb : ∃ ps : Array Value, s'.heap.get? P = some { cls := .none, data := .fields ps } ∧ TriplesOk ps.toList := by
        obtain ⟨ps, e, ho⟩ := ht3
        exact ⟨ps, hm.heap P _ (far P hPlt) (hk5 _ _ e), ho⟩
      obtain ⟨S', E'⟩ := a1.S.table (s' := s') hP hk htb (AllBare.moved (a1.S.gens.push hb) hm.gens) hm.os
      exact ⟨.bool true, _, rfl, S', x1.trans E', q⟩
theorem genOf_ok {e : Expr} {x : GenX} (h : genOf e = some x) : e = .GeneratorExp x.elt x.gs x.sc x.pos := by
  unfold genOf at h
  by_cases q : e.ctorIdx = 11
  · revert h
    refine Expr.GeneratorExp.elim e q fun f a k p h => ?_
    cases h
    rfl
  · rw [dif_neg q] at h; cases h
theorem cmpOf_ok {e : Expr} {x : CmpX} (h : cmpOf e = some x) : ∃ p, e = .Compare x.l x.ops x.rs p := by
  unfold cmpOf at h
  by_cases q : e.ctorIdx = 15
  · revert h
    refine Expr.Compare.elim e q fun f a k p h => ?_
    cases h
    exact ⟨p, rfl⟩
  · rw [dif_neg q] at h; cases h
theorem nameIs_ok {e : Expr} {y : Str} (h : nameIs e y = true) : ∃ p, e = .Name y p := nameOf_ok (eq_of_beq h)
theorem typeCallX_ok {e : Expr} {x : Str} (h : typeCallX x e = true) : ∃ p1 p2 p3, e = .Call (.Name "type" p1) [.Name x p2] [] p3 := by
  unfold typeCallX at h
  split at h
  · rename_i y hy
    have e1 := callOf_ok hy
    obtain ⟨f, as, kws, p3⟩ := y
    simp only [Bool.and_eq_true] at h
    obtain ⟨⟨h1, h2⟩, h3⟩ := h
    cases isNil_ok h1
    obtain ⟨p1, e2⟩ := nameIs_ok h2
    match as, h3 with
    | [a], h3 =>
      obtain ⟨p2, e3⟩ := nameIs_ok (e := a) h3
      refine ⟨p1, p2, p3, ?_⟩
      rw [e1]
      dsimp only at e2 ⊢
      rw [e2, e3]
    | [], h3 => cases h3
    | _ :: _ :: _, h3 => cases h3
  · cases h
theorem eltOk_ok {e : Expr} {x : Str} (h : eltOk x e = true) : ∃ p1 p2 p3 p4 p5, e = .Compare (.Call (.Name "type" p1) [.Name x p2] [] p3) [.Is] [.Name "int" p4] p5 := by
  unfold eltOk at h
  split at h
  · rename_i y hy
    obtain ⟨p5, e1⟩ := cmpOf_ok hy
    obtain ⟨l, ops, rs⟩ := y
    simp only [Bool.and_eq_true] at h
    obtain ⟨⟨h1, h2⟩, h3⟩ := h
    obtain ⟨p1, p2, p3, e2⟩ := typeCallX_ok h1
    match ops, h2, rs, h3 with
    | [.Is], _, [r], h3 =>
      obtain ⟨p4, e3⟩ := nameIs_ok (e := r) h3
      refine ⟨p1, p2, p3, p4, p5, ?_⟩
      rw [e1]
      dsimp only at e2 ⊢
      rw [e2, e3]
    | [.Is], _, [], h3 => cases h3
    | [.Is], _, _ :: _ :: _, h3 => cases h3
  · cases h
theorem genScope_ok {sc : Scope} {x : Str} (h : genScope sc x = true) : GScope sc x := by
  unfold genScope at h
  simp only [Bool.and_eq_true, Bool.not_eq_true', Bool.not_eq_eq_eq_not, Bool.not_true, List.all_eq_true] at h
  obtain ⟨⟨⟨⟨⟨⟨h1, h2⟩, h3⟩, h4⟩, h5⟩, h6⟩, h7⟩ := h
  exact ⟨by simpa using h1, h2, eq_of_beq h3, eq_of_beq h4, fun y hy q => (by have := (h5 y hy).1; rw [q] at this; cases this), fun y hy q => (by have := (h5 y hy).2; rw [q] at this; cases this), eq_of_beq h6, eq_of_beq h7⟩
theorem subName_ok {j g : Str} {e : Expr} (h : subName j e = some g) : ∃ p1 p2 p3, e = .Subscript (.Name g p1) (.Name j p2) p3 := by
  unfold subName at h
  split at h
  · rename_i x hx
    obtain ⟨p3, e1⟩ := subOf_ok hx
    split at h
    · rename_i hj
      obtain ⟨p2, e2⟩ := nameIs_ok hj
      obtain ⟨p1, e3⟩ := nameOf_ok h
      exact ⟨p1, p2, p3, by rw [e1, e2, e3]⟩
    · cases h
  · cases h
theorem sameElt_ok {j : Str} {e : Expr} {x : SameX} (h : sameElt j e = some x) : ∃ p1 p2 p3 p4 p5 p6 p7, e = .Compare (.Subscript (.Name x.g p1) (.Name j p2) p3) [.Is] [.Subscript (.Name x.w p4) (.Name j p5) p6] p7 := by
  unfold sameElt at h
  split at h
  · rename_i y hy
    obtain ⟨p7, e1⟩ := cmpOf_ok hy
    obtain ⟨l, ops, rs⟩ := y
    split at h
    · rename_i hi
      split at h
      · rename_i g hg
        obtain ⟨p1, p2, p3, e2⟩ := subName_ok hg
        match ops, hi, rs, h with
        | [.Is], _, [r], h =>
          obtain ⟨w, hw, rfl⟩ := Option.map_eq_some_iff.mp (show (subName j r).map (fun w => (⟨g, w⟩ : SameX)) = some x from h)
          obtain ⟨p4, p5, p6, e3⟩ := subName_ok hw
          refine ⟨p1, p2, p3, p4, p5, p6, p7, ?_⟩
          rw [e1]
          dsimp only at e2 ⊢
          rw [e2, e3]
        | [.Is], _, [], h => cases h
        | [.Is], _, _ :: _ :: _, h => cases h
      · cases h
    · cases h
  · cases h
theorem rangeLen_ok {w : Str} {e : Expr} (h : rangeLen w e = true) : ∃ p9 pa pb pc pd, e = .Call (.Name "range" p9) [.Call (.Name "len" pa) [.Name w pb] [] pc] [] pd := by
  unfold rangeLen at h
  split at h
  · rename_i y hy
    have e1 := callOf_ok hy
    obtain ⟨f, as, kws, pd⟩ := y
    simp only [Bool.and_eq_true] at h
    obtain ⟨⟨h1, h2⟩, h3⟩ := h
    cases isNil_ok h1
    obtain ⟨p9, e2⟩ := nameIs_ok h2
    match as, h3 with
    | [a], h3 =>
      replace h3 : (match callOf a with | some y => isNil y.kws && nameIs y.f "len" && typeArg1 w y.args | none => false) = true := h3
      split at h3
      · rename_i z hz
        have e4 := callOf_ok hz
        obtain ⟨f', as', kws', pc⟩ := z
        simp only [Bool.and_eq_true] at h3
        obtain ⟨⟨k1, k2⟩, k3⟩ := h3
        cases isNil_ok k1
        obtain ⟨pa, e5⟩ := nameIs_ok k2
        match as', k3 with
        | [b], k3 =>
          obtain ⟨pb, e6⟩ := nameIs_ok (e := b) k3
          refine ⟨p9, pa, pb, pc, pd, ?_⟩
          rw [e1]
          dsimp only at e2 e4 e5 ⊢
          rw [e2, e4, e5, e6]
        | [], k3 => cases k3
        | _ :: _ :: _, k3 => cases k3
      · cases h3
    | [], h3 => cases h3
    | _ :: _ :: _, h3 => cases h3
  · cases h
theorem sameScope_ok {sc : Scope} {j : Str} {x : SameX} (h : sameScope c sc j x = true) : SScope c sc j x.g x.w := by
  unfold sameScope at h
  simp only [Bool.and_eq_true, Bool.not_eq_true', Bool.not_eq_eq_eq_not, Bool.not_true, List.all_eq_true] at h
  obtain ⟨⟨⟨⟨⟨⟨⟨⟨⟨⟨⟨⟨⟨h1, h2⟩, h3⟩, h4⟩, h5⟩, h6⟩, h7⟩, h8⟩, h9⟩, ha⟩, hb⟩, hc⟩, hd⟩, he⟩ := h
  exact ⟨by simpa using h1, h2, eq_of_beq h3, eq_of_beq h4, fun y hy q => (by have := (h5 y hy).1; rw [q] at this; cases this), fun y hy => (by
    have := (h5 _ hy).2
    rcases Bool.or_eq_true_iff.mp this with z | z
    · cases z
    · obtain ⟨z1, z2⟩ := Bool.and_eq_true_iff.mp z
      exact ⟨eq_of_beq z1, Option.isSome_iff_exists.mp z2⟩), eq_of_beq h6, eq_of_beq h7, h8, h9, ha, hb, hc, hd, he⟩
theorem same_call {g : GenX} {q : Comprehension} {j : Str} {p pos px : Pos} {me : E} (O : C.Ok) (ht : c.tab = C.tab) (hg : c.isGlob "all" = true) (hq : q.target = .Name j px) (h : trSame c g q j = some me) :
    SndE C (phi C) c (.Call (.Name "all" p) [.GeneratorExp g.elt [q] g.sc g.pos] [] pos) me ∧ ∃ q l, me = .prim q l := by
  unfold trSame at h
  split at h
  case h_2 => cases h
  rename_i x hx
  split at h
  case isFalse => cases h
  rename_i hb
  simp only [Bool.and_eq_true] at hb
  obtain ⟨⟨⟨⟨b1, b2⟩, b3⟩, b4⟩, b5⟩ := hb
  split at h
  case h_2 => cases h
  rename_i ia ib ea eb
  cases h
  obtain ⟨t, iter, ifs, n⟩ := q
  obtain ⟨elt, gs, sc, pg⟩ := g
  dsimp only at *
  subst hq
  cases isNil_ok b3
  cases eq_of_beq b4
  obtain ⟨p1, p2, p3, p4, p5, p6, p7, rfl⟩ := sameElt_ok hx
  obtain ⟨p9, pa, pb, pc, pd, rfl⟩ := rangeLen_ok b5
  have G := sameScope_ok b2
  exact ⟨fun {env A m H s Q} a hw => same_ok O ht (eq_of_beq b1) hg G ea eb a hw, _, _, rfl⟩
end ML
namespace ML
open PySem PySem.W PySem.Calls PyProof.Rows PySem.SeqAt
variable {C : Cfg} {Φ : Orac} {c : Ctx} {H H' H'' H1 : Heap} {s s' s1 s2 : Shared} {h h' h'' : PHeap} {A : Around} {env : Env} {m m' : Loc}
structure ZScope (sc : Scope) (x y : Str) : Prop where
  kind : sc.kind = .function
  co : sc.isCoroutine = false
  dot : sc.names.lookup (".0" : Str) = some NameKind.local
  ox : sc.names.lookup x = some .local
  oy : sc.names.lookup y = some .local
  cell : ∀ y ∈ sc.names, y.2 ≠ .cell
  free : ∀ y ∈ sc.names, y.2 ≠ .free
  xy : x ≠ y
  d1 : (x == ("__debug__" : Str)) = false
  d2 : (y == ("__debug__" : Str)) = false
theorem zipScope_ok {sc : Scope} {x y : Str} (h : zipScope sc x y = true) : ZScope sc x y := by
  unfold zipScope at h
  simp only [Bool.and_eq_true, Bool.not_eq_true', Bool.not_eq_eq_eq_not, Bool.not_true, List.all_eq_true] at h
  obtain ⟨⟨⟨⟨⟨⟨⟨⟨⟨⟨h1, h2⟩, h3⟩, h4⟩, h5⟩, h6⟩, h7⟩, h8⟩, h9⟩, ha⟩, hb⟩ := h
  exact ⟨by simpa using h1, h2, eq_of_beq h3, eq_of_beq h4, eq_of_beq h5, fun y hy q => (by have := (h6 y hy).1; rw [q] at this; cases this), fun y hy q => (by have := (h6 y hy).2; rw [q] at this; cases this), fun q => (by rw [q] at h7; simp at h7), h8, h9⟩
theorem gxy_ok {cenv : Env} {x y : Str} {p1 p2 p3 : Pos} {E' : Value → Shared → Prop} {mm : Str → Option Value} {r : Addr} (hk : cenv.scope.kind = .function) (kx : cenv.kindOf x = some .local) (ky : cenv.kindOf y = some .local)
    (hn : s.heap.Ns cenv.locals mm) (hx : mm x = some (.ref r)) (hy : mm y = some (.ref r)) (d1 : (x == ("__debug__" : Str)) = false) (d2 : (y == ("__debug__" : Str)) = false) :
    wpAny C.M A (eval (.Compare (.Name x p1) [.Is] [.Name y p2] p3) cenv) (fun y s' => y = .bool true ∧ Keeps s s') E' s := by
  refine wpAny_Compare1 ?_ rfl
  refine wpAny_Name (wpAny_loadName_local hk kx hn hx ?_) d1
  refine wpAny_Name (wpAny_loadName_local hk ky hn hy ?_) d2
  show wpAny C.M A (do return Value.bool (← isSame (.ref r) (.ref r))) _ _ _
  exact wpAny_bind (wpAny_isSame_ref_self (wpAny_pure ⟨rfl, s.heap, s.toks, rfl, fun _ _ e => e⟩))
theorem zsame_ok {x y : Str} {p p1 p2 p3 p4 p5 pt p9 pd pe pos : Pos} {kt : Nat} {e1 e2 : Expr} {me1 me2 : E} {sc : Scope} {Q : PV} (O : C.Ok) (ht : c.tab = C.tab) (htop : c.top = c.tab.gtop) (hgl : c.isGlob "all" = true) (hz : c.isGlob "zip" = true) (G : ZScope sc x y) (s1' : isStar e1 = false) (s2' : isStar e2 = false) (he1 : SndE C Φ c e1 me1) (he2 : SndE C Φ c e2 me2)
    (a : At C c env A m H s) (hw : wpE Φ (.prim .same [me1, me2]) m H Q) :
    wpAny C.M A (eval (.Call (.Name "all" p) [.GeneratorExp (.Compare (.Name x p1) [.Is] [.Name y p2] p3) [⟨.Tuple [.Name x p4, .Name y p5] kt pt, .Call (.Name "zip" p9) [e1, e2] [] pd, [], 0⟩] sc pe] [] pos) env) (PE C H s Q) NoE s := by
  have hlim : lim = 1000000 := rfl
  have hcode : env.code = .ref C.tab.gen := by rw [← ht]; exact a.eo.code htop
  simp only [w_prim] at hw
  refine wpAny_Call_NameR (blt_ok O a hgl rfl (O.blts "all" (by decide)) rfl (by decide) ?_)
  refine PySem.callWith_builtin1 ?_
  show wpAny C.M A (eval (.GeneratorExp _ _ _ _) env) _ _ _
  refine wpAny_GeneratorExp_walksQT a.ao.hd G.co (closureFor_none G.free) G.cell G.dot G.ox G.oy G.xy G.kind (by have := a.ao.dp; have : recursionLimit = 1000 := rfl; (first | lia | omega)) ?_ fun _ => rfl
  refine callT_ok O (by decide) rfl hz (by simp [s1', s2']) (items_cons s1' he1 (items_cons s2' he2 items_nil)) a hw fun vs s1 xs H1 r a1 x1 q1 => ?_
  replace q1 : allSameW xs H1 Q := q1
  unfold allSameW at q1
  split at q1
  case h_2 => exact q1.elim
  rename_i p0 q0
  obtain ⟨⟨rs, hp, hq, hlen⟩, ⟨P, hP⟩, q⟩ := q1
  obtain ⟨v, w, rfl, r1, r2⟩ := r.two
  cases r1.ref
  cases r2.ref
  obtain ⟨vg, ng, lig, rrg, _⟩ := a1.S.rep _ _ hp
  obtain ⟨vw, nw, liw, rrw, _⟩ := a1.S.rep _ _ hq
  cases refs_of rrg
  cases refs_of rrw
  refine call_zip_2 lig.isList liw.isList fun h2 z1 z2 z3 z4 z5 hsz hk2 => ?_
  have zp : p0 < s1.heap.objs.size := Heap.lt_size lig
  have zq : q0 < s1.heap.objs.size := Heap.lt_size liw
  have Z : ZipAt s1.heap.objs.size p0 q0 0 h2 := ⟨z1, z2, ⟨_, _, z3⟩, z4, z5⟩
  refine wpAny_pyIter_zip z1 ?_
  clear z1 z2 z3 z4 z5
  have T := O.T.keeps a1.S.base
  refine ⟨T.nolimit.keeps hk2, ?_⟩
  obtain ⟨S2, x2⟩ := a1.S.grow (s' := { s1 with heap := h2 }) hk2 rfl rfl
  refine gen_code S2 hP hcode fun code h3 tk hk3 ht3 => ?_
  have hP0 : C.h₀.get? P = none := a1.S.own _ (.inr (.inl ⟨_, hP⟩))
  obtain ⟨obP, lkP⟩ : ∃ ob, s1.heap.get? P = some ob := (a1.S.rep _ _ hP).look
  have hPlt : P < s1.heap.objs.size := Heap.lt_size lkP
  have hk1 : ∀ b o, b ≠ P → s1.heap.get? b = some o → h3.get? b = some o := fun b o n e => hk3 b o n (hk2 _ _ e)
  have hb3 : ∀ b o, C.h₀.get? b = some o → h3.get? b = some o := fun b o e => hk1 b o (fun q => by rw [q, hP0] at e; cases e) (a1.S.base _ _ e)
  have T3 := O.T.keeps hb3
  have hcs : cStatics < s1.heap.objs.size := let ⟨_, hn, _⟩ := T.nolimit; hn.lt
  have Z3 : ZipAt s1.heap.objs.size p0 q0 0 h3 := Z.same fun b o b1 b2 e => hk3 b o (fun q => by rw [q] at b1; exact absurd hPlt (Nat.not_lt.mpr b1)) e
  have ng' : p0 ≠ P := fun q => by rw [q, hP] at hp; cases hp
  have nw' : q0 ≠ P := fun q => by rw [q, hP] at hq; cases hq
  have lg3 : h3.IsList p0 (rs.map Value.ref).toArray := ⟨_, hk1 _ _ ng' lig, rfl, ng, rfl⟩
  have lw3 : h3.IsList q0 (rs.map Value.ref).toArray := ⟨_, hk1 _ _ nw' liw, rfl, nw, rfl⟩
  have n3 : s1.heap.objs.size + 4 < h3.objs.size := Heap.lt_size Z3.1
  rw [a.eo.glob]
  refine gen_blt O hb3 ?_
  generalize hszn : s1.heap.objs.size = n at *
  have far : ∀ b, b < n → b ∉ [n + 4, n + 3, n, n + 1] := fun b hb hm => by
    simp only [List.mem_cons, List.not_mem_nil, or_false] at hm
    rcases hm with rfl | rfl | rfl | rfl
    · exact absurd hb (Nat.not_lt.mpr (Nat.le_add_right _ _))
    · exact absurd hb (Nat.not_lt.mpr (Nat.le_add_right _ _))
    · exact absurd hb (Nat.lt_irrefl _)
    · exact absurd hb (Nat.not_lt.mpr (Nat.le_add_right _ _))
  refine ⟨n + 4, [n + 4, n + 2, n + 3, n, n + 1, p0, q0], [n + 4, n + 3, n, n + 1], _, _, _, _, fun _ => true, fun _ y => y = .bool true, rfl,
    fun A' hA => (WalksT.zip2 (prog := C.prog) (w := C.w) hA (n + 4) (n + 2) (n + 3) n (n + 1) p0 q0 (zip_apart zp zq) (rs.map Value.ref).toArray (rs.map Value.ref).toArray).toU, (fun i vals hv => by obtain ⟨x, y, _, _, e⟩ := hv; exact ⟨x, y, e⟩),
    ⟨Z3.1, Z3.2.1, Z3.2.2.1, Z3.2.2.2.1, Z3.2.2.2.2, lg3, lw3⟩, ?_, T3.nolimit, far _ hcs, fun href hre => ?_, fun gn h5 tk5 gs hb hlt hsz5 hk5 W hat => ?_⟩
  · intro b hb
    simp only [List.mem_cons, List.not_mem_nil, or_false] at hb
    have z9 : n + 5 ≤ h3.objs.size := n3
    rcases hb with rfl | rfl | rfl | rfl | rfl | rfl | rfl
    · exact n3
    · exact Nat.lt_of_lt_of_le (Nat.add_lt_add_left (by decide) _) z9
    · exact Nat.lt_of_lt_of_le (Nat.add_lt_add_left (by decide) _) z9
    · exact Nat.lt_of_lt_of_le (Nat.lt_add_of_pos_right (by decide)) z9
    · exact Nat.lt_of_lt_of_le (Nat.add_lt_add_left (by decide) _) z9
    · exact Nat.lt_of_lt_of_le (Nat.lt_of_lt_of_le zp (Nat.le_add_right _ _)) z9
    · exact Nat.lt_of_lt_of_le (Nat.lt_of_lt_of_le zq (Nat.le_add_right _ _)) z9
  · refine ⟨fun A' E' i va vb s₂ m₂ hA hv hn hx hy hke => wpAny_pure ⟨rfl, s₂.heap, s₂.toks, rfl, fun _ _ e => e⟩, fun A' E' i va vb s₂ m₂ hA hv _ hn hx hy hke => ?_⟩
    obtain ⟨u, u', e3, e4, e5⟩ := hv
    rw [e3] at e4
    cases e4
    obtain ⟨e1', e2'⟩ : va = u ∧ vb = u := by simpa using congrArg Array.toList e5
    subst e1' e2'
    rw [List.getElem?_toArray, List.getElem?_map] at e3
    obtain ⟨r, _, rfl⟩ := Option.map_eq_some_iff.mp e3
    exact gxy_ok (cenv := genEnv sc [] h3.objs.size code builtinsNs env) G.kind G.ox G.oy hn hx hy G.d1 G.d2
  · refine call_all_walkS ?_
    refine W.in4_1.self 0 _ _ _ hat ?_
    refine ⟨gn, _, _, _, _, _, _, fun _ => true, rfl, W.in4_1, hat, fun i v s Q E hv hq => ?_, fun s' hm => ?_⟩
    · obtain ⟨_, _, rfl⟩ := hv
      exact wpAny_truthy_bool hq
    · have hall : ∀ n : Nat, (List.range n).all (fun _ => true) = true := fun n => by simp
      rw [hall]
      have far5 : ∀ b, b < n → b ∉ h3.objs.size :: [n + 4, n + 3, n, n + 1] := fun b hb hw => by
        rcases List.mem_cons.mp hw with q | hw
        · rw [q] at hb; exact absurd (Nat.lt_trans hb (Nat.lt_of_le_of_lt (Nat.le_add_right _ _) n3)) (Nat.lt_irrefl _)
        · exact far b hb hw
      have blt : ∀ b o, s1.heap.get? b = some o → b < n := fun b o e => hszn ▸ Heap.lt_size e
      have hk : ∀ b o, b ≠ P → s1.heap.get? b = some o → s'.heap.get? b = some o := fun b o n e => hm.heap b o (far5 b (blt b o e)) (hk5 _ _ (hk1 _ _ n e))
      have htb : ∃ ps : Array Value, s'.heap.get? P = some { cls := .none, data := .fields ps } ∧ TriplesOk ps.toList := by
        obtain ⟨ps, e, ho⟩ := ht3
        exact ⟨ps, hm.heap P _ (far5 P hPlt) (hk5 _ _ e), ho⟩
      obtain ⟨S', E'⟩ := a1.S.table (s' := s') hP hk htb (AllBare.moved (a1.S.gens.push hb) hm.gens) hm.os
      exact ⟨.bool true, _, rfl, S', x1.trans E', q⟩
theorem zipNames_ok {es : List Expr} {n : SameX} (h : zipNames es = some n) : ∃ p4 p5, es = [.Name n.g p4, .Name n.w p5] := by
  match es, h with
  | [], h => cases h
  | [_], h => cases h
  | _ :: _ :: _ :: _, h => cases h
  | [a, b], h =>
    replace h : (match nameOf a, nameOf b with | some x, some y => some (⟨x, y⟩ : SameX) | _, _ => none) = some n := h
    split at h
    · rename_i x y hx hy
      cases h
      obtain ⟨p4, rfl⟩ := nameOf_ok hx
      obtain ⟨p5, rfl⟩ := nameOf_ok hy
      exact ⟨p4, p5, rfl⟩
    · cases h
theorem isXY_ok {x y : Str} {e : Expr} (h : isXY x y e = true) : ∃ p1 p2 p3, e = .Compare (.Name x p1) [.Is] [.Name y p2] p3 := by
  unfold isXY at h
  split at h
  · rename_i z hz
    obtain ⟨p3, e1⟩ := cmpOf_ok hz
    obtain ⟨l, ops, rs⟩ := z
    simp only [Bool.and_eq_true] at h
    obtain ⟨⟨h1, h2⟩, h3⟩ := h
    obtain ⟨p1, e2⟩ := nameIs_ok h2
    match ops, h1, rs, h3 with
    | [.Is], _, [r], h3 =>
      obtain ⟨p2, e3⟩ := nameIs_ok (e := r) h3
      refine ⟨p1, p2, p3, ?_⟩
      rw [e1]
      dsimp only at e2 ⊢
      rw [e2, e3]
    | [.Is], _, [], h3 => cases h3
    | [.Is], _, _ :: _ :: _, h3 => cases h3
  · cases h
theorem samez_call {tr : Expr → Option E} {elt iter : Expr} {ifs : List Expr} {n : Int} {sc : Scope} {nm : SameX} {p p4 p5 pt pg pos : Pos} {kt : Nat} {gs : List Comprehension} {me : E} (O : C.Ok) (ht : c.tab = C.tab) (hg : c.isGlob "all" = true) (hf : ∀ e me, tr e = some me → SndE C (phi C) c e me)
    (h : trSameZ c tr ⟨elt, gs, sc, pg⟩ ⟨.Tuple [.Name nm.g p4, .Name nm.w p5] kt pt, iter, ifs, n⟩ nm = some me) :
    SndE C (phi C) c (.Call (.Name "all" p) [.GeneratorExp elt [⟨.Tuple [.Name nm.g p4, .Name nm.w p5] kt pt, iter, ifs, n⟩] sc pg] [] pos) me ∧ ∃ q l, me = .prim q l := by
  unfold trSameZ at h
  dsimp only at h
  split at h
  case h_2 => cases h
  rename_i y hy
  split at h
  case isFalse => cases h
  rename_i hb
  simp only [Bool.and_eq_true, Bool.not_eq_true', Bool.not_eq_eq_eq_not, Bool.not_true] at hb
  obtain ⟨⟨⟨⟨⟨⟨⟨⟨⟨b1, b2⟩, b3⟩, b4⟩, b5⟩, b6⟩, b7⟩, b8⟩, b9⟩, b10⟩ := hb
  cases callOf_ok hy
  obtain ⟨f, as, kws, pd⟩ := y
  dsimp only at *
  cases isNil_ok b5
  cases eq_of_beq b6
  cases isNil_ok b7
  obtain ⟨p9, rfl⟩ := nameIs_ok b8
  obtain ⟨p1, p2, p3, rfl⟩ := isXY_ok b4
  match as, b10, h with
  | [e1, e2], _, h =>
    simp only [List.any_cons, List.any_nil, Bool.or_false, Bool.or_eq_false_iff] at b9
    replace h : (do some (E.prim .same (← mapO tr [e1, e2])) : Option E) = some me := h
    simp only [Option.bind_eq_bind, Option.bind_eq_some_iff, Option.some.injEq] at h
    obtain ⟨l, h1, rfl⟩ := h
    unfold mapO at h1
    split at h1
    case h_2 => cases h1
    rename_i m1 hm1
    unfold mapO at h1
    split at h1
    case h_2 => cases h1
    rename_i bs hbs
    split at hbs
    case h_2 => cases hbs
    rename_i m2 hm2
    cases h1
    cases hbs
    exact ⟨fun {env A m H s Q} a hw => zsame_ok O ht (eq_of_beq b1) hg b2 (zipScope_ok b3) b9.1 b9.2 (hf _ _ hm1) (hf _ _ hm2) a hw, _, _, rfl⟩
  | [], b10, _ => cases b10
  | [_], b10, _ => cases b10
  | _ :: _ :: _ :: _, b10, _ => simp at b10
theorem all_call {tr : Expr → Option E} {p pos : Pos} {es : List Expr} {me : E} (O : C.Ok) (ht : c.tab = C.tab) (hg : c.isGlob "all" = true) (hf : ∀ e me, tr e = some me → SndE C (phi C) c e me) (h : trAll c tr es = some me) :
    SndE C (phi C) c (.Call (.Name "all" p) es [] pos) me ∧ ∃ q l, me = .prim q l := by
  match es, h with
  | [], h => cases h
  | _ :: _ :: _, h => cases h
  | [e], h =>
    replace h : (match genOf e with | some g => trGen c tr g g.gs | none => none) = some me := h
    split at h
    case h_2 => cases h
    rename_i g hgo
    have e1 := genOf_ok hgo
    obtain ⟨elt, gs, sc, pg⟩ := g
    dsimp only at e1 h
    subst e1
    match gs, h with
    | [], h => cases h
    | _ :: _ :: _, h => cases h
    | [⟨t, iter, ifs, n⟩], h =>
      unfold trGen at h
      dsimp only at h
      split at h
      case h_2 =>
        split at h
        case h_2 => cases h
        rename_i es hes
        obtain ⟨kt, pt, rfl⟩ := tupZ_ok hes
        split at h
        case h_2 => cases h
        rename_i nm hnm
        obtain ⟨p4, p5, rfl⟩ := zipNames_ok hnm
        exact samez_call O ht hg hf h
      rename_i x hx
      obtain ⟨px, rfl⟩ := nameOf_ok hx
      split at h
      case isFalse => exact same_call (g := ⟨elt, [⟨.Name x px, iter, ifs, n⟩], sc, pg⟩) (q := ⟨.Name x px, iter, ifs, n⟩) (px := px) O ht hg rfl h
      rename_i hb
      simp only [Bool.and_eq_true] at hb
      obtain ⟨⟨⟨b1, b2⟩, b3⟩, b4⟩ := hb
      unfold genSrc at b4
      simp only [Bool.and_eq_true, Bool.not_eq_true', Bool.not_eq_eq_eq_not, Bool.not_true] at b4
      obtain ⟨⟨⟨⟨⟨c1, c2⟩, c3⟩, c4⟩, c5⟩, c6⟩ := b4
      cases isNil_ok c1
      cases eq_of_beq c2
      obtain ⟨y, hy⟩ := Option.isSome_iff_exists.mp c3
      obtain ⟨py, rfl⟩ := nameOf_ok hy
      simp only [Option.bind_eq_bind, Option.bind_eq_some_iff, Option.some.injEq] at h
      obtain ⟨mi, h1, rfl⟩ := h
      obtain ⟨p1, p2, p3, p4, p5, rfl⟩ := eltOk_ok b3
      exact ⟨fun {env A m H s Q} a hw => all_ok O ht (eq_of_beq b1) hg (genScope_ok b2) c6 (hf _ _ h1) a hw, _, _, rfl⟩
end ML
namespace ML
open PySem PySem.W PySem.Calls PyProof.Rows PySem.SeqAt
variable {C : Cfg} {Φ : Orac} {c : Ctx} {H H' H'' H1 : Heap} {s s' s1 s2 : Shared} {h h' h'' : PHeap} {A : Around} {env : Env} {m m' : Loc}
variable {Q : PV} {pos pos' : Pos} {e o i : Expr} {me mo mi : E}
theorem attr_ok {x : Str} {j : Nat} (O : C.Ok) (hb : bareCall o = false) (hx : attrIs j x) (ho : SndE C Φ c o mo) (a : At C c env A m H s) (hw : wpE Φ (.attr mo j) m H Q) :
    wpAny C.M A (eval (.Attribute o x pos) env) (PE C H s Q) NoE s := by
  simp only [w_var, w_lit, w_bop, w_neg, w_cmp, w_cmp2, w_and, w_or, w_not, w_call, w_meth, w_new, w_prim, w_attr, w_idx, w_slice, w_list, w_tup, w_comp] at hw
  refine Attribute_any_ (ho.then a hw fun ov s1 z H1 r1 a1 x1 q1 => ?_) (by rw [arm_eval_Attribute, base_of hb])
  unfold attrW at q1
  split at q1
  · rename_i p
    cases r1.ref
    split at q1
    · rename_i ci fs hp
      obtain ⟨v, hl, q⟩ := q1
      exact wpAny_ext (getAttr_ok O a1.S hp hx hl q) fun _ _ z => PE.ext x1 z
    · exact q1.elim
  · exact q1.elim
theorem sub_plain (hi : isSlice i = false) : ∀ o v : Value, subscripted i false o v = operate [o, v] (getItem o v) := by
  cases i <;> first | (intro o v; rfl) | cases hi
theorem index_ok (hi : isSlice i = false) (ho : SndE C Φ c o mo) (hii : SndE C Φ c i mi) (a : At C c env A m H s) (hw : wpE Φ (.idx mo mi) m H Q) :
    wpAny C.M A (eval (.Subscript o i pos) env) (PE C H s Q) NoE s := by
  simp only [w_var, w_lit, w_bop, w_neg, w_cmp, w_cmp2, w_and, w_or, w_not, w_call, w_meth, w_new, w_prim, w_attr, w_idx, w_slice, w_list, w_tup, w_comp] at hw
  refine Subscript_ (ho.then a hw fun ov s1 x H1 r1 a1 x1 q1 => hii.then a1 q1 fun iv s2 y H2 r2 a2 x2 q2 => ?_)
  refine wpAny_ext (idx_ok a2.S r1 r2 q2 (sub_plain hi)) fun v s3 z => ?_
  obtain ⟨mv, H3, r3, S3, x3, rfl, q3⟩ := z
  exact ⟨mv, H3, r3, S3, (x1.trans x2).trans x3, q3⟩
theorem not_debug (O : C.Ok) {x : Str} {f : Nat} (h : C.tab.fns.lookup x = some f ∨ C.tab.cls.lookup x = some f) : (x == ("__debug__" : Str)) = false := beq_eq_false_iff_ne.mpr fun q => by
  subst q
  rcases h with h | h
  · rw [O.nodbg.1] at h; cases h
  · rw [O.nodbg.2] at h; cases h
theorem fits_ok {f : Nat} (h : c.fits f = true) : ∃ l, c.tab.lv.lookup f = some l ∧ l < c.top := by
  unfold Ctx.fits at h
  split at h
  · rename_i l e; exact ⟨l, e, of_decide_eq_true h⟩
  · cases h
theorem trEs_star {f : Expr → Option E} {es : List Expr} {mes : List E} (h : trEs f es = some mes) : es.any isStar = false := by
  unfold trEs at h
  split at h
  · cases h
  · rename_i q
    simp only [Bool.or_eq_true, not_or, Bool.not_eq_true] at q
    exact q.1
noncomputable def isNotU (e : Expr) : Bool := if h : e.ctorIdx = 3 then Expr.UnaryOp.elim (motive_1 := fun _ => Bool) e h (fun op _ _ => op.ctorIdx == 1) else false
noncomputable def plainTest (e : Expr) : Bool := !(e.ctorIdx == 0 || e.ctorIdx == 5 || e.ctorIdx == 15 || isNotU e)
theorem isTrue_of {e : Expr} (h : plainTest e = true) : isTrue e env (eval e env) = (do let v ← eval e env; standAt e.pos; holding [v] (truthy v)) := by
  cases e with
  | UnaryOp op x p => cases op <;> first | rfl | cases h
  | _ => first | rfl | cases h
noncomputable def plainE (e : E) : Bool := !(e.ctorIdx == 4 || e.ctorIdx == 5 || e.ctorIdx == 6 || e.ctorIdx == 7 || e.ctorIdx == 8)
theorem wpT_plain {me : E} {Q : Bool → Heap → Prop} (h : plainE me = true) (hw : wpT Φ me m H Q) : wpE Φ me m H fun v H => truthW v H fun r => Q r H := by
  cases me <;> first | exact hw | cases h
theorem sndT_of {e : Expr} {me : E} (h1 : plainTest e = true) (h2 : plainE me = true) (h : SndE C Φ c e me) : SndT C Φ c e me := fun {env A m H s Q} a hw => tval_ok h a (wpT_plain h2 hw) (isTrue_of h1)
theorem prim_ok {f : Str} {p pos : Pos} {es : List Expr} {mes : List E} {q : Prim} (O : C.Ok) (hg : c.isGlob f = true) (hp : trPrim f es.length = some q) (hs : es.any isStar = false) (h : SndEs C Φ c es mes) (a : At C c env A m H s) (hw : wpE Φ (.prim q mes) m H Q) :
    wpAny C.M A (eval (.Call (.Name f p) es [] pos) env) (PE C H s Q) NoE s := by
  simp only [w_var, w_lit, w_bop, w_neg, w_cmp, w_cmp2, w_and, w_or, w_not, w_call, w_meth, w_new, w_prim, w_attr, w_idx, w_slice, w_list, w_tup, w_comp] at hw
  have key : ∀ (N : String), f ∈ bltNames → bootBuiltins f = some (.builtin N) → (∀ {s1 : Shared} {H1 : Heap} {vs : List Value} {xs : List V}, A.handled = none → StH C H1 s1 → All2 RepV vs xs → primW q xs H1 Q → wpAny C.M A (call (.builtin N) vs []) (PE C H1 s1 Q) NoE s1) → wpAny C.M A (eval (.Call (.Name f p) es [] pos) env) (PE C H s Q) NoE s := by
    intro N h1 h2 h3
    exact callB_ok O h1 h2 hg hs h a hw fun vs s1 xs H1 r a1 x1 q1 => wpAny_ext (h3 a1.ao.hd a1.S r q1) fun _ _ z => PE.ext x1 z
  unfold trPrim at hp
  split at hp
  · rename_i e; simp only [Bool.and_eq_true, beq_iff_eq] at e; cases hp; cases e.1; exact key "len" (by decide) rfl len_call
  split at hp
  · rename_i e; simp only [Bool.and_eq_true, beq_iff_eq] at e; cases hp; cases e.1; exact key "sum" (by decide) rfl sum_call
  split at hp
  · rename_i e; simp only [Bool.and_eq_true, beq_iff_eq] at e; cases hp; cases e.1; exact key "sorted" (by decide) rfl sort_call
  · cases hp
theorem gName_ok {c : Ctx} {e : Expr} {y : Str} (h : gName c e = some y) : ∃ p, e = .Name y p ∧ c.isGlob y = true := by
  unfold gName at h
  split at h
  · rename_i x hx
    split at h
    · rename_i q; cases h; obtain ⟨p, rfl⟩ := nameOf_ok hx; exact ⟨p, rfl, q⟩
    · cases h
  · cases h
theorem trPrimC_ok {tr : Expr → Option E} {f : Str} {p pos : Pos} {es : List Expr} (O : C.Ok) (hg : c.isGlob f = true) (hf : ∀ e me, tr e = some me → SndE C (phi C) c e me) (h : trPrimC c tr f es = some me) :
    SndE C (phi C) c (.Call (.Name f p) es [] pos) me ∧ plainE me = true := by
  unfold trPrimC at h
  split at h
  · rename_i q hq
    simp only [Option.bind_eq_bind, Option.bind_eq_some_iff, Option.some.injEq] at h
    obtain ⟨mes, h1, rfl⟩ := h
    exact ⟨fun {env A m H s Q} a hw => prim_ok O hg hq (trEs_star h1) (items_ok hf h1) a hw, rfl⟩
  · cases h
theorem trCall_ok {tr : Expr → Option E} {f : Str} {p pos : Pos} {es : List Expr} (O : C.Ok) (ht : c.tab = C.tab) (hf : ∀ e me, tr e = some me → SndE C (phi C) c e me) (h : trCall c tr f es = some me) :
    SndE C (phi C) c (.Call (.Name f p) es [] pos) me ∧ plainE me = true := by
  unfold trCall at h
  split at h
  · cases h
  rename_i hg
  have hg : c.isGlob f = true := by simpa using hg
  split at h
  · rename_i i hi
    rw [ht] at hi
    split at h
    · rename_i hfit
      simp only [Option.bind_eq_bind, Option.bind_eq_some_iff, Option.some.injEq] at h
      obtain ⟨mes, h1, rfl⟩ := h
      obtain ⟨l, hl, hlt⟩ := fits_ok hfit
      rw [ht] at hl
      exact ⟨fun {env A m H s Q} a hw => call_ok O (trEs_star h1) (items_ok hf h1) hg (not_debug O (.inl hi)) hi hl hlt a hw, rfl⟩
    · cases h
  · split at h
    · rename_i i hi
      rw [ht] at hi
      split at h
      · rename_i hfit
        simp only [Option.bind_eq_bind, Option.bind_eq_some_iff, Option.some.injEq] at h
        obtain ⟨mes, h1, rfl⟩ := h
        obtain ⟨l, hl, hlt⟩ := fits_ok hfit
        rw [ht] at hl
        obtain ⟨Ca, hc⟩ := O.hasCls _ _ hi
        exact ⟨fun {env A m H s Q} a hw => new_ok O (trEs_star h1) (items_ok hf h1) hg (not_debug O (.inr hi)) hi hc hl hlt a hw, rfl⟩
      · cases h
    · split at h
      · rename_i hfl
        cases beq_iff_eq.mp hfl
        obtain ⟨h1, q, l, rfl⟩ := all_call (p := p) (pos := pos) O ht hg hf h
        exact ⟨h1, rfl⟩
      split at h
      · cases h
      · exact trPrimC_ok O hg hf h
end ML
namespace ML
open PySem PySem.W PySem.Calls PyProof.Rows PySem.SeqAt
variable {C : Cfg} {Φ : Orac} {c : Ctx} {H H' H'' H1 : Heap} {s s' s1 s2 : Shared} {A : Around} {env : Env} {m m' : Loc}
end ML
namespace ML
open PySem PySem.W PySem.Calls PyProof.Rows PySem.SeqAt
variable {C : Cfg}
noncomputable def notSetE (tr : Expr → Option E) : Prop := ∀ e me, tr e = some me → notSet e = true
theorem trE_set {n : Nat} {c : Ctx} {e : Expr} {me : E} (h : trE n c e = some me) : notSet e = true := by
  cases n with
  | zero => cases h
  | succ n => cases e <;> first | rfl | cases h
theorem trE_star {n : Nat} {c : Ctx} {e : Expr} {me : E} (h : trE n c e = some me) : isSlice e = false := by
  cases n with
  | zero => cases h
  | succ n => cases e <;> first | rfl | cases h
theorem folded_of {e : Expr} (h : notSet e = true) : ∀ (env : Env) x, foldedSetIterable e env x = pure x := by
  cases e <;> first | (intro env x; rfl) | cases h
theorem trRange_ok {c : Ctx} {tr : Expr → Option E} {args : List Expr} {p q : Pos} {src : Src} (O : C.Ok) (hg : c.isGlob "range" = true) (hf : ∀ e me, tr e = some me → SndE C (phi C) c e me) (h : trRange tr args = some src) : SndSrc C (phi C) c (.Call (.Name "range" p) args [] q) src := by
  unfold trRange at h
  split at h
  · rename_i n
    split at h
    · cases h
    · rename_i hs
      simp only [Option.bind_eq_bind, Option.bind_eq_some_iff, Option.some.injEq] at h
      obtain ⟨mn, h1, rfl⟩ := h
      exact src_rng1 O hg (by simpa using hs) (hf _ _ h1)
  · cases h
theorem trSrc_ok {c : Ctx} {tr : Expr → Option E} {e : Expr} {src : Src} (O : C.Ok) (hf : ∀ e me, tr e = some me → SndE C (phi C) c e me) (h : trSrc c tr e = some src) : SndSrc C (phi C) c e src ∧ notSet e = true := by
  unfold trSrc at h
  split at h
  · rename_i as hr
    unfold rangeArgs at hr
    split at hr
    · rename_i x hx
      cases callOf_ok hx
      obtain ⟨g, args, kws, q⟩ := x
      split at hr
      · rename_i hk
        obtain ⟨h1, h2⟩ := Bool.and_eq_true_iff.mp hk
        cases isNil_ok h1
        cases hr
        obtain ⟨p, e1, hg⟩ := gName_ok (eq_of_beq h2)
        replace e1 : g = .Name "range" p := e1
        subst e1
        exact ⟨fun {env A m H s Q R} a hw k => trRange_ok O hg hf h a hw k, rfl⟩
      · cases hr
    · cases hr
  · split at h
    · cases h
    · rename_i hs
      simp only [Option.bind_eq_bind, Option.bind_eq_some_iff, Option.some.injEq] at h
      obtain ⟨me, h3, rfl⟩ := h
      exact ⟨src_of (hf _ _ h3), by unfold notSet; simpa using hs⟩
noncomputable abbrev Both (C : Cfg) (c : Ctx) (e : Expr) (me : E) : Prop := SndE C (phi C) c e me ∧ SndT C (phi C) c e me
theorem both {c : Ctx} {e : Expr} {me : E} (h1 : plainTest e = true) (h2 : plainE me = true) (h3 : SndE C (phi C) c e me) : Both C c e me := ⟨h3, sndT_of h1 h2 h3⟩
section
variable {c : Ctx} {f : Expr → Option E} {e l r o i x : Expr} {me : E} {p : Pos}
theorem const_ok {k : Const} {n : Nat} (O : C.Ok) (ht : c.tab = C.tab) (h : trConst c k = some me) : Both C c (.Constant k n p) me := by
  refine both rfl ?_ fun {env A m H s Q} a hw => lit_ok (by rw [ht]; exact O.sts) h a hw
  unfold trConst at h
  split at h <;> first | (cases h; rfl) | (cases h; done) | (obtain ⟨_, _, rfl⟩ := Option.map_eq_some_iff.mp h; rfl)
theorem var_ok {y : Str} (h : trVar c y = some me) : Both C c (.Name y p) me := by
  unfold trVar at h
  split at h
  · rename_i k hk
    split at h
    · rename_i hv
      simp only [Bool.and_eq_true, Bool.not_eq_true', Bool.not_eq_eq_eq_not, Bool.not_true] at hv
      obtain ⟨i, hi, rfl⟩ := Option.map_eq_some_iff.mp h
      exact both rfl rfl fun {env A m H s Q} a hw => name_ok hv.1.2 hv.2 hk hv.1.1 hi a hw
    · cases h
  · cases h
theorem bin_ok {op : Operator} (hE : ∀ e me, f e = some me → SndE C (phi C) c e me) (h : trBin f l op r = some me) : Both C c (.BinOp l op r p) me := by
  simp only [trBin, Option.bind_eq_bind, Option.bind_eq_some_iff, Option.some.injEq] at h
  obtain ⟨mop, h0, ml, h1, mr, h2, rfl⟩ := h
  exact both rfl rfl fun {env A m H s Q} a hw => binop_ok (hE _ _ h1) (hE _ _ h2) h0 a hw
theorem un_ok {op : UnaryOp} (hE : ∀ e me, f e = some me → SndE C (phi C) c e me) (hT : ∀ e me, f e = some me → SndT C (phi C) c e me) (h : trUn f op x = some me) : Both C c (.UnaryOp op x p) me := by
  unfold trUn at h
  split at h
  · simp only [Option.bind_eq_bind, Option.bind_eq_some_iff, Option.some.injEq] at h
    obtain ⟨mx, h1, rfl⟩ := h
    exact ⟨fun {env A m H s Q} a hw => not_ok (hE _ _ h1) a hw, fun {env A m H s Q} a hw => tnot_ok (hT _ _ h1) a hw⟩
  · simp only [Option.bind_eq_bind, Option.bind_eq_some_iff, Option.some.injEq] at h
    obtain ⟨mx, h1, rfl⟩ := h
    exact both rfl rfl fun {env A m H s Q} a hw => usub_ok (hE _ _ h1) a hw
  · cases h
theorem cmp1_ok {op : CmpOp} (O : C.Ok) (hE : ∀ e me, f e = some me → SndE C (phi C) c e me) (hS : ∀ e me, f e = some me → notSet e = true) (h : trCmp1 c f l op r = some me) : Both C c (.Compare l [op] [r] p) me := by
  unfold trCmp1 at h
  skip
  · simp only [Option.bind_eq_bind, Option.bind_eq_some_iff, Option.some.injEq] at h
    obtain ⟨ml, h1, mr, h2, rfl⟩ := h
    exact ⟨fun {env A m H s Q} a hw => cmp_expr (hE _ _ h1) (hE _ _ h2) (hS _ _ h2) a hw, fun {env A m H s Q} a hw => cmp_test (hE _ _ h1) (hE _ _ h2) (hS _ _ h2) a hw⟩
theorem cmps_ok {ops : List CmpOp} {rs : List Expr} (O : C.Ok) (hE : ∀ e me, f e = some me → SndE C (phi C) c e me) (hS : ∀ e me, f e = some me → notSet e = true) (h : trCmps c f l ops rs = some me) : Both C c (.Compare l ops rs p) me := by
  unfold trCmps at h
  split at h
  · exact cmp1_ok O hE hS h
  · cases h
theorem trMeth_ok {name : Str} {args : List Expr} {ap cp : Pos} (O : C.Ok) (ht : c.tab = C.tab) (hE : ∀ e me, f e = some me → SndE C (phi C) c e me) (h : trMeth c f o name args (ap.endLine == cp.line) = some me) : Both C c (.Call (.Attribute o name ap) args [] cp) me := by
  unfold trMeth at h
  split at h
  · cases h
  · rename_i hb
    simp only [Bool.or_eq_true, not_or, Bool.not_eq_true, Bool.not_eq_true', Bool.not_eq_false] at hb
    split at h
    · rename_i f hf
      split at h
      · rename_i hfit
        simp only [Option.bind_eq_bind, Option.bind_eq_some_iff, Option.some.injEq] at h
        obtain ⟨mo, h1, mes, h2, rfl⟩ := h
        obtain ⟨l, hl, hlt⟩ := fits_ok hfit
        rw [ht] at hl hf
        exact both rfl rfl fun {env A m H s Q} a hw => meth_ok O hb.1 (by simpa using hb.2) (trEs_star h2) (trEs_len h2) (hE _ _ h1) (items_ok hE h2) hf hl hlt a hw
      · cases h
    · cases h
theorem calls_ok {g : Expr} {args : List Expr} {cp : Pos} (O : C.Ok) (ht : c.tab = C.tab) (hE : ∀ e me, f e = some me → SndE C (phi C) c e me) (h : trCalls c f cp args g = some me) : Both C c (.Call g args [] cp) me := by
  unfold trCalls at h
  split at h
  · rename_i y hy
    obtain ⟨q, rfl⟩ := nameOf_ok hy
    obtain ⟨h1, h2⟩ := trCall_ok (p := q) (pos := cp) O ht hE h
    exact both rfl h2 h1
  · split at h
    · rename_i x hx
      cases attrOf_ok hx
      exact trMeth_ok O ht hE h
    · cases h
theorem attrE_ok {y : Str} (O : C.Ok) (ht : c.tab = C.tab) (hE : ∀ e me, f e = some me → SndE C (phi C) c e me) (h : trAttr c f o y = some me) : Both C c (.Attribute o y p) me := by
  unfold trAttr at h
  split at h
  · cases h
  · rename_i hb
    split at h
    · rename_i i hi
      simp only [Option.bind_eq_bind, Option.bind_eq_some_iff, Option.some.injEq] at h
      obtain ⟨mo, h1, rfl⟩ := h
      rw [ht, O.ats] at hi
      exact both rfl rfl fun {env A m H s Q} a hw => attr_ok O (by simpa using hb) hi (hE _ _ h1) a hw
    · cases h
theorem sub_ok (hE : ∀ e me, f e = some me → SndE C (phi C) c e me) (hS : ∀ e me, f e = some me → isSlice e = false) (h : trSub f o i = some me) : Both C c (.Subscript o i p) me := by
  unfold trSub at h
  split at h
  · rename_i x hx
    obtain ⟨q, rfl⟩ := sliceOf_ok hx
    obtain ⟨lo, hi, st⟩ := x
    cases st with
    | some _ => cases h
    | none =>
      replace h : (do some (.slice (← f o) (← trO f lo) (← trO f hi)) : Option E) = some me := h
      simp only [Option.bind_eq_bind, Option.bind_eq_some_iff, Option.some.injEq] at h
      obtain ⟨mo, h1, ml, h2, mh, h3, rfl⟩ := h
      exact both rfl rfl fun {env A m H s Q} a hw => slice_ok hE (hE _ _ h1) h2 h3 a hw
  · simp only [Option.bind_eq_bind, Option.bind_eq_some_iff, Option.some.injEq] at h
    obtain ⟨mo, h1, mi, h2, rfl⟩ := h
    exact both rfl rfl fun {env A m H s Q} a hw => index_ok (hS _ _ h2) (hE _ _ h1) (hE _ _ h2) a hw
theorem cond_ok {ifs : List Expr} {mc : Option E} (hT : ∀ e me, f e = some me → SndT C (phi C) c e me) (h : trCond f ifs = some mc) : SndC C (phi C) c ifs mc := by
  unfold trCond at h
  split at h
  · cases h; exact .inl ⟨rfl, rfl⟩
  · simp only [Option.bind_eq_bind, Option.bind_eq_some_iff, Option.some.injEq] at h
    obtain ⟨mt, h4, rfl⟩ := h
    exact .inr ⟨_, mt, rfl, rfl, hT _ _ h4⟩
  · cases h
end
theorem kids_get {c : Ctx} {elt iter2 : Expr} {sc : Scope} {x y v : Str} {px py pv : Pos} {me : E} (O : C.Ok) (ht : c.tab = C.tab) (hk : kidsOk c sc x y elt iter2 = true) (h : (trVar c v).map (fun i => E.prim .kidsOf [i]) = some me) :
    ∃ tg iter ifs rest, [(⟨.Name x px, .Name v pv, [], 0⟩ : Comprehension), ⟨.Name y py, iter2, [], 0⟩] = ⟨tg, iter, ifs, 0⟩ :: rest ∧ plainE me = true ∧ CompB c sc ∧ CompMainG C (phi C) c sc elt tg iter ifs rest me ∧ (∀ (env : Env) x, foldedSetIterable iter env x = pure x) := by
  unfold kidsOk at hk
  simp only [Bool.and_eq_true, Bool.not_eq_true', Bool.not_eq_eq_eq_not, Bool.not_true] at hk
  obtain ⟨⟨⟨⟨⟨⟨⟨⟨⟨k1, k2⟩, k3⟩, k4⟩, k5⟩, k6⟩, k7⟩, k8⟩, k9⟩, k10⟩ := hk
  obtain ⟨mi, h1, rfl⟩ := Option.map_eq_some_iff.mp h
  obtain ⟨pe, rfl⟩ := nameOf_ok (eq_of_beq k3)
  unfold kidsAttr at k2
  split at k2
  case h_2 => cases k2
  rename_i a ha
  cases attrOf_ok ha
  obtain ⟨k21, k22⟩ := Bool.and_eq_true_iff.mp k2
  obtain ⟨o, at', pa⟩ := a
  dsimp only at k21 k22
  obtain ⟨po, rfl⟩ := nameOf_ok (eq_of_beq k21)
  have hb := var_ok (C := C) (p := pv) h1
  obtain ⟨i, rfl⟩ : ∃ i, mi = .var i := by
    unfold trVar at h1
    split at h1
    case h_2 => cases h1
    split at h1
    case isFalse => cases h1
    obtain ⟨i, _, rfl⟩ := Option.map_eq_some_iff.mp h1
    exact ⟨i, rfl⟩
  have hxy : y ≠ x := fun q => by rw [q] at k6; simp at k6
  have K := compOk_ok k1
  have hv1 : trVar (c.inner1 sc x) x = some (.var c.next) := by
    unfold trVar
    rw [show (c.inner1 sc x).kinds.lookup x = some .local from K.own]
    have : (c.inner1 sc x).ν.lookup x = some c.next := by simp [Ctx.inner1, List.lookup]
    simp only [isVarKind, k7, k9, this, Bool.not_false, Bool.and_self, if_true, Option.map_some]
  refine ⟨.Name x px, .Name v pv, [], _, rfl, rfl, K.toB, kids_main K (eq_of_beq k4) (Option.isNone_iff_eq_none.mp k5) hxy k8 ?_ (fun _ _ => rfl) hb.1, fun _ _ => rfl⟩
  have hx1 := eq_of_beq k22
  rw [ht, O.ats] at hx1
  intro env A m H s Q a hw
  exact attr_ok O rfl hx1 (var_ok (C := C) (p := po) hv1).1 a hw
theorem comps_get {c : Ctx} {f : Ctx → Expr → Option E} {elt : Expr} {sc : Scope} {gs : List Comprehension} {me : E} (O : C.Ok) (ht : c.tab = C.tab) (hf : ∀ c' e me, c'.tab = c.tab → f c' e = some me → Both C c' e me) (h : trComps c f elt sc gs = some me) :
    ∃ tg iter ifs rest, gs = ⟨tg, iter, ifs, 0⟩ :: rest ∧ plainE me = true ∧ CompB c sc ∧ CompMainG C (phi C) c sc elt tg iter ifs rest me ∧ (∀ (env : Env) x, foldedSetIterable iter env x = pure x) := by
  match gs, h with
  | [], h => cases h
  | _ :: _ :: _ :: _, h => cases h
  | [g, g2], h =>
    replace h : (if g.is_async == 0 && g2.is_async == 0 && isNil g.ifs && isNil g2.ifs then trKids c f elt sc g g2 else none) = some me := h
    split at h
    case isFalse => cases h
    rename_i hb
    simp only [Bool.and_eq_true] at hb
    obtain ⟨⟨⟨b1, b2⟩, b3⟩, b4⟩ := hb
    unfold trKids at h
    split at h
    case h_2 => cases h
    rename_i x y v hx hy hv
    split at h
    case isFalse => cases h
    rename_i hk
    obtain ⟨t, iter, ifs, n⟩ := g
    obtain ⟨t2, iter2, ifs2, n2⟩ := g2
    dsimp only at *
    cases eq_of_beq b1
    cases eq_of_beq b2
    cases isNil_ok b3
    cases isNil_ok b4
    obtain ⟨px, rfl⟩ := nameOf_ok hx
    obtain ⟨py, rfl⟩ := nameOf_ok hy
    obtain ⟨pv, rfl⟩ := nameOf_ok hv
    exact kids_get O ht hk h
  | [⟨t, iter, ifs, n⟩], h =>
    replace h : (if n == 0 then trComp1 c f elt sc iter ifs t else none) = some me := h
    split at h
    · rename_i hn
      cases eq_of_beq hn
      unfold trComp1 at h
      split at h
      · rename_i x hx
        obtain ⟨px, rfl⟩ := nameOf_ok hx
        split at h
        · rename_i hk
          simp only [Option.bind_eq_bind, Option.bind_eq_some_iff, Option.some.injEq] at h
          obtain ⟨melt, h1, src, h2, mc, h3, rfl⟩ := h
          obtain ⟨hsrc, hns⟩ := trSrc_ok O (fun e me h => (hf c e me rfl h).1) h2
          rcases Bool.or_eq_true_iff.mp hk with hk | hk
          · exact ⟨.Name x px, iter, ifs, [], rfl, rfl, (compOk_ok hk).toB, CompMain.toG (comp_main (compOk_ok hk) hsrc (hf (c.inner1 sc x) _ _ rfl h1).1 (cond_ok (fun e me h => (hf (c.inner1 sc x) e me rfl h).2) h3)), folded_of hns⟩
          · exact ⟨.Name x px, iter, ifs, [], rfl, rfl, (compOkC_ok hk).toB, CompMain.toG (comp_mainC (compOkC_ok hk) hsrc (hf (c.inner1 sc x) _ _ rfl h1).1 (cond_ok (fun e me h => (hf (c.inner1 sc x) e me rfl h).2) h3)), folded_of hns⟩
        · cases h
      · cases h
    · cases h
theorem trE_ok (O : C.Ok) : ∀ (n : Nat) (c : Ctx) (e : Expr) (me : E), c.tab = C.tab → trE n c e = some me → Both C c e me := by
  intro n
  induction n with
  | zero => intro c e me _ h; cases h
  | succ n ih =>
    intro c e me ht h
    have hE : ∀ e me, trE n c e = some me → SndE C (phi C) c e me := fun e me h => (ih c e me ht h).1
    have hT : ∀ e me, trE n c e = some me → SndT C (phi C) c e me := fun e me h => (ih c e me ht h).2
    cases e with
    | Constant k n' p => exact const_ok O ht h
    | Name x p => exact var_ok h
    | BinOp l op r p => exact bin_ok hE h
    | UnaryOp op x p => exact un_ok hE hT h
    | BoolOp op vs p => exact ⟨bool_expr hE h, fun {env A m H s Q} a hw => bool_test hT h a hw⟩
    | Compare l ops rs p => exact cmps_ok O hE (fun _ _ => trE_set) h
    | Call g args kws cp => cases kws with
      | nil => exact calls_ok O ht hE h
      | cons _ _ => cases h
    | Attribute o a p => exact attrE_ok O ht hE h
    | Subscript o i p => exact sub_ok hE (fun _ _ => trE_star) h
    | List es p =>
      replace h : (do some (.list (← trEs (trE n c) es)) : Option E) = some me := h
      simp only [Option.bind_eq_bind, Option.bind_eq_some_iff, Option.some.injEq] at h
      obtain ⟨mes, h1, rfl⟩ := h
      exact both rfl rfl fun {env A m H s Q} a hw => list_ok (trEs_len h1) (items_ok hE h1) a hw
    | Tuple es k p =>
      replace h : (do some (.tup (← trEs (trE n c) es)) : Option E) = some me := h
      simp only [Option.bind_eq_bind, Option.bind_eq_some_iff, Option.some.injEq] at h
      obtain ⟨mes, h1, rfl⟩ := h
      exact both rfl rfl fun {env A m H s Q} a hw => tuple_ok (trEs_len h1) (items_ok hE h1) a hw
    | ListComp elt gs sc p =>
      obtain ⟨tg, iter, ifs, rest, rfl, hpl, K, hM, hfo⟩ := comps_get O ht (fun c' e me h1 h2 => ih c' e me (h1.trans ht) h2) h
      exact both rfl hpl fun {env A m H s Q} a hw => comp_expr K hM hfo a hw
    | _ => cases h
theorem swaps_no {e : Expr} (h : isComp e = false) (t : Option Expr) (line : Nat) (env : Env) : swapsWith e t line env = pure false := by
  cases e <;> first | rfl | cases h
section
variable {c : Ctx} {p : Pos}
theorem trSetAttr_ok {v o : Expr} {x : Str} {px : Pos} {ms : S} (O : C.Ok) (ht : c.tab = C.tab) (h : trSetAttr c v ⟨o, x, px⟩ = some ms) : SndS C (phi C) c (.Assign [.Attribute o x px] v p) ms := by
  have hE : ∀ e me, trE deep c e = some me → SndE C (phi C) c e me := fun e me h => (trE_ok O deep c e me ht h).1
  unfold trSetAttr at h
  split at h
  · cases h
  · rename_i hc
    split at h
    · rename_i i hi
      simp only [Option.bind_eq_bind, Option.bind_eq_some_iff, Option.some.injEq] at h
      obtain ⟨mo, h1, mv, h2, rfl⟩ := h
      rw [ht, O.ats] at hi
      intro env A m H s Q a hw
      exact setattr_ok O hi (hE _ _ h2) (hE _ _ h1) (by simpa using hc) a hw
    · cases h
theorem trAssign_ok {t v : Expr} {ms : S} (O : C.Ok) (ht : c.tab = C.tab) (h : trAssign c v t = some ms) : SndS C (phi C) c (.Assign [t] v p) ms := by
  unfold trAssign at h
  split at h
  · rename_i x hx
    obtain ⟨px, rfl⟩ := nameOf_ok hx
    simp only [Option.bind_eq_bind, Option.bind_eq_some_iff, Option.some.injEq] at h
    obtain ⟨i, h0, mv, h1, rfl⟩ := h
    rcases Bool.eq_false_or_eq_true (isComp v) with hc | hc
    · cases v <;> first | (cases h1; done) | (cases hc; done) | skip
      obtain ⟨tg, iter, ifs, rest, rfl, hpl, K, hM, hfo⟩ := comps_get O ht (fun c' e me h1 h2 => trE_ok O 39 c' e me (h1.trans ht) h2) h1
      intro env A m H s Q a hw
      exact comp_assign h0 K hM hfo a hw
    · intro env A m H s Q a hw
      exact assign_ok h0 (trE_ok O deep c v mv ht h1).1 (fun env => swaps_no hc _ _ env) a hw
  · split at h
    · rename_i x hx
      cases attrOf_ok hx
      exact fun {env A m H s Q} a hw => trSetAttr_ok O ht h a hw
    · cases h
theorem trDel_ok {ts : List Expr} {ms : S} (O : C.Ok) (ht : c.tab = C.tab) (h : trDel c ts = some ms) : SndS C (phi C) c (.Delete ts p) ms := by
  unfold trDel at h
  split at h
  · rename_i t ht'
    cases one_ok ht'
    split at h
    · rename_i x hx
      obtain ⟨q, rfl⟩ := subOf_ok hx
      split at h
      · cases h
      · rename_i hc
        simp only [Option.bind_eq_bind, Option.bind_eq_some_iff, Option.some.injEq] at h
        obtain ⟨mo, h1, mi, h2, rfl⟩ := h
        intro env A m H s Q a hw
        exact delidx_ok (by simpa using hc) (trE_ok O deep c _ _ ht h1).1 (trE_ok O deep c _ _ ht h2).1 a hw
    · cases h
  · cases h
theorem appendOf_ok {v : Expr} {x : AppX} (h : appendOf v = some x) : ∃ ap cp, v = .Call (.Attribute x.o "append" ap) [x.e] [] cp ∧ x.fit = (ap.endLine == cp.line) := by
  unfold appendOf at h
  split at h
  · rename_i y hy
    cases callOf_ok hy
    obtain ⟨g, args, kws, cp⟩ := y
    split at h
    · rename_i hk
      cases isNil_ok hk
      split at h
      · rename_i a ha
        cases attrOf_ok ha
        obtain ⟨o, nm, ap⟩ := a
        split at h
        · rename_i hn
          cases eq_of_beq hn
          obtain ⟨e, h1, rfl⟩ := Option.map_eq_some_iff.mp h
          cases one_ok h1
          exact ⟨ap, cp, rfl, rfl⟩
        · cases h
      · cases h
    · cases h
  · cases h
theorem trAppend_ok {o e : Expr} {ap cp : Pos} {ms : S} (O : C.Ok) (ht : c.tab = C.tab) (h : trAppend c o e (ap.endLine == cp.line) = some ms) : SndS C (phi C) c (.Expr (.Call (.Attribute o "append" ap) [e] [] cp) p) ms := by
  unfold trAppend at h
  split at h
  · cases h
  · rename_i hc
    simp only [Bool.or_eq_true, not_or, Bool.not_eq_true, Bool.not_eq_true', Bool.not_eq_false] at hc
    simp only [Option.bind_eq_bind, Option.bind_eq_some_iff, Option.some.injEq] at h
    obtain ⟨mo, h1, me, h2, rfl⟩ := h
    intro env A m H s Q a hw
    exact append_ok hc.1.1 hc.1.2 (by simpa using hc.2) (trE_ok O deep c _ _ ht h1).1 (trE_ok O deep c _ _ ht h2).1 a hw
theorem trExprS_ok {v : Expr} {ms : S} (O : C.Ok) (ht : c.tab = C.tab) (h : trExprS c v = some ms) : SndS C (phi C) c (.Expr v p) ms := by
  unfold trExprS at h
  split at h
  · cases h
  · rename_i hc
    simp only [Option.bind_eq_bind, Option.bind_eq_some_iff, Option.some.injEq] at h
    obtain ⟨me, h1, rfl⟩ := h
    intro env A m H s Q a hw
    exact expr_ok (trE_ok O deep c _ me ht h1).1 (by simpa using hc) a hw
theorem trRet_ok {e : Option Expr} {ms : S} (O : C.Ok) (ht : c.tab = C.tab) (h : trRet c e = some ms) : SndS C (phi C) c (.Return e p) ms := by
  cases e with
  | none => cases h; intro env A m H s Q a hw; exact ret0_ok a hw
  | some e =>
    simp only [trRet, Option.bind_eq_bind, Option.bind_eq_some_iff, Option.some.injEq] at h
    obtain ⟨me, h1, rfl⟩ := h
    intro env A m H s Q a hw
    exact ret_ok (trE_ok O deep c _ me ht h1).1 a hw
theorem forZ2_get {x y : Str} {ob : Option (List S)} {as : List Expr} {ms : S} (h : forZ2 c x y ob as = some ms) : ∃ e1 e2 i j m1 m2 mb, as = [e1, e2] ∧ isStar e1 = false ∧ isStar e2 = false ∧ trName c x = some i ∧ trName c y = some j ∧ trE deep c e1 = some m1 ∧ trE deep c e2 = some m2 ∧ ob = some mb ∧ ms = .forz i j m1 m2 mb := by
  match as, h with
  | [], h => cases h
  | [_], h => cases h
  | _ :: _ :: _ :: _, h => cases h
  | [e1, e2], h =>
    replace h : (if isStar e1 || isStar e2 then none else do some (.forz (← trName c x) (← trName c y) (← trE deep c e1) (← trE deep c e2) (← ob)) : Option S) = some ms := h
    split at h
    case isTrue => cases h
    rename_i hs
    simp only [Bool.or_eq_true, not_or, Bool.not_eq_true] at hs
    simp only [Option.bind_eq_bind, Option.bind_eq_some_iff, Option.some.injEq] at h
    obtain ⟨i, h1, j, h2, m1, h3, m2, h4, mb, h5, rfl⟩ := h
    exact ⟨e1, e2, i, j, m1, m2, mb, rfl, hs.1, hs.2, h1, h2, h3, h4, h5, rfl⟩
theorem trForZ_ok {t iter : Expr} {b : List Stmt} {ob : Option (List S)} {ms : S} (O : C.Ok) (ht : c.tab = C.tab) (hB : ∀ mb, ob = some mb → SndSs C (phi C) c b mb) (h : trForZ c iter ob t = some ms) : SndS C (phi C) c (.For t iter b [] p) ms := by
  unfold trForZ at h
  split at h
  case h_2 => cases h
  rename_i es hes
  obtain ⟨kt, pt, rfl⟩ := tupZ_ok hes
  match es, h with
  | [], h => cases h
  | [_], h => cases h
  | _ :: _ :: _ :: _, h => cases h
  | [t1, t2], k9 =>
    replace k9 : (match nameOf t1, nameOf t2, callOf iter with
      | some x, some y, some z => if isNil z.kws && gName c z.f == some "zip" then forZ2 c x y ob z.args else none
      | _, _, _ => none) = some ms := k9
    split at k9
    case h_2 => cases k9
    rename_i x y z hx hy hz
    split at k9
    case isFalse => cases k9
    rename_i hb
    obtain ⟨b1, b2⟩ := Bool.and_eq_true_iff.mp hb
    obtain ⟨px, rfl⟩ := nameOf_ok hx
    obtain ⟨py, rfl⟩ := nameOf_ok hy
    cases callOf_ok hz
    obtain ⟨f, as, kws, pc⟩ := z
    dsimp only at *
    cases isNil_ok b1
    obtain ⟨pz, rfl, hg⟩ := gName_ok (eq_of_beq b2)
    obtain ⟨e1, e2, i, j, m1, m2, mb, rfl, hs1, hs2, h1, h2, h3, h4, h5, rfl⟩ := forZ2_get k9
    intro env A m H s Q a hw
    exact forz_ok O h1 h2 hg hs1 hs2 (trE_ok O deep c _ _ ht h3).1 (trE_ok O deep c _ _ ht h4).1 (hB _ h5) a hw
theorem trFor_ok {t iter : Expr} {b : List Stmt} {ob : Option (List S)} {ms : S} (O : C.Ok) (ht : c.tab = C.tab) (hB : ∀ mb, ob = some mb → SndSs C (phi C) c b mb) (h : trForS c iter ob t = some ms) : SndS C (phi C) c (.For t iter b [] p) ms := by
  unfold trForS at h
  split at h
  · rename_i x hx
    obtain ⟨px, rfl⟩ := nameOf_ok hx
    simp only [Option.bind_eq_bind, Option.bind_eq_some_iff, Option.some.injEq] at h
    obtain ⟨i, h0, src, h1, mb, h2, rfl⟩ := h
    obtain ⟨hsrc, hns⟩ := trSrc_ok O (fun e me h => (trE_ok O deep c e me ht h).1) h1
    intro env A m H s Q a hw
    exact for_ok h0 hsrc (hB _ h2) (folded_of hns) a hw
  · exact fun {env A m H s Q} a hw => trForZ_ok O ht hB h a hw
end
theorem trS_ok (O : C.Ok) : ∀ (n : Nat) (c : Ctx) (st : Stmt) (ms : S), c.tab = C.tab → trS n c st = some ms → SndS C (phi C) c st ms := by
  intro n
  induction n with
  | zero => intro c st ms _ h; cases h
  | succ n ih =>
    intro c st ms ht h
    have hT : ∀ e me, trE deep c e = some me → SndT C (phi C) c e me := fun e me h => (trE_ok O deep c e me ht h).2
    have hB : ∀ {sts : List Stmt} {mss : List S}, mapO (trS n c) sts = some mss → SndSs C (phi C) c sts mss := fun h => execs_ok (fun st ms h => ih c st ms ht h) h
    cases st with
    | Assign ts v p =>
      match ts, h with
      | [t], h => exact fun {env A m H s Q} a hw => trAssign_ok O ht h a hw
      | [], h => cases h
      | _ :: _ :: _, h => cases h
    | Delete ts p => exact fun {env A m H s Q} a hw => trDel_ok O ht h a hw
    | Expr v p =>
      replace h : (match appendOf v with | some x => trAppend c x.o x.e x.fit | none => trExprS c v) = some ms := h
      split at h
      · rename_i x ha
        obtain ⟨ap, cp, rfl, e1⟩ := appendOf_ok ha
        rw [e1] at h
        exact fun {env A m H s Q} a hw => trAppend_ok O ht h a hw
      · exact fun {env A m H s Q} a hw => trExprS_ok O ht h a hw
    | Return e p => exact fun {env A m H s Q} a hw => trRet_ok O ht h a hw
    | If t a b p =>
      replace h : (do some (.ite (← trE deep c t) (← mapO (trS n c) a) (← mapO (trS n c) b)) : Option S) = some ms := h
      simp only [Option.bind_eq_bind, Option.bind_eq_some_iff, Option.some.injEq] at h
      obtain ⟨mt, h1, ma, h2, mb, h3, rfl⟩ := h
      intro env A m H s Q a hw
      exact if_ok (hT _ _ h1) (hB h2) (hB h3) a hw
    | While t b e p =>
      cases e with
      | nil =>
        replace h : (do some (.whl (← trE deep c t) (← mapO (trS n c) b)) : Option S) = some ms := h
        simp only [Option.bind_eq_bind, Option.bind_eq_some_iff, Option.some.injEq] at h
        obtain ⟨mt, h1, ma, h2, rfl⟩ := h
        intro env A m H s Q a hw
        exact while_ok (hT _ _ h1) (hB h2) a hw
      | cons _ _ => cases h
    | For t iter b e p =>
      cases e with
      | nil => exact fun {env A m H s Q} a hw => trFor_ok O ht (fun mb h => hB h) h a hw
      | cons _ _ => cases h
    | Break p => cases h; intro env A m H s Q a hw; exact brk_ok a hw
    | Pass p => cases h; intro env A m H s Q a hw; exact pass_ok a hw
    | _ => cases h
end ML
namespace ML
open PySem PySem.W PySem.Calls PyProof.Rows PySem.SeqAt
variable {C : Cfg} {Φ : Orac} {c : Ctx} {H H' H'' H1 : Heap} {s s' s1 s2 : Shared} {h h' h'' : PHeap} {A : Around} {env : Env} {m m' : Loc}
theorem zip_lookup : ∀ {ns : List Str} {vs : List Value}, ns.Nodup → ns.length = vs.length → ns.filterMap (fun n => ((ns.zip vs).lookup n).map (n, ·)) = ns.zip vs := by
  have key : ∀ (ns : List Str) (vs : List Value) (pre : List (Str × Value)), ns.Nodup → ns.length = vs.length → (∀ n ∈ ns, pre.lookup n = none) → ns.filterMap (fun n => ((pre ++ ns.zip vs).lookup n).map (n, ·)) = ns.zip vs := by
    intro ns
    induction ns with
    | nil => intro vs pre _ _ _; rfl
    | cons n ns ih =>
      intro vs pre hn hl hp
      cases vs with
      | nil => cases hl
      | cons v vs =>
        rw [List.nodup_cons] at hn
        have e : (pre ++ (n :: ns).zip (v :: vs)).lookup n = some v := by
          rw [List.lookup_append, hp n (.head _)]
          simp [List.zip_cons_cons, List.lookup]
        rw [List.filterMap_cons, e]
        simp only [Option.map_some, List.zip_cons_cons]
        congr 1
        have := ih vs (pre ++ [(n, v)]) hn.2 (by simpa using hl) (fun k hk => by
          rw [List.lookup_append, hp k (.tail _ hk)]
          simp only [List.lookup, Option.none_or]
          have : (k == n) = false := beq_eq_false_iff_ne.mpr fun q => hn.1 (q ▸ hk)
          rw [this])
        simpa using this
  intro ns vs h1 h2
  simpa using key ns vs [] h1 h2 (fun _ _ => rfl)
theorem bind_ok {fd : FuncData} {vals : List Value} (h0 : fd.params.posonlyargs = []) (h1 : fd.params.vararg = none) (h2 : fd.params.kwonlyargs = []) (h3 : fd.params.kwarg = none) (hd : fd.defaults = .none)
    (hn : (fd.params.args.map (·.arg)).Nodup) (hl : vals.length = (fd.params.args.map (·.arg)).length) : bindArgs fd ⟨vals, []⟩ = pure ((fd.params.args.map (·.arg)).zip vals) := by
  obtain ⟨f1, f2, ⟨g1, g2, g3, g4, g5, g6, g7⟩, f4, f5, f6, f7, f8, f9, f10, f11⟩ := fd
  dsimp only at h0 h1 h2 h3 hd hn hl ⊢
  subst h0
  subst h1
  subst h2
  subst h3
  subst hd
  have z := zip_lookup hn hl.symm
  have hm : List.filter (fun n => (List.lookup n ((g2.map (·.arg)).zip vals)).isNone) (g2.map (·.arg)) = [] := by
    rw [List.filter_eq_nil_iff]
    intro n hmem
    rw [← List.map_fst_zip (l₁ := g2.map (·.arg)) (l₂ := vals) (by (first | lia | omega))] at hmem
    obtain ⟨⟨n', v⟩, hp, rfl⟩ := List.mem_map.mp hmem
    obtain ⟨b, hb⟩ := lookup_some hp
    rw [hb]; exact Bool.false_ne_true
  unfold bindArgs
  refine (if_neg ?_).trans ?_
  · show ¬ ((decide ((g2.map (·.arg)).length < vals.length) && true) = true)
    rw [hl, decide_eq_false (Nat.lt_irrefl _)]; exact Bool.false_ne_true
  refine (if_neg ?_).trans ?_
  · show ¬ ((!(List.filter (fun n => (List.lookup n ((g2.map (·.arg)).zip vals)).isNone) ((g2.map (·.arg)).take ((g2.map (·.arg)).length - (List.drop (0 - (g2.map (·.arg)).length) ([] : List Value)).length))).isEmpty) = true)
    rw [List.drop_nil, List.length_nil, Nat.sub_zero, List.take_length, hm]; exact Bool.false_ne_true
  have e : ((g2.map (·.arg)).drop ((g2.map (·.arg)).length - (List.drop (0 - (g2.map (·.arg)).length) ([] : List Value)).length)).zip (List.drop (0 - (g2.map (·.arg)).length) ([] : List Value)) = [] := by rw [List.drop_nil, List.zip_nil_right]
  refine (congrArg (fun l => forIn (m := Sem) l _ _ >>= _) e).trans ?_
  show (pure (List.filterMap (fun n => Option.map (fun x => (n, x)) (List.lookup n ((g2.map (·.arg)).zip vals))) (g2.map (·.arg) ++ [])) : Sem (List (Str × Value))) = _
  rw [List.append_nil, z]
theorem nodupB_ok : ∀ {l : List Str}, nodupB l = true → l.Nodup
  | [], _ => List.nodup_nil
  | x :: r, h => by
    simp only [nodupB, Bool.and_eq_true, Bool.not_eq_true', Bool.not_eq_eq_eq_not, Bool.not_true] at h
    rw [List.nodup_cons]
    exact ⟨fun q => by rw [List.contains_iff_mem.mpr q] at h; exact absurd h.1 (by decide), nodupB_ok h.2⟩
theorem bindL_out {K : Str → Option NameKind} : ∀ {binds : List (Str × Value)} {mm : Str → Option Value} {x : Str}, x ∉ binds.map (·.1) → bindL K binds mm x = mm x
  | [], _, _, _ => rfl
  | (n, v) :: r, mm, x, h => by
    simp only [List.map_cons, List.mem_cons, not_or] at h
    unfold bindL
    rw [bindL_out h.2]
    split
    · exact if_neg h.1
    · rfl
theorem bindC_out {K : Str → Option NameKind} : ∀ {binds : List (Str × Value)} {mm : Str → Option Value} {x : Str}, x ∉ binds.map (·.1) → bindC K binds mm x = mm x
  | [], _, _, _ => rfl
  | (n, v) :: r, mm, x, h => by
    simp only [List.map_cons, List.mem_cons, not_or] at h
    unfold bindC
    rw [bindC_out h.2]
    split
    · rfl
    · exact if_neg h.1
theorem bindL_at {K : Str → Option NameKind} {x : Str} {v : Value} (hk : K x = some .local) : ∀ {binds : List (Str × Value)} {mm : Str → Option Value}, (binds.map (·.1)).Nodup → (x, v) ∈ binds → bindL K binds mm x = some v
  | (n, w) :: r, mm, hn, h => by
    rw [List.map_cons, List.nodup_cons] at hn
    unfold bindL
    cases h with
    | head => rw [bindL_out hn.1, if_pos hk]; exact if_pos rfl
    | tail _ h => exact bindL_at hk hn.2 h
theorem bindC_at {K : Str → Option NameKind} {x : Str} {v : Value} (hk : K x ≠ some .local) : ∀ {binds : List (Str × Value)} {mm : Str → Option Value}, (binds.map (·.1)).Nodup → (x, v) ∈ binds → bindC K binds mm x = some v
  | (n, w) :: r, mm, hn, h => by
    rw [List.map_cons, List.nodup_cons] at hn
    unfold bindC
    cases h with
    | head => rw [bindC_out hn.1, if_neg hk]; exact if_pos rfl
    | tail _ h => exact bindC_at hk hn.2 h
theorem lookup_of_nodup {α : Type} : ∀ {l : List (Str × α)} {x : Str} {a : α}, (l.map (·.1)).Nodup → (x, a) ∈ l → l.lookup x = some a
  | (y, b) :: r, x, a, hn, h => by
    rw [List.map_cons, List.nodup_cons] at hn
    cases h with
    | head => simp [List.lookup]
    | tail _ h =>
      have : (x == y) = false := beq_eq_false_iff_ne.mpr fun q => hn.1 (q ▸ List.mem_map_of_mem (f := (·.1)) h)
      simp only [List.lookup, this]
      exact lookup_of_nodup hn.2 h
theorem zipIdx_lookup {l : List Str} (hn : l.Nodup) {x : Str} {i : Nat} : l.zipIdx.lookup x = some i ↔ l[i]? = some x := by
  constructor
  · intro h
    have := lookup_mem h
    rw [List.mem_zipIdx_iff_getElem?] at this
    exact this
  · intro h
    refine lookup_of_nodup (by rw [List.zipIdx_map_fst]; exact hn) ?_
    rw [List.mem_zipIdx_iff_getElem?]; exact h
theorem cellsFrom_has : ∀ {names : List (Str × NameKind)} {n : Nat} {acc : List (Str × Addr)} {x : Str}, ((x, NameKind.cell) ∈ names ∨ ∃ a, (x, a) ∈ acc) → ∃ a, (x, a) ∈ cellsFrom n names acc
  | [], _, _, _, h => by
    rcases h with h | h
    · cases h
    · exact h
  | (y, k) :: r, n, acc, x, h => by
    unfold cellsFrom
    split
    · refine cellsFrom_has ?_
      rcases h with h | ⟨a, h⟩
      · cases h with
        | head => exact .inr ⟨n, .head _⟩
        | tail _ h => exact .inl h
      · exact .inr ⟨a, .tail _ h⟩
    · rename_i hk
      refine cellsFrom_has ?_
      rcases h with h | h
      · cases h with
        | head => exact absurd (by rfl) hk
        | tail _ h => exact .inl h
      · exact .inr h
structure FShape (params : List Str) (sc : Scope) : Prop where
  nodup : (sc.names.map (·.1)).Nodup
  par : (ownNames sc.names).take params.length = params
  kind : sc.kind = .function
  gen : sc.isGenerator = false
  co : sc.isCoroutine = false
  free : ∀ p ∈ sc.names, p.2 ≠ .free
theorem fShape_ok {params : List Str} {sc : Scope} (h : fShape params sc = true) : FShape params sc := by
  unfold fShape at h
  simp only [Bool.and_eq_true, Bool.not_eq_true', Bool.not_eq_eq_eq_not, Bool.not_true, List.all_eq_true] at h
  refine absG fun Cg hCg => ?_
  obtain ⟨⟨⟨⟨⟨h1, h2⟩, h3⟩, h4⟩, h5⟩, h6⟩ := h
  refine hCg ?_; clear hCg
  exact ⟨nodupB_ok h1, eq_of_beq h2, by simpa using h3, h4, h5, fun p hp q => by have := h6 p hp; rw [q] at this; cases this⟩
theorem own_nodup {sc : Scope} (h : (sc.names.map (·.1)).Nodup) : (ownNames sc.names).Nodup := by
  unfold ownNames
  exact List.Nodup.sublist (List.Sublist.map _ List.filter_sublist) h
theorem own_mem {sc : Scope} {x : Str} (h : x ∈ ownNames sc.names) : (x, NameKind.local) ∈ sc.names ∨ (x, NameKind.cell) ∈ sc.names := by
  unfold ownNames at h
  refine absG fun Cg hCg => ?_
  obtain ⟨⟨y, k⟩, hp, rfl⟩ := List.mem_map.mp h
  refine hCg ?_; clear hCg
  rw [List.mem_filter] at hp
  simp only [Bool.or_eq_true, beq_iff_eq] at hp
  rcases hp.2 with q | q
  · exact .inl (q ▸ hp.1)
  · exact .inr (q ▸ hp.1)
theorem Ext.ofCall {h₁ : PHeap} (S : StH C H s) (hk : ∀ b o, s.heap.get? b = some o → h₁.get? b = some o) (x : ExtS env H h₁ H' h') (hL : s.heap.get? env.locals = none) (hC : ∀ y a, env.cells.lookup y = some a → s.heap.get? a = none) : Ext H s.heap H' h' := by
  have hid := hid_grow S hk
  have fp : ∀ b, Fp H h₁ b → Fp H s.heap b := fun b f => by
    rcases f with f | f | f
    · exact .inl f
    · exact .inr (.inl f)
    · exact .inr (.inr (hid _ f))
  have al : ∀ b, h₁.get? b = none → s.heap.get? b = none := fun b e => by
    cases q : s.heap.get? b with
    | none => rfl
    | some o => rw [hk _ _ q] at e; cases e
  exact ⟨fun b o e n => x.keep b o (hk _ _ e) (fun f => n (fp _ f)) (fun q => by rw [q, hL] at e; cases e) (fun y q => by rw [hC y b q] at e; cases e),
    fun b e => al _ (x.alive b e), fun b f => (x.fresh b f).imp (fp b) (al b), fun b o e => (x.dom b o e).imp id (al b)⟩
structure FnOk (C : Cfg) (f : Nat) (fa : Addr) (fd : FuncData) (body : List Stmt) (l : Nat) (fn : Fn) : Prop where
  obj : ∃ oc od osl, C.K.lookup fa = some ⟨oc, od, .func fd, osl⟩
  addr : C.fnA.lookup f = some fa
  lv : C.tab.lv.lookup f = some l
  bd : fd.body = .stmts body
  gl : fd.globals = mainGlobals
  bl : fd.builtins = builtinsNs
  clo : fd.closure = []
  dfl : fd.defaults = .none
  code : codeIn C.K fd.code fd.qualname = true
  p0 : fd.params.posonlyargs = []
  p1 : fd.params.vararg = none
  p2 : fd.params.kwonlyargs = []
  p3 : fd.params.kwarg = none
  tr : trF C.tab l (fd.params.args.map (·.arg)) fd.scope body = some fn
  gcode : l = C.tab.gtop → fd.code = .ref C.tab.gen
theorem call_fn {f : Nat} {fa : Addr} {fd : FuncData} {body : List Stmt} {l : Nat} {fn : Fn} {vs : List V} {Q : PV} (O : C.Ok) (F : FnOk C f fa fd body l fn) (hlen : vs.length = fn.np)
    (hw : wpSs (phi C) fn.body (fn.start vs) H (fun fl _ H' => ∃ H'', H''.le H' ∧ Q fl.val H'')) : phi C f vs H Q := by
  intro A s pvs l' fa' hl' hfa hh hd hu S r
  rw [F.lv] at hl'; cases hl'
  rw [F.addr] at hfa; cases hfa
  refine absG fun Cg hCg => ?_
  obtain ⟨oc, od, osl, hK⟩ := F.obj
  have X := S.X O
  have T := O.T.keeps S.base
  have htr := F.tr
  refine hCg ?_; clear hCg
  unfold trF at htr
  split at htr
  case isFalse => cases htr
  rename_i hsh
  have Sh := fShape_ok hsh
  split at htr
  case h_2 => cases htr
  rename_i b hb
  cases htr
  have hown := own_nodup Sh.nodup
  have hlen : vs.length = (fd.params.args.map (·.arg)).length := hlen
  generalize hps : fd.params.args.map (·.arg) = params at *
  have hple : params.length ≤ (ownNames fd.scope.names).length := by
    have := congrArg List.length Sh.par
    rw [List.length_take] at this; (first | lia | omega)
  have hpn : params.Nodup := by rw [← Sh.par]; exact List.Nodup.sublist (List.take_sublist _ _) hown
  have hvl : pvs.length = params.length := by rw [r.length]; exact hlen
  have hbind := bind_ok (fd := fd) (vals := pvs) F.p0 F.p1 F.p2 F.p3 F.dfl (by rw [hps]; exact hpn) (by rw [hps]; exact hvl)
  rw [hps] at hbind
  have hfst : (params.zip pvs).map (·.1) = params := List.map_fst_zip (by (first | lia | omega))
  have hcl : ∀ x, (x, NameKind.cell) ∈ fd.scope.names → ∃ a, (cellsFrom (s.heap.objs.size + 1) fd.scope.names []).lookup x = some a := fun x hx => by
    obtain ⟨a, ha⟩ := cellsFrom_has (n := s.heap.objs.size + 1) (acc := []) (.inl hx)
    exact lookup_some ha
  have hkind : ∀ x ∈ params.zip pvs, fd.scope.names.lookup x.1 = some .local ∨ (fd.scope.names.lookup x.1 = some .cell ∧ ((cellsFrom (s.heap.objs.size + 1) fd.scope.names []).lookup x.1).isSome = true) := by
    intro x hx
    have hx1 : x.1 ∈ params := by rw [← hfst]; exact List.mem_map_of_mem (f := (·.1)) hx
    have hx2 : x.1 ∈ ownNames fd.scope.names := by rw [← Sh.par] at hx1; exact List.mem_of_mem_take hx1
    rcases own_mem hx2 with q | q
    · exact .inl (lookup_of_nodup Sh.nodup q)
    · obtain ⟨a, ha⟩ := hcl _ q
      exact .inr ⟨lookup_of_nodup Sh.nodup q, by rw [ha]; rfl⟩
  refine codeAny_call_cells (fd := fd) (body := body) (by have : recursionLimit = 1000 := rfl; (first | lia | omega)) (X _ _ hK) rfl T.nolimit (codeRec_of X F.code) F.bd hbind F.clo hkind (fun s1 x => ?_) Sh.co Sh.gen Sh.kind
  generalize henv : callEnvC fd s.heap.objs.size fa = env at *
  have eL : env.locals = s.heap.objs.size := by rw [← henv]; rfl
  have eC : env.cells = cellsFrom (s.heap.objs.size + 1) fd.scope.names [] := by rw [← henv]; rfl
  have eS : env.scope = fd.scope := by rw [← henv]; rfl
  have eK : ∀ y, env.kindOf y = fd.scope.names.lookup y := fun y => by rw [← henv]; rfl
  refine absG fun Cg hCg => ?_
  obtain ⟨h₁, tk, es1, hk⟩ := x.done
  have hk : ∀ b o, s.heap.get? b = some o → s1.heap.get? b = some o := by rw [es1]; exact hk
  obtain ⟨S1, _⟩ := S.grow (s' := s1) hk (by rw [es1]) (by rw [es1])
  have zL : s.heap.get? env.locals = none := by rw [eL]; exact look_size _
  refine hCg ?_; clear hCg
  have zC : ∀ y a, env.cells.lookup y = some a → s.heap.get? a = none := fun y a e => by
    have := x.above y a (lookup_mem e)
    rw [eL] at this
    cases q : s.heap.get? a with
    | none => rfl
    | some o => exact absurd (Nat.lt_trans this (Heap.lt_size q)) (Nat.lt_irrefl _)
  have hid := hid_grow S hk
  have hnl : ∀ y i, (fCtx C.tab l fd.scope).ν.lookup y = some i ↔ (ownNames fd.scope.names)[i]? = some y := fun y i => zipIdx_lookup hown
  have hstart : ∀ (y : Str) (i : Nat) (ov : Option Value), (ownNames fd.scope.names)[i]? = some y → (∀ v, (y, v) ∈ params.zip pvs → ov = some v) → (y ∉ params → ov = none) → OptRep ov (((Fn.mk params.length (ownNames fd.scope.names).length b).start vs)[i]?.join) := by
    intro y i ov hy h1 h2
    have hlt : i < (ownNames fd.scope.names).length := by
      by_cases q : i < (ownNames fd.scope.names).length
      · exact q
      · rw [List.getElem?_eq_none (by (first | lia | omega))] at hy; cases hy
    unfold Fn.start
    by_cases q : i < params.length
    · have hpi : params[i]? = some y := by
        have e : params[i]? = ((ownNames fd.scope.names).take params.length)[i]? := by rw [Sh.par]
        rw [e, List.getElem?_take_of_lt q]; exact hy
      have hvi : vs[i]? = some (vs[i]'(by (first | lia | omega))) := List.getElem?_eq_getElem _
      refine absG fun Cg hCg => ?_
      obtain ⟨pv, e1, e2⟩ := r.get hvi
      refine hCg ?_; clear hCg
      have hmem : (y, pv) ∈ params.zip pvs := by
        rw [List.mem_iff_getElem?]
        exact ⟨i, by rw [List.getElem?_zip_eq_some]; exact ⟨hpi, e1⟩⟩
      rw [h1 pv hmem, List.getElem?_append_left (by rw [List.length_map]; (first | lia | omega)), List.getElem?_map, hvi]
      exact e2
    · have hnp : y ∉ params := fun hm => by
        rw [← Sh.par] at hm
        obtain ⟨j, hj⟩ := List.mem_iff_getElem?.mp hm
        rw [List.getElem?_take] at hj
        split at hj
        · rename_i hjl
          have := (List.getElem?_inj hlt hown).mp (hy.trans hj.symm)
          (first | lia | omega)
        · cases hj
      rw [h2 hnp, List.getElem?_append_right (by rw [List.length_map]; (first | lia | omega)), List.getElem?_replicate]
      split <;> trivial
  have a : At C (fCtx C.tab l fd.scope) env (A.deeper env) ((Fn.mk params.length (ownNames fd.scope.names).length b).start vs) H s1 := by
    refine ⟨⟨?_, ?_, ?_, fun y e => (eK y).trans e, fun y e => (eK y).trans e, fun y e => (eK y).trans e, fun y e => .inl ((eK y).trans e), fun y z i e1 e2 => ?_, fun y i e => ?_
      , fun q => by rw [← henv]; exact F.gcode q
      ⟩, ⟨hh, ?_, ?_⟩, S1,
      ⟨?_, ⟨_, x.toInCall.ns, fun y i e k => ?_⟩, fun y i e k => ?_, ?_, fun y d e => ?_, fun y z d e1 e2 => ?_⟩⟩
    · rw [← henv]; exact F.gl
    · rw [← henv]; exact F.bl
    · rw [eS]; exact Sh.kind
    · exact Option.some.inj (((hnl y i).mp e1).symm.trans ((hnl z i).mp e2))
    · have := (hnl y i).mp e
      show i < (ownNames fd.scope.names).length
      by_cases q : i < (ownNames fd.scope.names).length
      · exact q
      · rw [List.getElem?_eq_none (by (first | lia | omega))] at this; cases this
    · show (A.deeper env).depth + 4 * l ≤ 900
      rw [depth_deeper]; (first | lia | omega)
    · show (A.deeper env).units + 20 * l ≤ 9000
      rw [units_deeper]; (first | lia | omega)
    · unfold Fn.start
      rw [List.length_append, List.length_map, List.length_replicate]
      show _ = (ownNames fd.scope.names).length
      show vs.length + ((ownNames fd.scope.names).length - params.length) = _
      (first | lia | omega)
    · have hk' : env.kindOf y = some .local := (eK y).trans k
      exact hstart y i _ ((hnl y i).mp e) (fun v hm => bindL_at hk' (by rw [hfst]; exact hpn) hm) fun hn => bindL_out (by rw [hfst]; exact hn)
    · have hkc : fd.scope.names.lookup y = some .cell := by
        rcases k with k | k
        · exact k
        · exact absurd rfl (Sh.free _ (lookup_mem k))
      obtain ⟨ca, hca⟩ := hcl y (lookup_mem hkc)
      have hca' : env.cells.lookup y = some ca := by rw [eC]; exact hca
      have hk' : env.kindOf y ≠ some .local := by rw [eK, hkc]; decide
      exact ⟨ca, _, hca', x.cell y ca hca', hstart y i _ ((hnl y i).mp e) (fun v hm => bindC_at hk' (by rw [hfst]; exact hpn) hm) fun hn => bindC_out (by rw [hfst]; exact hn)⟩
    · have ap := (Apart.fresh S zL).hidMono hid
      exact ⟨ap.at_, ap.hid, ap.base⟩
    · have ap := (Apart.fresh S (zC y d e)).hidMono hid
      refine absG fun Cg hCg => ?_
      obtain ⟨o, ho, _⟩ := x.cell y d e
      refine hCg ?_; clear hCg
      exact ⟨ap.at_, ap.hid, ap.base, fun q => absurd (x.above y d (lookup_mem e)) (by rw [q]; exact Nat.lt_irrefl _), o, ho⟩
    · exact name_of_addr x.apart (lookup_mem e1) (lookup_mem e2)
  have hb' : SndSs C (phi C) (fCtx C.tab l fd.scope) body b := execs_ok (fun st ms h => trS_ok O deep _ st ms rfl h) hb
  refine wpAny_mono (hb' a hw) (fun fl s2 z => ?_) fun _ _ f => f.elim
  refine absG fun Cg hCg => ?_
  obtain ⟨mfl, m2, H2, rf, S2, N2, x2, H3, l3, q⟩ := z
  have xx := (Ext.ofCall S hk x2 zL zC).forget l3
  refine hCg ?_; clear hCg
  refine ⟨_, rfl, mfl.val, H3, ?_, S2.forget l3, xx, q⟩
  cases fl <;> cases mfl <;> first | exact rf.elim | exact trivial | exact rf
end ML
namespace ML
open PySem PySem.W PySem.Calls PyProof.Rows PySem.SeqAt
noncomputable def isNoneV : Value → Bool
  | .none => true
  | _ => false
noncomputable def fdOk (K : Frag) (fd : FuncData) : Bool :=
  fd.globals == mainGlobals && fd.builtins == builtinsNs && fd.closure.isEmpty && isNoneV fd.defaults && codeIn K fd.code fd.qualname && fd.params.posonlyargs.isEmpty && fd.params.vararg.isNone && fd.params.kwonlyargs.isEmpty && fd.params.kwarg.isNone
noncomputable def fdGet (K : Frag) (tab : Tab) (l : Nat) (fd : FuncData) : Option Fn := match fd.body with
  | .stmts body => if fdOk K fd && (l != tab.gtop || fd.code == .ref tab.gen) then trF tab l (fd.params.args.map (·.arg)) fd.scope body else none
  | _ => none
noncomputable def objGet (K : Frag) (tab : Tab) (l : Nat) : Option Obj → Option Fn
  | some ⟨_, _, .func fd, _⟩ => fdGet K tab l fd
  | _ => none
noncomputable def fnGet (K : Frag) (tab : Tab) (fnA : List (Nat × Addr)) (f : Nat) : Option Fn :=
  match fnA.lookup f with
  | none => none
  | some fa => match tab.lv.lookup f with
    | some l => objGet K tab l (K.lookup fa)
    | none => none
theorem fnGet_ok {C : Cfg} {f : Nat} {fn : Fn} (h : fnGet C.K C.tab C.fnA f = some fn) : ∃ fa fd body l, FnOk C f fa fd body l fn := by
  unfold fnGet at h
  split at h
  · cases h
  rename_i fa hfa
  split at h
  case h_2 => cases h
  rename_i l hl
  unfold objGet at h
  split at h
  case h_2 => cases h
  rename_i oc od fd osl hK
  unfold fdGet at h
  split at h
  case h_2 => cases h
  rename_i body hb
  split at h
  case isFalse => cases h
  rename_i hc
  obtain ⟨hc, hgc⟩ := Bool.and_eq_true_iff.mp hc
  unfold fdOk at hc
  simp only [Bool.and_eq_true] at hc
  obtain ⟨⟨⟨⟨⟨⟨⟨⟨c1, c2⟩, c3⟩, c4⟩, c5⟩, c6⟩, c7⟩, c8⟩, c9⟩ := hc
  refine ⟨fa, fd, body, l, ⟨oc, od, osl, hK⟩, hfa, hl, hb, eq_of_beq c1, eq_of_beq c2, List.isEmpty_iff.mp c3, ?_, c5, List.isEmpty_iff.mp c6, Option.isNone_iff_eq_none.mp c7, List.isEmpty_iff.mp c8, Option.isNone_iff_eq_none.mp c9, h
    , fun q => by rcases Bool.or_eq_true_iff.mp hgc with z | z; (rw [q] at z; simp at z); exact eq_of_beq z
    ⟩
  cases hq : fd.defaults <;> first | rfl | (rw [hq] at c4; cases c4)
noncomputable def sysOf {C : Cfg} (O : C.Ok) : Sys (fnGet C.K C.tab C.fnA) where
  Φ := phi C
  call h hl hw := let ⟨_, _, _, _, F⟩ := fnGet_ok h; call_fn O F hl hw
noncomputable def refOf : Option (Option Value) → Option Addr
  | some (some (.ref a)) => some a
  | _ => none
noncomputable def mkCls (K : Frag) (tab : Tab) : List (Nat × Addr) := tab.cls.filterMap fun p => (refOf (nsIn K mainGlobals p.1)).map (p.2, ·)
noncomputable def mkFns (K : Frag) (tab : Tab) (clsA : List (Nat × Addr)) : List (Nat × Addr) :=
  (tab.fns.filterMap fun p => (refOf (nsIn K mainGlobals p.1)).map (p.2, ·)) ++
  (tab.mts.filterMap fun p => (clsA.lookup (methCls p.2)).bind fun Ca => (refOf (findIn K (.ref Ca) p.1)).map (p.2, ·)) ++
  (clsA.filterMap fun p => (refOf (findIn K (.ref p.2) "__init__")).map (p.1, ·))
noncomputable def clsB (K : Frag) (Ca : Addr) : Bool :=
  findIn K (.ref Ca) "__getattribute__" == some (some (.builtin "object.__getattribute__")) && findIn K (.ref Ca) "__getattr__" == some none && findIn K (.ref Ca) "__setattr__" == some (some (.builtin "object.__setattr__")) &&
  (clsIn K Ca).any (·.hasDict) && coreAts.all (fun p => findIn K (.ref Ca) p.1 == some none) && plainOver K Ca && makesIn K Ca
noncomputable def modB : Option Obj → Bool
  | some ⟨.type "module", some d, .plain, _⟩ => d == builtinsNs
  | _ => false
theorem modB_ok {o : Option Obj} (h : modB o = true) : ∃ ob, o = some ob ∧ ob.cls = .type "module" ∧ ob.dict = some builtinsNs ∧ ob.data = .plain := by
  unfold modB at h
  split at h
  · exact ⟨_, rfl, rfl, congrArg some (eq_of_beq h), rfl⟩
  · cases h
noncomputable def bmB (K : Frag) : Bool := match refOf (nsIn K mainGlobals "__builtins__") with
  | some bm => bm != builtinsNs && modB (K.lookup bm)
  | none => false
theorem refOf_is {x : Option (Option Value)} {a : Addr} (h : refOf x = some a) : x = some (some (.ref a)) := by
  unfold refOf at h
  split at h
  · cases h; rfl
  · cases h
theorem bmB_ok {C : Cfg} (h : bmB C.K = true) : BmOk C := by
  unfold bmB at h
  split at h
  · rename_i bm e
    obtain ⟨h1, h2⟩ := Bool.and_eq_true_iff.mp h
    obtain ⟨ob, e1, e2, e3, e4⟩ := modB_ok h2
    exact ⟨bm, ob, refOf_is e, by simpa using h1, e1, e2, e3, e4⟩
  · cases h
noncomputable def cfgB (K : Frag) (tab : Tab) (fnA clsA : List (Nat × Addr)) : Bool :=
  bltNames.all (fun x => nsIn K mainGlobals x == some none) &&
  (tab.fns.lookup ("__debug__" : Str)).isNone && (tab.cls.lookup ("__debug__" : Str)).isNone &&
  tab.cls.all (fun p => (clsA.lookup p.2).isSome) &&
  clsA.all (fun p => clsB K p.2) &&
  fnA.all (fun p => fnIn K p.2) &&
  tab.fns.all (fun p => match fnA.lookup p.2 with | some fa => nsIn K mainGlobals p.1 == some (some (.ref fa)) | none => true) &&
  tab.mts.all (fun p => match fnA.lookup p.2, clsA.lookup (methCls p.2) with
    | some fa, some Ca => findIn K (.ref Ca) p.1 == some (some (.ref fa)) && typeIn K (.ref fa) == some (.type "function") && (coreAts.lookup p.1).isNone
    | _, _ => true) &&
  tab.cls.all (fun p => match clsA.lookup p.2 with | some Ca => nsIn K mainGlobals p.1 == some (some (.ref Ca)) | none => true) &&
  clsA.all (fun p => match fnA.lookup p.1 with | some fa => findIn K (.ref p.2) "__init__" == some (some (.ref fa)) && typeIn K (.ref fa) == some (.type "function") | none => true) &&
  tab.lv.all (fun p => (fnA.lookup p.1).isSome)
  && bmB K
theorem lookupN_mem {α : Type} : ∀ {l : List (Nat × α)} {x : Nat} {a : α}, l.lookup x = some a → (x, a) ∈ l
  | (y, b) :: r, x, a, h => by
    simp only [List.lookup] at h
    split at h
    · rename_i q; cases h; rw [beq_iff_eq.mp q]; exact .head _
    · exact .tail _ (lookupN_mem h)
structure Base (C : Cfg) : Prop where
  X : C.K.In C.h₀
  T : TopRead C.p C.loose C.mg C.mb C.h₀
  ats : C.tab.ats = coreAts
  sts : C.tab.sts = coreStrs
theorem cfg_ok {C : Cfg} (B : Base C) (h : cfgB C.K C.tab C.fnA C.clsA = true) : C.Ok := by
  unfold cfgB at h
  simp only [Bool.and_eq_true, List.all_eq_true] at h
  obtain ⟨h, b13⟩ := h
  obtain ⟨⟨⟨⟨⟨⟨⟨⟨⟨⟨b1, b2⟩, b3⟩, b4⟩, b5⟩, b6⟩, b7⟩, b8⟩, b9⟩, b10⟩, b11⟩ := h
  refine ⟨fun x hx => eq_of_beq (b1 x hx), ⟨Option.isNone_iff_eq_none.mp b2, Option.isNone_iff_eq_none.mp b3⟩, B.ats, fun x ci e => Option.isSome_iff_exists.mp (b4 _ (lookup_mem e)), B.sts, B.X, B.T, fun ci Ca e => ?_,
    fun f fa e => b6 _ (lookupN_mem e), fun x f fa e1 e2 => ?_, fun x f fa Ca e1 e2 e3 => ?_, fun x ci Ca e1 e2 => ?_, fun ci Ca fa e1 e2 => ?_, fun f l e => Option.isSome_iff_exists.mp (b11 _ (lookupN_mem e))
    , bmB_ok b13
    ⟩
  · have := b5 _ (lookupN_mem e)
    unfold clsB at this
    simp only [Bool.and_eq_true, List.all_eq_true] at this
    obtain ⟨⟨⟨⟨⟨⟨c1, c2⟩, c3⟩, c4⟩, c5⟩, c6⟩, c7⟩ := this
    exact ⟨eq_of_beq c1, eq_of_beq c2, eq_of_beq c3, c4, fun i x hx => eq_of_beq (c5 _ hx.mem), c6, c7⟩
  · have := b7 _ (lookup_mem e1)
    dsimp only at this
    rw [e2] at this
    exact eq_of_beq this
  · have := b8 _ (lookup_mem e1)
    dsimp only at this
    rw [e2, e3] at this
    simp only [Bool.and_eq_true] at this
    exact ⟨eq_of_beq this.1.1, eq_of_beq this.1.2, Option.isNone_iff_eq_none.mp this.2⟩
  · have := b9 _ (lookup_mem e1)
    dsimp only at this
    rw [e2] at this
    exact eq_of_beq this
  · have := b10 _ (lookupN_mem e1)
    dsimp only at this
    rw [e2] at this
    simp only [Bool.and_eq_true] at this
    exact ⟨eq_of_beq this.1, eq_of_beq this.2⟩
noncomputable def fdCode : Option Obj → Nat
  | some ⟨_, _, .func fd, _⟩ => (match fd.code with | .ref c => c | _ => 0)
  | _ => 0
noncomputable def genOfK (K : Frag) (helpers : List (Str × Nat × Nat)) : Nat := match helpers.find? (fun h => h.2.2 == 15) with
  | some h => (match refOf (nsIn K mainGlobals h.1) with | some fa => fdCode (K.lookup fa) | none => 0)
  | none => 0
noncomputable def rowTab (K : Frag) (helpers : List (Str × Nat × Nat)) : Tab :=
  let t := mkTab helpers
  let A := mkFns K t (mkCls K t)
  let t := { t with gen := genOfK K helpers }
  { t with cls := t.cls.filter (fun p => (refOf (nsIn K mainGlobals p.1)).isSome), lv := t.lv.filter fun p => (A.lookup p.1).isSome }
end ML
namespace ML
open PySem PySem.W PySem.Calls PyProof.Rows PySem.SeqAt
noncomputable def hole (h : PHeap) (P : Addr) : PHeap := h.update P fun o => { o with data := .freed }
theorem hole_ne {h : PHeap} {P b : Addr} (n : b ≠ P) : (hole h P).get? b = h.get? b := Heap.get?_update_ne h b P _ n
theorem hole_at {h : PHeap} {P : Addr} : (hole h P).get? P = none := by
  cases h with
  | mk objs l =>
    show (match (objs.modify P fun o => { o with data := .freed })[P]? with | some ⟨_, _, .freed, _⟩ => none | o => o) = none
    rw [Array.getElem?_modify]
    simp only [if_true]
    cases objs[P]? with
    | none => rfl
    | some o => rfl
theorem hole_some {h : PHeap} {P b : Addr} {o : Obj} (e : (hole h P).get? b = some o) : b ≠ P ∧ h.get? b = some o := by
  have n : b ≠ P := fun q => by rw [q, hole_at] at e; cases e
  exact ⟨n, by rw [← hole_ne n]; exact e⟩
theorem ns_hole {h : PHeap} {P a : Addr} {mm : Str → Option Value} {ps : Array Value} (hn : h.Ns a mm) (hp : h.get? P = some { cls := .none, data := .fields ps }) : (hole h P).Ns a mm := by
  obtain ⟨o, es, ep, ho, hd, r⟩ := hn
  refine ⟨o, es, ep, ?_, hd, r⟩
  rw [hole_ne fun q => by rw [q, hp] at ho; cases ho; cases hd]
  exact ho
theorem top_hole {h : PHeap} {P : Addr} {p : Program} {loose : List Str} {mg mb : Str → Option Value} {ps : Array Value} (T : TopRead p loose mg mb h) (hp : h.get? P = some { cls := .none, data := .fields ps }) : TopRead p loose mg mb (hole h P) :=
  ⟨ns_hole T.g hp, ns_hole T.b hp, let ⟨mc, h1, h2⟩ := T.nolimit; ⟨mc, ns_hole h1 hp, h2⟩, T.builtins, T.free⟩
noncomputable def noKey (K : Frag) (P : Addr) : Frag := K.filter fun p => p.1 != P
theorem noKey_look {P : Addr} : ∀ {K : Frag} {a : Addr} {o : Obj}, (noKey K P).lookup a = some o → a ≠ P ∧ K.lookup a = some o
  | [], _, _, h => by cases h
  | (b, x) :: r, a, o, h => by
    unfold noKey at h
    by_cases q : b = P
    · rw [List.filter_cons_of_neg (by simpa using q)] at h
      obtain ⟨h1, h2⟩ := noKey_look (K := r) h
      refine ⟨h1, ?_⟩
      have : (a == b) = false := beq_eq_false_iff_ne.mpr fun z => h1 (z.trans q)
      rw [List.lookup_cons, this]; exact h2
    · rw [List.filter_cons_of_pos (by simpa using q), List.lookup_cons] at h
      rw [List.lookup_cons]
      split at h
      · rename_i z
        have : a = b := by simpa using z
        exact ⟨this ▸ q, h⟩
      · rename_i z
        have h' := noKey_look (K := r) h
        exact ⟨h'.1, h'.2⟩
theorem noKey_in {K : Frag} {h : PHeap} {P : Addr} (X : K.In h) : (noKey K P).In (hole h P) := fun a o e => by
  obtain ⟨n, e⟩ := noKey_look e
  rw [hole_ne n]; exact X _ _ e
noncomputable def emptyTab : Option Obj → Bool
  | some ⟨.none, none, .fields fs, sl⟩ => fs.toList.isEmpty && sl.toList.isEmpty
  | _ => false
theorem emptyTab_ok {o : Option Obj} (h : emptyTab o = true) : o = some { cls := .none, data := .fields #[] } := by
  unfold emptyTab at h
  split at h
  · rename_i fs sl
    obtain ⟨h1, h2⟩ := Bool.and_eq_true_iff.mp h
    obtain ⟨fl⟩ := fs
    obtain ⟨ll⟩ := sl
    cases List.isEmpty_iff.mp h1
    cases List.isEmpty_iff.mp h2
    rfl
  · cases h
noncomputable def fieldsOk (vs : Array Value) (P : Addr) : Bool := (match (vs[11]? : Option Value) with | some (.ref Q) => Q == P | _ => false) && (match vs.getD 11 .none with | .ref Q => Q == P | _ => false) && (match vs.getD 18 .none with | .str _ _ => true | _ => false) && (match vs.getD 7 .none with | .int _ _ => true | _ => false) && (match vs.getD 9 .none with | .bool _ => true | _ => false) && (match vs.getD 10 .none with | .int _ _ => true | _ => false)
noncomputable def headOk (P : Addr) : Option Obj → Bool
  | some ⟨.type "code", _, .fields vs, _⟩ => fieldsOk vs P
  | _ => false
noncomputable def tabB (K : Frag) (c P : Addr) : Bool := headOk P (K.lookup c) && emptyTab (K.lookup P) && c != P
theorem head_ok {C : Cfg} {P : Addr} {o : Option Obj} (e : ∀ ob, o = some ob → C.h₀.get? C.tab.gen = some ob) (h : headOk P o = true) : CodeHead C P := by
  unfold headOk at h
  split at h
  · rename_i d vs sl
    unfold fieldsOk at h
    simp only [Bool.and_eq_true] at h
    obtain ⟨⟨⟨⟨⟨h1, h2⟩, h3⟩, h4⟩, h5⟩, h6⟩ := h
    split at h1
    · rename_i Q e1
      cases eq_of_beq h1
      split at h2
      · rename_i Q e2
        cases eq_of_beq h2
        split at h3
        · rename_i file tf e3
          split at h4
          · rename_i fl tg e4
            split at h5
            · rename_i b e5
              split at h6
              · rename_i tx tt e6
                exact ⟨_, vs, file, tf, fl, tg, b, tx, tt, e _ rfl, rfl, rfl, e1, e2, e3, e4, e5, e6⟩
              · cases h6
            · cases h5
          · cases h4
        · cases h3
      · cases h2
    · cases h1
  · cases h
noncomputable def tabOf (K : Frag) (c : Addr) : Addr := match K.lookup c with
  | some ⟨_, _, .fields vs, _⟩ => (match vs.getD 11 .none with | .ref P => P | _ => 0)
  | _ => 0
noncomputable def H0 (a P : Nat) (ns : List Int) : Heap := fun b => if b = a then some (.ro (ns.map V.int)) else if b = P then some (.dict []) else none
theorem ints_rep {vs : List Value} {ns : List Int} (h : IntsAre vs ns) : All2 RepV vs (ns.map V.int) := by
  induction h with
  | nil => exact .nil
  | cons n t _ ih => exact .cons rfl ih
theorem st0 {C : Cfg} {s : Shared} {a P : Addr} {vs : List Value} {ns : List Int} (hh : C.h₀ = hole s.heap P) (ho : C.os = s.os) (hg : s.gens = #[]) (hl : s.heap.IsList a vs.toArray) (hi : IntsAre vs ns) (hn : ns.length ≤ 63) (hc : CodeHead C P) (hcn : C.tab.gen ≠ P) (hp : s.heap.get? P = some { cls := .none, data := .fields #[] }) : StH C (H0 a P ns) s := by
  have cs : ∀ b o, H0 a P ns b = some o → (b = a ∧ o = .ro (ns.map V.int)) ∨ (b = P ∧ o = .dict []) := fun b o e => by
    unfold H0 at e
    split at e
    · rename_i q; cases e; exact .inl ⟨q, rfl⟩
    · split at e
      · rename_i q; cases e; exact .inr ⟨q, rfl⟩
      · cases e
  have r := ints_rep hi
  have ni : ∀ b c fs, H0 a P ns b = some (.inst c fs) → False := fun b c fs e => by rcases cs _ _ e with ⟨_, q⟩ | ⟨_, q⟩ <;> cases q
  have nh : ∀ b, ¬ Hid (H0 a P ns) s.heap b := fun b ⟨d, c, fs, o, e, _⟩ => ni _ _ _ e
  refine ⟨fun b o e => by rw [hh] at e; exact (hole_some e).2, fun b o e => ?_, fun b f => ?_, fun b x => absurd x (nh b), fun b _ c fs _ _ _ _ _ e => (ni _ _ _ e).elim, AllBare.of_eq hg, ho.symm⟩
  · rcases cs _ _ e with ⟨rfl, rfl⟩ | ⟨rfl, rfl⟩
    · exact ⟨vs, hl, r, by rw [r.length, List.length_map]; (first | lia | omega)⟩
    · exact ⟨rfl, hc, hcn, #[], hp, trivial⟩
  · rcases f with ⟨x, f⟩ | ⟨x, f⟩ | f
    · rcases cs _ _ f with ⟨_, q⟩ | ⟨_, q⟩ <;> cases q
    · rcases cs _ _ f with ⟨_, q⟩ | ⟨q, _⟩
      · cases q
      · rw [q, hh]; exact hole_at
    · exact absurd f (nh b)
theorem row_start {C : Cfg} {A : Around} {s : Shared} {a fa P : Addr} {vs : List Value} {ns : List Int} {f l : Nat} (O : C.Ok) (hh : C.h₀ = hole s.heap P) (ho : C.os = s.os) (hg : s.gens = #[]) (hl : s.heap.IsList a vs.toArray) (hi : IntsAre vs ns) (hn : ns.length ≤ 63) (hc : CodeHead C P) (hcn : C.tab.gen ≠ P) (hp : s.heap.get? P = some { cls := .none, data := .fields #[] })
    (hf : C.fnA.lookup f = some fa) (hlv : C.tab.lv.lookup f = some l) (ha : A.handled = none) (hd : A.depth + 4 * l + 3 ≤ 900) (hu : A.units + 20 * l + 10 ≤ 9000)
    (hlaw : (sysOf O).Φ f [.ref a] (H0 a P ns) (fun v G => v = .bool true ∧ G P = some (.dict []))) :
    codeAny C.M A (.call (.ref fa) ⟨[.ref a], []⟩) (fun r s' => r = .ok (.ret (.bool true)) ∧ OldK s.heap s'.heap ∧ s'.os = s.os ∧ AllBare s'.gens) s := by
  have S := st0 hh ho hg hl hi hn hc hcn hp
  refine codeAny_mono (hlaw A s [.ref a] l fa hlv hf ha hd hu S (.cons rfl .nil)) fun r s' z => ?_
  obtain ⟨v, rfl, mv, H', rv, S', x', rfl, hP⟩ := z
  cases rv.bool
  obtain ⟨_, _, _, ps, hps, _⟩ := S'.rep _ _ hP
  have keep : ∀ b o, b ≠ P → s.heap.get? b = some o → s'.heap.get? b = some o := fun b o n e => x'.keep b o e fun f => by
    have := S.own b f
    rw [hh, hole_ne n, e] at this; cases this
  refine ⟨rfl, ⟨fun b o e => ?_, fun b o e => ?_⟩, S'.os.trans ho, S'.gens⟩
  · by_cases q : b = P
    · subst q
      rw [hp] at e; cases e
      obtain ⟨oc, vc, _, _, _, _, _, _, _, e1, e2, e3, e4, _⟩ := hc
      rw [hh] at e1
      exact .inr (.inl ⟨⟨_, oc, vc, (hole_some e1).2, e2, e3, e4⟩, rfl, #[], ps, rfl, by rw [hps]; simp⟩)
    · exact .inl (keep b o q e)
  · by_cases q : b = P
    · exact ⟨_, q ▸ hps⟩
    · exact ⟨o, keep b o q e⟩
theorem row_end {prog : Program} {w : World} {K : Frag} {p : Program} {loose : List Str} {mg mb : Str → Option Value} {s : Shared} {a fa P : Addr} {vs : List Value} {ns : List Int} {tab : Tab} {fnA clsA : List (Nat × Addr)} {f l : Nat}
    (KX : K.In s.heap) (T : TopRead p loose mg mb s.heap) (hmg : mg "law" = some (.ref fa)) (hg : s.gens = #[]) (hl : s.heap.IsList a vs.toArray) (hi : IntsAre vs ns) (hn : ¬ ((63 : Nat) : Int) < (ns.length : Nat))
    (hB : tabB K tab.gen P = true)
    (ha : tab.ats = coreAts) (hs : tab.sts = coreStrs) (hchk : cfgB (noKey K P) tab fnA clsA = true) (hat : nsIn (noKey K P) mainGlobals "law" = some ((fnA.lookup f).map Value.ref)) (hlv : tab.lv.lookup f = some l) (hlt : l ≤ 20)
    (hlaw : P ≠ a → ∀ S : Sys (fnGet (noKey K P) tab fnA), S.Φ f [.ref a] (H0 a P ns) (fun v G => v = .bool true ∧ G P = some (.dict []))) :
    codeAny (model prog w) callerA (.call (.ref fa) ⟨[.ref a], []⟩) (fun r s' => r = .ok (.ret (.bool true)) ∧ OldK s.heap s'.heap ∧ s'.os = s.os ∧ AllBare s'.gens) s := by
  unfold tabB at hB
  simp only [Bool.and_eq_true] at hB
  obtain ⟨⟨h1, h2⟩, h3⟩ := hB
  have hp : s.heap.get? P = some { cls := .none, data := .fields #[] } := KX _ _ (emptyTab_ok h2)
  have hne : tab.gen ≠ P := by simpa using h3
  have hap : P ≠ a := fun q => by
    obtain ⟨o, e1, e2, _⟩ := hl
    rw [← q, hp] at e1; cases e1; cases e2
  let C : Cfg := ⟨prog, w, noKey K P, hole s.heap P, p, loose, mg, mb, s.os, tab, fnA, clsA⟩
  have KH : (noKey K P).In (hole s.heap P) := noKey_in KX
  have TH : TopRead p loose mg mb (hole s.heap P) := top_hole T hp
  have O : C.Ok := cfg_ok ⟨KH, TH, ha, hs⟩ hchk
  have hc : CodeHead C P := head_ok (C := C) (fun ob e => (hole_ne hne).trans (KX _ _ e)) h1
  have hfa : fnA.lookup f = some fa := by
    cases q : fnA.lookup f with
    | none =>
      rw [q] at hat
      have := mg_none_of KH TH.g hat
      rw [hmg] at this; cases this
    | some b =>
      rw [q] at hat
      have := mg_of KH TH.g (v := .ref b) hat
      rw [hmg] at this; cases this; rfl
  exact row_start (C := C) O rfl rfl hg hl hi (by (first | lia | omega)) hc hne hp hfa hlv rfl (by show 1 + claimMargin + 4 * l + 3 ≤ 900; have : claimMargin = 300 := rfl; (first | lia | omega)) (by show 4 + 20 * l + 10 ≤ 9000; (first | lia | omega)) (hlaw hap (sysOf O))
end ML
namespace ML
open PySem PySem.W PyProof.Rows
noncomputable abbrev boot0 (w : World) (os : OsState) : Shared := ⟨boot_heap w.params, Array.mk [], boot_drawn, boot_toks, os⟩
noncomputable def osOf (p : Program) (N : Nat) (w : World) : OsState := ((fencedOpening treeTable p w N).map (·.os)).getD default
noncomputable def stAt (p : Program) (N : Nat) (w : World) : Option Shared := topFrom treeTable p w N (boot0 w (osOf p N w))
noncomputable def fragFor (h : PySem.Heap) (as : List Addr) : Frag := as.filterMap fun a => (h.get? a).map fun o => (a, o)
noncomputable def fragAt (h : PySem.Heap) : Frag := fragFor h (List.range h.objs.size)
theorem fragFor_in {h : PySem.Heap} : ∀ {as : List Addr}, (fragFor h as).In h
  | [], a, o, e => by cases e
  | b :: r, a, o, e => by
    unfold fragFor at e
    rw [List.filterMap_cons] at e
    cases q : h.get? b with
    | none => rw [q] at e; exact fragFor_in (as := r) a o e
    | some o' =>
      rw [q] at e
      replace e : List.lookup a ((b, o') :: fragFor h r) = some o := e
      rw [List.lookup_cons] at e
      split at e
      · rename_i q'
        have : a = b := by simpa using q'
        subst this
        rw [q]; exact e
      · exact fragFor_in (as := r) a o e
theorem frag_in {h : PySem.Heap} : (fragAt h).In h := fragFor_in
noncomputable def KAt (p : Program) (N : Nat) (w : World) : Frag := match stAt p N w with
  | some s => fragAt s.heap
  | none => []
theorem bootNs (P : Params) : (boot_heap P).isNs mainGlobals = true := by kernel_rfl
theorem run_of {p q : Program} {loose : List Str} {Xt : Shared → Bool} {N : Nat} {α : Type} {F : Frag → α} {G : α} {w : World} {os : OsState}
    (h : (topRun treeTable p w (boot_heap w.params).objs.size ((boot_heap w.params).nsMap mainGlobals "__annotations__") N (boot0 w os) (topStub p)).map (fun s =>
      ((staticsOk (importedModules p.main.body) (boot_heap w.params) s.heap && namesBound p s.heap && gensDone s && laidKept (boot_heap w.params) s.heap), openSeen q loose (importedModules p.main.body) Xt true s, F (fragAt s.heap))) = some (true, openGood q loose, G)) :
    ∃ s, topFrom treeTable p w N (boot0 w os) = some s ∧ openSeen q loose (importedModules p.main.body) Xt true s = openGood q loose ∧ F (fragAt s.heap) = G := by
  obtain ⟨s, h1, h2⟩ := Option.map_eq_some_iff.mp h
  obtain ⟨a, h2⟩ := Prod.mk.inj h2
  obtain ⟨b, c⟩ := Prod.mk.inj h2
  refine ⟨s, ?_, b, c⟩
  unfold topFrom
  have e : ((boot0 w os).heap.isNs mainGlobals && (boot0 w os).gens.size == 0) = true := by
    rw [show (boot0 w os).heap.isNs mainGlobals = true from bootNs w.params]; rfl
  rw [e]
  show (topRun treeTable p w (boot_heap w.params).objs.size ((boot_heap w.params).nsMap mainGlobals "__annotations__") N (boot0 w os) (topStub p)).bind _ = _
  rw [h1]
  show (match staticsOk (importedModules p.main.body) (boot_heap w.params) s.heap && namesBound p s.heap && gensDone s && laidKept (boot_heap w.params) s.heap with | true => some s | false => none) = some s
  rw [a]
theorem left_whole {p q : Program} {loose : List Str} {Xt : Shared → Bool} {N : Nat} (e : opening p = plainProg p.main.scope.names) (hN : Nat.ble 600 N = true) (f : ∀ s, fenceModules? p s = some s)
    (run : ∀ w os, ∃ s, topFrom treeTable p w N (boot0 w os) = some s ∧ openSeen q loose (importedModules p.main.body) Xt true s = openGood q loose) :
    LeftO p q loose Xt (fun s => fragAt s.heap) (fun w => KAt p N w) N := fun w => by
  obtain ⟨s₀, h1, h2⟩ := Option.map_eq_some_iff.mp (boot_open e hN f w)
  have h3 : s₀ = boot0 w (osOf p N w) := by
    have : osOf p N w = s₀.os := by unfold osOf; rw [h1]; rfl
    rw [this]
    obtain ⟨a, b, c, d, o⟩ := s₀
    simp only [Prod.mk.injEq] at h2
    obtain ⟨rfl, rfl, rfl, rfl⟩ := h2
    rfl
  obtain ⟨s, h4, h5⟩ := run w (osOf p N w)
  unfold openEnds
  rw [h1, h3]
  show (topFrom treeTable p w N (boot0 w (osOf p N w))).map _ = _
  have hs : stAt p N w = some s := h4
  rw [h4]
  exact congrArg some (Prod.ext h5 (by show fragAt s.heap = KAt p N w; unfold KAt; rw [hs]))
noncomputable def lawOk (K : Frag) (fnA : List (Nat × Addr)) (f : Nat) : Bool := match nsIn K mainGlobals "law", fnA.lookup f with
  | some (some (.ref a)), some b => a == b
  | _, _ => false
theorem law_of {K : Frag} {fnA : List (Nat × Addr)} {f : Nat} (h : lawOk K fnA f = true) : nsIn K mainGlobals "law" = some ((fnA.lookup f).map Value.ref) := by
  unfold lawOk at h
  split at h
  · rename_i a b e1 e2
    rw [e1, e2, beq_iff_eq.mp h]; rfl
  · cases h
noncomputable def looks (helpers : List (Str × Nat × Nat)) (f : Nat) (ids : List Nat) (K : Frag) : Bool × Bool × Option Nat × List (Option Fn) :=
  (cfgB K (rowTab K helpers) (mkFns K (rowTab K helpers) (mkCls K (rowTab K helpers))) (mkCls K (rowTab K helpers)), lawOk K (mkFns K (rowTab K helpers) (mkCls K (rowTab K helpers))) f, (rowTab K helpers).lv.lookup f,
    ids.map (fnGet K (rowTab K helpers) (mkFns K (rowTab K helpers) (mkCls K (rowTab K helpers)))))
noncomputable def tabP (helpers : List (Str × Nat × Nat)) (K : Frag) : Addr := tabOf K (genOfK K helpers)
noncomputable def looksG (helpers : List (Str × Nat × Nat)) (f : Nat) (ids : List Nat) (K : Frag) : Bool × Bool × Bool × Option Nat × List (Option Fn) :=
  (tabB K (rowTab (noKey K (tabP helpers K)) helpers).gen (tabP helpers K), looks helpers f ids (noKey K (tabP helpers K)))
theorem looksG_of {p : Program} {N : Nat} {w : World} {helpers : List (Str × Nat × Nat)} {f : Nat} {ids : List Nat} {G : Bool × Bool × Bool × Option Nat × List (Option Fn)} (h : ∃ s, topFrom treeTable p w N (boot0 w (osOf p N w)) = some s ∧ looksG helpers f ids (fragAt s.heap) = G) : looksG helpers f ids (KAt p N w) = G := by
  obtain ⟨s, h1, h2⟩ := h
  have hs : stAt p N w = some s := h1
  unfold KAt
  rw [hs]; exact h2
end ML
namespace ML
theorem drop_cons {α : Type} {xs : List α} {k : Nat} {x : α} (h : xs[k]? = some x) : xs.drop k = x :: xs.drop (k + 1) := by
  have hlt : k < xs.length := by
    by_cases q : k < xs.length
    · exact q
    · rw [List.getElem?_eq_none (by (first | lia | omega))] at h; cases h
  rw [List.drop_eq_getElem_cons hlt]
  rw [List.getElem?_eq_getElem hlt] at h
  rw [Option.some.inj h]
theorem drop_head {α : Type} {xs ys : List α} {k : Nat} {y : α} (h : xs.drop k = y :: ys) : xs[k]? = some y ∧ xs.drop (k + 1) = ys ∧ k + 1 ≤ xs.length := by
  have e : xs[k]? = some y := by
    have := congrArg (·[0]?) h
    rwa [List.getElem?_drop] at this
  refine ⟨e, ?_, (List.getElem?_eq_some_iff.mp e).1⟩
  rw [List.drop_add_one_eq_tail_drop, h]; rfl
theorem comp_inv {elt : Loc → Heap → PV → Prop} {cond : Loc → Heap → (Bool → Heap → Prop) → Prop} {n : Nat} {ok : Heap → Prop} {m : Loc} {xs : List V} {H : Heap} {Q : PV} (I : Nat → List V → Heap → Prop) (h0 : I 0 [] H)
    (step : ∀ k x acc H (K : List V → Heap → Prop), xs[k]? = some x → I k acc H → (∀ acc' H', I (k + 1) acc' H' → K acc' H') → ok H ∧ acc.length ≤ lim ∧ bindNew n x H m fun m' => cond m' H fun b H => if b then elt m' H fun v H => ∃ H', H'.le H ∧ K (acc ++ [v]) H' else K acc H)
    (fin : ∀ acc H, I xs.length acc H → ok H ∧ acc.length ≤ lim ∧ allocW (.list acc) H Q) : compW elt cond n ok m xs [] H Q := by
  have key : ∀ ys k acc H, xs.drop k = ys → k ≤ xs.length → I k acc H → compW elt cond n ok m ys acc H Q := by
    intro ys
    induction ys with
    | nil =>
      intro k acc H e hk hI
      exact fin acc H (Nat.le_antisymm hk (List.drop_eq_nil_iff.mp e) ▸ hI)
    | cons y ys ih =>
      intro k acc H e hk hI
      obtain ⟨h1, h2, h3⟩ := drop_head e
      exact step k y acc H (fun acc H => compW elt cond n ok m ys acc H Q) h1 hI fun acc' H' hI' => ih (k + 1) acc' H' h2 h3 hI'
  exact key xs 0 [] H rfl (Nat.zero_le _) h0
theorem rngList_get {a n : Int} {k : Nat} {x : V} (h : (rngList a n)[k]? = some x) : x = .int (a + k) ∧ (k : Int) < n - a := by
  unfold rngList at h
  rw [List.getElem?_map] at h
  obtain ⟨j, e1, e2⟩ := Option.map_eq_some_iff.mp h
  have hlt : k < (n - a).toNat := by
    by_cases q : k < (n - a).toNat
    · exact q
    · rw [List.getElem?_eq_none (by simp; (first | lia | omega))] at e1; cases e1
  rw [List.getElem?_range hlt] at e1
  cases e1
  exact ⟨e2.symm, by (first | lia | omega)⟩
theorem rngList_len {a n : Int} : (rngList a n).length = (n - a).toNat := by simp [rngList]
theorem turn_next {K : Loc → Heap → Prop} {Q : PS} {m : Loc} {H : Heap} (k : K m H) : turnW K Q .next m H := ⟨H, fun _ _ e => e, k⟩
theorem mid_of {i : Int} (h1 : -1000000 ≤ i) (h2 : i ≤ 1000000) : mid i := by unfold mid; (first | lia | omega)
theorem end_ret {Q : PV} {fl : Flow} {v : V} {H : Heap} (hv : fl.val = v) (k : Q v H) : ∃ H'', H''.le H ∧ Q fl.val H'' := ⟨H, fun _ _ e => e, hv ▸ k⟩
theorem end_old {Q : PV} {H H' : Heap} {fl : Flow} {v : V} (hv : fl.val = v) (h : H.le H') (k : Q v H) : ∃ H'', H''.le H' ∧ Q fl.val H'' := ⟨H, h, hv ▸ k⟩
theorem upd_none_of {H : Heap} {a b : Nat} {o : O} (h : (H.upd a o) b = none) : H b = none ∧ b ≠ a := by
  by_cases e : b = a
  · subst e; rw [upd_self] at h; cases h
  · rw [upd_ne e] at h; exact ⟨h, e⟩
theorem fresh_le {H H' : Heap} {b : Nat} (l : H.le H') (h : H' b = none) : H b = none := by
  cases e : H b with
  | none => rfl
  | some o => rw [l _ _ e] at h; cases h
theorem v_ifT {c : Bool} {A B : Prop} (h : c = true) (k : A) : if c = true then A else B := by rw [if_pos h]; exact k
theorem v_ifF {c : Bool} {A B : Prop} (h : c = false) (k : B) : if c = true then A else B := by rw [if_neg (by rw [h]; decide)]; exact k
theorem v_neR {p q : Nat} {H : Heap} {da db : D} {Q : Bool → Prop} (h1 : Rd H depthMax (.ref p) da) (h2 : Rd H depthMax (.ref q) db) (k : ∀ r : Bool, (r = true ↔ da = db) → Q (!r)) : cmpW .ne (.ref p) (.ref q) H Q := .inl ⟨da, db, h1, h2, k⟩
theorem v_neRt {p q : Nat} {H : Heap} {d : D} {Q : Bool → Prop} (h1 : Rd H depthMax (.ref p) d) (h2 : Rd H depthMax (.ref q) d) (k : Q false) : cmpW .ne (.ref p) (.ref q) H Q := v_neR h1 h2 fun r e => by rw [e.mpr rfl]; exact k
theorem All2.map_self {α β γ : Type} {R : α → β → Prop} {f : γ → α} {g : γ → β} (h : ∀ x, R (f x) (g x)) : ∀ l : List γ, All2 R (l.map f) (l.map g)
  | [] => .nil
  | x :: r => .cons (h x) (All2.map_self h r)
theorem rd_int {H : Heap} {n : Nat} {i : Int} : Rd H n (.int i) (.int i) := by cases n with | zero => rfl | succ n => exact .inl rfl
theorem rd_list {H : Heap} {n p : Nat} {o : O} {xs : List V} {ds : List D} (h : H p = some o) (ho : o.lst? = some xs) (k : All2 (Rd H n) xs ds) : Rd H (n + 1) (.ref p) (.list ds) := .inr (.inl ⟨p, o, xs, ds, rfl, h, ho, rfl, k⟩)
theorem rd_ints {H : Heap} {n p : Nat} {o : O} {ns : List Int} (h : H p = some o) (ho : o.lst? = some (ns.map V.int)) : Rd H (n + 1) (.ref p) (.list (ns.map D.int)) := rd_list h ho (All2.map_self (fun _ => rd_int) ns)
end ML
namespace ML
section
variable {Φ : Orac} {m : Loc} {H : Heap} {Q : PS} {r : List S}
theorem n_assign {i e} (k : wpE Φ e m H fun v H => wpSs Φ r (m.set i (some v)) H Q) : wpSs Φ (.assign i e :: r) m H Q := k
theorem n_unpack {is e} (k : wpE Φ e m H fun v H => unpW is v H m fun m => wpSs Φ r m H Q) : wpSs Φ (.unpack is e :: r) m H Q := k
theorem n_setAttr {o i e} (k : wpE Φ e m H fun v H => wpE Φ o m H fun x H => setAttrW x i v H fun H => wpSs Φ r m H Q) : wpSs Φ (.setAttr o i e :: r) m H Q := k
theorem n_setIdx {o i e} (k : wpE Φ e m H fun v H => wpE Φ o m H fun x H => wpE Φ i m H fun y H => setIdxW x y v H fun H => wpSs Φ r m H Q) : wpSs Φ (.setIdx o i e :: r) m H Q := k
theorem n_del {o i} (k : wpE Φ o m H fun x H => wpE Φ i m H fun y H => delIdxW x y H fun H => wpSs Φ r m H Q) : wpSs Φ (.delIdx o i :: r) m H Q := k
theorem n_append {o e} (k : wpE Φ o m H fun x H => isLst H x ∧ wpE Φ e m H fun v H => appendW x v H fun H => wpSs Φ r m H Q) : wpSs Φ (.append o e :: r) m H Q := k
theorem n_expr {e} (k : wpE Φ e m H fun v H => dropW v (wpSs Φ r m H Q)) : wpSs Φ (.expr e :: r) m H Q := k
theorem n_ret {e} (k : wpE Φ e m H fun v H => Q (.ret v) m H) : wpSs Φ (.ret (some e) :: r) m H Q := k
theorem n_chk {c e} (k : wpT Φ c m H fun b H => if b then wpE Φ e m H (fun v H => Q (.ret v) m H) else wpSs Φ r m H Q) : wpSs Φ (.ite c [.ret (some e)] [] :: r) m H Q := k
theorem n_ite {c a b} (k : wpT Φ c m H fun x H => if x then wpSs Φ a m H (thenW (fun m H => wpSs Φ r m H Q) Q) else wpSs Φ b m H (thenW (fun m H => wpSs Φ r m H Q) Q)) : wpSs Φ (.ite c a b :: r) m H Q := k
theorem n_whl {c b} (k : whileW (wpT Φ c) (wpSs Φ b) m H (thenW (fun m H => wpSs Φ r m H Q) Q)) : wpSs Φ (.whl c b :: r) m H Q := k
theorem n_for {t src b} (k : wpSrc Φ src m H fun xs ok H => forW (wpSs Φ b) t ok xs m H (thenW (fun m H => wpSs Φ r m H Q) Q)) : wpSs Φ (.for1 t src b :: r) m H Q := k
theorem n_nil (k : Q .next m H) : wpSs Φ [] m H Q := k
theorem n_then {K : Loc → Heap → Prop} (k : K m H) : thenW K Q .next m H := k
end
theorem mid_nat {n : Nat} (h : n ≤ 1000000) : mid (n : Int) := by unfold mid; (first | lia | omega)
theorem v_idxN {H : Heap} {p k : Nat} {x : O} {xs : List V} {v : V} {Q : V → Prop} (h : H p = some x) (hs : x.seq? = some xs) (h1 : k ≤ 900000) (hv : xs[k]? = some v) (K : Q v) : idxW (.ref p) (.int k) H Q :=
  v_idx h hs (Int.natCast_nonneg _) (by show (k : Int) < ((1000000 : Nat) : Int); (first | lia | omega)) (by rw [Int.toNat_natCast]; exact hv) K
theorem lt_of_get {α : Type} {l : List α} {i : Nat} {x : α} (h : l[i]? = some x) : i < l.length := (List.getElem?_eq_some_iff.mp h).1
theorem v_sliceL {p x xs lo hi l h'} {H : Heap} {Q : PV} (h : H p = some x) (hs : x.lst? = some xs) (hl : part? lo = some l) (hh : part? hi = some h') (n1 : nonneg? l) (n2 : nonneg? h') (hz : xs.length ≤ lim)
    (k : ∀ a H', H.le H' → H a = none → H' a = some (.list (cut xs l h')) → Q (.ref a) H') : sliceW (.ref p) lo hi H Q := v_slice h hs hl hh n1 n2 hz fun a na => k a _ (Heap.le_upd na) na upd_self
theorem v_addLL {p q xs ys} {H : Heap} {Q : PV} (h1 : H p = some (.list xs)) (h2 : H q = some (.list ys)) (hl : xs.length + ys.length ≤ lim) (k : ∀ a H', H.le H' → H a = none → H' a = some (.list (xs ++ ys)) → Q (.ref a) H') :
    bopW .add (.ref p) (.ref q) H Q := v_addL h1 h2 hl fun a na => k a _ (Heap.le_upd na) na upd_self
end ML
open ML
set_option bootstrap.genMatcherCode true
local macro_rules | `(tactic| walk_at "look") => `(tactic| first | assumption | exact upd_self | (refine upd_fresh (by assumption) ?_; walk_at "look") | (refine (upd_ne (by walk_at "ne")).trans ?_; walk_at "look"))
local macro_rules | `(tactic| walk_at "ne") => `(tactic| first | assumption | exact Ne.symm (by assumption) | exact ne_of_look (by assumption) (by walk_at "look") | exact Ne.symm (ne_of_look (by assumption) (by walk_at "look")))
local macro_rules | `(tactic| walk_at "le") => `(tactic| first | exact Heap.le_refl _ | assumption | exact Heap.le_upd (by assumption) | (refine Heap.le_trans ?_ (Heap.le_upd (by assumption)); walk_at "le"))
local macro_rules | `(tactic| walk_at "side") => `(tactic| first | decide | assumption | (first | lia | omega))
local macro_rules | `(tactic| walk_at "z") => `(tactic| repeat (first | dsimp only [s_assign, s_unpack, s_setAttr, s_setIdx, s_delIdx, s_append, s_expr, s_ret0, s_ret, s_ite, s_whl, s_for, s_brk, s_pass, s_nil, s_cons, z_then, z_thenB, z_thenR] | walk_at "m0"))
local macro_rules | `(tactic| walk_at "m0") => `(tactic| dsimp only [w_var, w_lit, w_bop, w_neg, w_cmp, w_cmp2, w_and, w_or, w_not, w_call, w_meth, w_new, w_prim, w_attr, w_idx, w_slice, w_list, w_tup, w_comp, w_onone, w_osome, w_enil, w_econs, w_rng1, w_rng2, w_rng3, w_rngS, w_dict0, w_of, w_cnone, w_csome,
  t_not, t_and, t_or, t_cmp, t_cmp2, t_var, t_lit, t_call, t_meth, t_idx, t_prim, t_bop, z_var, z_addI, z_subI, z_negI, z_lt, z_le, z_gt, z_ge, z_eqI, z_neI, z_eqB, z_neB, z_eqS, z_neS, z_is, z_isnot, z_isNN, z_isBB, z_isRN, z_isIN, z_isBN, z_isSN, z_isFN, z_isNB, z_isRB, z_isIB, z_tN, z_tB, z_tI, z_abs, z_min, z_max, z_tyInt, z_tyBool, z_isBool, z_dropN, z_dropB, z_dropI, z_ifT, z_ifF, z_new1, z_to1,
  z_mapN, z_mapC, z_appN, z_appC, z_set0, z_setS, z_get0, z_getS, z_notT, z_notF, List.replicate, Nat.reduceSub, Fn.start])
local macro_rules | `(tactic| walk_at "m") => `(tactic| try walk_at "m0")
local macro_rules | `(tactic| walk_at "n") => `(tactic| ((first | refine n_assign ?_ | refine n_chk ?_ | refine n_ite ?_ | refine n_for ?_ | refine n_append ?_ | refine n_expr ?_ | refine n_ret ?_ | refine n_setAttr ?_ | refine n_del ?_ | refine n_whl ?_ | refine n_setIdx ?_ | refine n_unpack ?_ | (refine n_then ?_; walk_at "n") | (refine n_nil ?_; walk_at "n")); walk_at "m"))
set_option bootstrap.genMatcherCode false

namespace ML
theorem All2.mono {α β : Type} {R R' : α → β → Prop} (h : ∀ a b, R a b → R' a b) : ∀ {l : List α} {m : List β}, All2 R l m → All2 R' l m
  | _, _, .nil => .nil
  | _, _, .cons a r => .cons (h _ _ a) (r.mono h)
theorem All2.len {α β : Type} {R : α → β → Prop} {l : List α} {m : List β} (h : All2 R l m) : l.length = m.length := h.length
theorem All2.app {α β : Type} {R : α → β → Prop} {l l' : List α} {m m' : List β} (x : All2 R l m) (y : All2 R l' m') : All2 R (l ++ l') (m ++ m') := x.append y
theorem All2.filter {α β : Type} {R : α → β → Prop} {p : α → Bool} {q : β → Bool} (h : ∀ a b, R a b → p a = q b) : ∀ {l : List α} {m : List β}, All2 R l m → All2 R (l.filter p) (m.filter q)
  | _, _, .nil => .nil
  | a :: l, b :: m, .cons x r => by
    rw [List.filter_cons, List.filter_cons, h _ _ x]
    split
    · exact .cons x (r.filter h)
    · exact r.filter h
theorem All2.at {α β : Type} {R : α → β → Prop} {l : List α} {m : List β} {i : Nat} {b : β} (h : All2 R l m) (e : m[i]? = some b) : ∃ a, l[i]? = some a ∧ R a b := h.get e
theorem All2.at' {α β : Type} {R : α → β → Prop} {l : List α} {m : List β} {i : Nat} {a : α} (h : All2 R l m) (e : l[i]? = some a) : ∃ b, m[i]? = some b ∧ R a b := h.get' e
noncomputable def PairIs (H : Heap) (x : V) (kv : Int × Int) : Prop := ∃ r, x = .ref r ∧ H r = some (.tup [.int kv.1, .int kv.2])
noncomputable def kvOf (H : Heap) : V → Int × Int
  | .ref r => match H r with
    | some (.tup [.int k, .int v]) => (k, v)
    | _ => (0, 0)
  | _ => (0, 0)
theorem PairIs.kv {H : Heap} {x : V} {kv : Int × Int} (h : PairIs H x kv) : kvOf H x = kv := by
  obtain ⟨r, rfl, h⟩ := h
  unfold kvOf
  simp only [h]
theorem PairIs.le {H H' : Heap} {x : V} {kv : Int × Int} (l : H.le H') (h : PairIs H x kv) : PairIs H' x kv := let ⟨r, e, h⟩ := h; ⟨r, e, l _ _ h⟩
theorem PairIs.lst {H : Heap} {x : V} {kv : Int × Int} {p : Nat} {xs : List V} {o : O} (hp : H p = some (.list xs)) (h : PairIs H x kv) : PairIs (H.upd p o) x kv := by
  obtain ⟨r, e, h⟩ := h
  refine ⟨r, e, ?_⟩
  rw [upd_ne (fun q => by rw [q, hp] at h; cases h)]; exact h
noncomputable abbrev Pairs (H : Heap) (xs : List V) (kvs : List (Int × Int)) : Prop := All2 (PairIs H) xs kvs
theorem Pairs.le {H H' : Heap} {xs : List V} {kvs : List (Int × Int)} (h : Pairs H xs kvs) (l : H.le H') : Pairs H' xs kvs := All2.mono (fun _ _ => PairIs.le l) h
theorem Pairs.lst {H : Heap} {xs ys : List V} {kvs : List (Int × Int)} {p : Nat} {o : O} (h : Pairs H xs kvs) (hp : H p = some (.list ys)) : Pairs (H.upd p o) xs kvs := All2.mono (fun _ _ => PairIs.lst hp) h
noncomputable def dPairs (kvs : List (Int × Int)) : D := .list (kvs.map fun kv => .tup [.int kv.1, .int kv.2])
theorem comp_pure {elt : Loc → Heap → PV → Prop} {cond : Loc → Heap → (Bool → Heap → Prop) → Prop} {ok : Heap → Prop} {m : Loc} {xs : List V} {H : Heap} {Q : PV} (p : V → Bool) (f : V → V) (hok : ok H) (hz : xs.length ≤ lim)
    (hc : ∀ x ∈ xs, ∀ K : Bool → Heap → Prop, K (p x) H → cond (m ++ [some x]) H K) (he : ∀ x ∈ xs, p x = true → ∀ K : PV, K (f x) H → elt (m ++ [some x]) H K)
    (k : ∀ b, H b = none → Q (.ref b) (H.upd b (.list ((xs.filter p).map f)))) : compW elt cond 1 ok m xs [] H Q := by
  refine comp_inv (fun k acc H' => H' = H ∧ acc = ((xs.take k).filter p).map f) ⟨rfl, rfl⟩ (fun j x acc H' K hx hI hK => ?_) fun acc H' hI => ?_
  · obtain ⟨rfl, rfl⟩ := hI
    have hm : x ∈ xs := List.mem_of_getElem? hx
    have ht : xs.take (j + 1) = xs.take j ++ [x] := by
      rw [List.take_succ, hx]; rfl
    refine ⟨hok, ?_, ?_⟩
    · have h1 := List.length_filter_le p (xs.take j)
      have h2 := List.length_take_le j xs
      have h3 : (xs.take j).length ≤ xs.length := by rw [List.length_take]; (first | lia | omega)
      rw [List.length_map]; (first | lia | omega)
    · show cond (m ++ [some x]) H' _
      refine hc x hm _ ?_
      cases hp : p x with
      | false =>
        refine hK _ _ ⟨rfl, ?_⟩
        rw [ht, List.filter_append]; simp [hp]
      | true =>
        refine he x hm hp _ ⟨H', fun _ _ e => e, hK _ _ ⟨rfl, ?_⟩⟩
        rw [ht, List.filter_append]; simp [hp]
  · obtain ⟨rfl, rfl⟩ := hI
    rw [List.take_length]
    refine ⟨hok, ?_, k⟩
    have h1 := List.length_filter_le p xs
    rw [List.length_map]; (first | lia | omega)
theorem comp_map {Φ : Orac} {elt : Loc → Heap → PV → Prop} {ok : Heap → Prop} {m : Loc} {xs : List V} {H : Heap} {Q : PV} (f : V → V) (hok : ok H) (hz : xs.length ≤ lim)
    (he : ∀ x ∈ xs, ∀ K : PV, K (f x) H → elt (m ++ [some x]) H K) (k : ∀ b, H b = none → Q (.ref b) (H.upd b (.list (xs.map f)))) : compW elt (wpC Φ none) 1 ok m xs [] H Q := by
  refine comp_pure (fun _ => true) f hok hz (fun x _ K h => r_cnone h) (fun x hx _ => he x hx) ?_
  rw [List.filter_eq_self.mpr (fun _ _ => rfl)]
  exact k
end ML
namespace ML
section
variable {T : Nat → Option Fn} (S : Sys T)
theorem spec_init (h0 : T 0 = some f_Node_init) {H : Heap} {a : Nat} {x y z : V} {Q : PV} (ha : H a = some (.inst 0 [])) (h : Q .none (H.upd a (.inst 0 [(0, x), (1, y), (2, z)]))) : S.Φ 0 [.ref a, x, y, z] H Q := by
  refine S.call h0 rfl ?_
  dsimp only [f_Node_init]
  walk_at "z"
  refine v_setAttr (fs' := [(0, x)]) ha (by decide) rfl ?_
  refine v_setAttr (fs' := [(0, x), (1, y)]) upd_self (by simp) rfl ?_
  refine v_setAttr (fs' := [(0, x), (1, y), (2, z)]) upd_self (by simp) rfl ?_
  refine end_old rfl (fun p o e => ?_) h
  by_cases q : p = a
  · subst q; rw [upd_self] at e ⊢; exact e
  · rw [upd_ne q] at e; rw [upd_ne q, upd_ne q, upd_ne q]; exact e
theorem upd_upd {H : Heap} {a : Nat} {o o' : O} : (H.upd a o).upd a o' = H.upd a o' := by
  funext b
  by_cases q : b = a
  · simp [Heap.upd, q]
  · simp [Heap.upd, q]
theorem new_node (h0 : T 0 = some f_Node_init) {H : Heap} {x y z : V} {Q : Nat → Heap → Prop} (h : ∀ a, H a = none → Q a (H.upd a (.inst 0 [(0, x), (1, y), (2, z)]))) :
    ∀ a, H a = none → S.Φ 0 (.ref a :: [x, y, z]) (H.upd a (.inst 0 [])) fun r H => r = .none ∧ Q a H := fun a na =>
  spec_init S h0 upd_self ⟨rfl, by rw [upd_upd]; exact h a na⟩
theorem spec_lay (h4 : T 4 = some f_lay) {H : Heap} {a : Nat} {x y z x' y' z' : V} {Q : PV} (ha : H a = some (.inst 0 [(0, x'), (1, y'), (2, z')])) (h : Q .none (H.upd a (.inst 0 [(0, x), (1, y), (2, z)]))) : S.Φ 4 [.ref a, x, y, z] H Q := by
  refine S.call h4 rfl ?_
  dsimp only [f_lay]
  walk_at "z"
  refine v_setAttr (fs' := [(0, x), (1, y'), (2, z')]) ha (by simp) rfl ?_
  refine v_setAttr (fs' := [(0, x), (1, y), (2, z')]) upd_self (by simp) rfl ?_
  refine v_setAttr (fs' := [(0, x), (1, y), (2, z)]) upd_self (by simp) rfl ?_
  rw [upd_upd, upd_upd]
  exact end_ret rfl h
noncomputable def below (ks : List Int) (key : Int) : Nat := (ks.filter fun k => decide (k < key)).length
noncomputable def slBody : List ML.S := [
    .assign 4 (.bop .fdiv (.bop .add (.var 2) (.var 3)) (.lit (.int 2))),
    .ite (.cmp .lt (.idx (.attr (.var 0) 0) (.var 4)) (.var 1)) [
      .assign 2 (.bop .add (.var 4) (.lit (.int 1)))] [
      .assign 3 (.var 4)]]
structure Slot (ks : List Int) (key : Int) (l h : Nat) : Prop where
  le : l ≤ h
  len : h ≤ ks.length
  lt : ∀ (j : Nat) k, j < l → ks[j]? = some k → k < key
  ge : ∀ (j : Nat) k, h ≤ j → ks[j]? = some k → key ≤ k
end
end ML
namespace ML
inductive Tree where
  | node (a : Nat) (ks : List Int) (vs : List V) (cs : List Tree)
noncomputable def Tree.addr : Tree → Nat
  | .node a _ _ _ => a
noncomputable def Tree.keys : Tree → List Int
  | .node _ ks _ _ => ks
noncomputable def Tree.vals : Tree → List V
  | .node _ _ vs _ => vs
noncomputable def Tree.kids : Tree → List Tree
  | .node _ _ _ cs => cs
noncomputable def refsOf (cs : List Tree) : List V := cs.map fun t => V.ref t.addr
noncomputable def NodeAt (H : Heap) (a : Nat) (ks : List Int) (vs : List V) (cs : List V) : Prop :=
  ∃ k v c, H a = some (.inst 0 [(0, .ref k), (1, .ref v), (2, .ref c)]) ∧ H k = some (.list (ks.map V.int)) ∧ H v = some (.list vs) ∧ H c = some (.list cs)
mutual
noncomputable def Holds (H : Heap) : Tree → Prop
  | .node a ks vs cs => NodeAt H a ks vs (refsOf cs) ∧ HoldsL H cs
noncomputable def HoldsL (H : Heap) : List Tree → Prop
  | [] => True
  | t :: r => Holds H t ∧ HoldsL H r
end
mutual
noncomputable def Tree.addrs : Tree → List Nat
  | .node a _ _ cs => a :: addrsL cs
noncomputable def addrsL : List Tree → List Nat
  | [] => []
  | t :: r => t.addrs ++ addrsL r
end
theorem NodeAt.le {H H' : Heap} {a : Nat} {ks : List Int} {vs cs : List V} (h : NodeAt H a ks vs cs) (l : H.le H') : NodeAt H' a ks vs cs := let ⟨k, v, c, h1, h2, h3, h4⟩ := h; ⟨k, v, c, l _ _ h1, l _ _ h2, l _ _ h3, l _ _ h4⟩
theorem NodeAt.upd {H : Heap} {a b c : Nat} {ks : List Int} {vs cs : List V} {o : O} {fs : List (Nat × V)} (h : NodeAt H a ks vs cs) (hb : H b = some (.inst c fs)) (hn : b ≠ a) : NodeAt (H.upd b o) a ks vs cs := by
  obtain ⟨k, v, c', h1, h2, h3, h4⟩ := h
  have nl : ∀ {p xs}, H p = some (.list xs) → (H.upd b o) p = some (.list xs) := fun {p xs} hp => by
    rw [upd_ne (fun e => by rw [e, hb] at hp; cases hp)]; exact hp
  exact ⟨k, v, c', (upd_ne (Ne.symm hn)).trans h1, nl h2, nl h3, nl h4⟩
mutual
theorem Holds.le {H H' : Heap} (l : H.le H') : ∀ {t : Tree}, Holds H t → Holds H' t
  | .node _ _ _ _, ⟨h1, h2⟩ => ⟨h1.le l, HoldsL.le l h2⟩
theorem HoldsL.le {H H' : Heap} (l : H.le H') : ∀ {ts : List Tree}, HoldsL H ts → HoldsL H' ts
  | [], _ => trivial
  | _ :: _, ⟨h1, h2⟩ => ⟨Holds.le l h1, HoldsL.le l h2⟩
end
mutual
theorem Holds.upd {H : Heap} {b c : Nat} {o : O} {fs : List (Nat × V)} (hb : H b = some (.inst c fs)) : ∀ {t : Tree}, Holds H t → b ∉ t.addrs → Holds (H.upd b o) t
  | .node a _ _ cs, ⟨h1, h2⟩, hn => by
    simp only [Tree.addrs, List.mem_cons, not_or] at hn
    exact ⟨h1.upd hb hn.1, HoldsL.upd hb h2 hn.2⟩
theorem HoldsL.upd {H : Heap} {b c : Nat} {o : O} {fs : List (Nat × V)} (hb : H b = some (.inst c fs)) : ∀ {ts : List Tree}, HoldsL H ts → b ∉ addrsL ts → HoldsL (H.upd b o) ts
  | [], _, _ => trivial
  | t :: r, ⟨h1, h2⟩, hn => by
    simp only [addrsL, List.mem_append, not_or] at hn
    exact ⟨Holds.upd hb h1 hn.1, HoldsL.upd hb h2 hn.2⟩
end
end ML
namespace ML
theorem le_updF {H G : Heap} {a : Nat} {o : O} (l : H.le G) (h : H a = none) : H.le (G.upd a o) := fun p x hp => by
  have : p ≠ a := fun e => by rw [e, h] at hp; cases hp
  rw [upd_ne this]; exact l _ _ hp
mutual
noncomputable def Tree.flat : Tree → List V
  | .node _ ks vs cs => (V.int ks.length :: ks.map V.int) ++ (vs ++ (V.int cs.length :: flatL cs))
noncomputable def flatL : List Tree → List V
  | [] => []
  | t :: r => t.flat ++ flatL r
end
theorem HoldsL.app {H : Heap} : ∀ {a b : List Tree}, HoldsL H a → HoldsL H b → HoldsL H (a ++ b)
  | [], _, _, h => h
  | _ :: _, _, ⟨h1, h2⟩, h => ⟨h1, HoldsL.app h2 h⟩
section
variable {T : Nat → Option Fn} (S : Sys T)
end
end ML
namespace ML
noncomputable def f_law_cell : Fn := ⟨2, 2, [
  .ite (.cmp .lt (.var 1) (.prim .len [(.var 0)])) [
    .ret (some (.idx (.var 0) (.var 1)))] [],
  .ret (some (.lit (.int 0)))]⟩
noncomputable def cell (ns : List Int) (k : Int) : Int := (ns[k.toNat]?).getD 0
theorem emod_b (c n : Int) (h : 0 < n) : 0 ≤ c % n ∧ c % n < n := ⟨Int.emod_nonneg _ (by (first | lia | omega)), Int.emod_lt_of_pos _ h⟩
theorem v_allocL {o : O} {H : Heap} {Q : PV} (k : ∀ a H', H.le H' → H a = none → H' a = some o → Q (.ref a) H') : allocW o H Q := fun a na => k a _ (Heap.le_upd na) na upd_self
noncomputable def Heap.del (H : Heap) (a : Nat) : Heap := fun b => if b = a then none else H b
theorem del_self {H : Heap} {a : Nat} : H.del a a = none := by simp [Heap.del]
theorem del_ne {H : Heap} {a p : Nat} (h : p ≠ a) : H.del a p = H p := by simp [Heap.del, h]
theorem del_upd {H : Heap} {a : Nat} {o : O} : (H.upd a o).del a = H.del a := by
  funext b
  by_cases e : b = a
  · rw [e, del_self, del_self]
  · rw [del_ne e, del_ne e, upd_ne e]
section
variable {T : Nat → Option Fn} (S : Sys T)
theorem spec_cell (hd : T 50 = some f_law_cell) {H : Heap} {a : Nat} {ns : List Int} {k : Int} {Q : PV} (ha : H a = some (.ro (ns.map V.int))) (h0 : 0 ≤ k) (hn : ns.length ≤ 63) (h : Q (.int (cell ns k)) H) : S.Φ 50 [.ref a, .int k] H Q := by
  refine S.call hd rfl ?_
  dsimp only [f_law_cell]
  walk_at "z"
  refine v_len ha rfl ?_
  walk_at "z"
  rw [List.length_map]
  refine v_if (fun e => ?_) fun e => ?_
  · have e := of_decide_eq_true e
    refine v_idx (xs := ns.map V.int) (v := .int (cell ns k)) ha rfl h0 (by unfold lim; (first | lia | omega)) ?_ ?_
    · unfold cell
      rw [List.getElem?_map, List.getElem?_eq_getElem (by (first | lia | omega))]; rfl
    · exact end_ret rfl h
  · have e := of_decide_eq_false e
    refine end_ret rfl ?_
    unfold cell at h
    rw [List.getElem?_eq_none (by (first | lia | omega))] at h
    exact h
end
end ML
namespace ML
noncomputable def Tree.lh : Tree → Nat
  | .node _ _ _ [] => 0
  | .node _ _ _ (c :: _) => c.lh + 1
theorem Holds.at {H : Heap} : ∀ {t : Tree}, Holds H t → NodeAt H t.addr t.keys t.vals (refsOf t.kids)
  | .node _ _ _ _, h => h.1
section
variable {T : Nat → Option Fn} (S : Sys T)
theorem new_canopy (h0 : T 0 = some f_Node_init) (h1 : T 1 = some f_Canopy_init) {H : Heap} {x : V} {Q : Nat → Heap → Prop}
    (h : ∀ c n H', H.le H' → H c = none → H n = none → n ≠ c → H' c = some (.inst 1 [(3, x), (4, .ref n), (5, .int 0)]) → Holds (H'.del c) (.node n [] [] []) → Q c H') :
    ∀ a, H a = none → S.Φ 1 (.ref a :: [x]) (H.upd a (.inst 1 [])) fun r H => r = .none ∧ Q a H := fun a na => by
  refine S.call h1 rfl ?_
  dsimp only [f_Canopy_init]
  walk_at "z"
  refine v_setAttr (fs' := [(3, x)]) upd_self (by simp) rfl ?_
  walk_at "z"
  rw [upd_upd]
  refine v_alloc fun k nk => ?_
  refine v_alloc fun v nv => ?_
  refine v_alloc fun c nc => ?_
  walk_at "z"
  refine new_node S h0 fun n nn => ?_
  obtain ⟨nn, e3⟩ := upd_none_of nn
  obtain ⟨nn, e2⟩ := upd_none_of nn
  obtain ⟨nn, e1⟩ := upd_none_of nn
  obtain ⟨nn, e0⟩ := upd_none_of nn
  obtain ⟨nc, d2⟩ := upd_none_of nc
  obtain ⟨nc, d1⟩ := upd_none_of nc
  obtain ⟨nc, d0⟩ := upd_none_of nc
  obtain ⟨nv, c1⟩ := upd_none_of nv
  obtain ⟨nv, c0⟩ := upd_none_of nv
  obtain ⟨nk, b0⟩ := upd_none_of nk
  walk_at "z"
  refine v_setAttr (c := 1) (fs := [(3, x)]) (fs' := [(3, x), (4, .ref n)]) ((upd_ne e0.symm).trans ((upd_ne d0.symm).trans ((upd_ne c0.symm).trans ((upd_ne b0.symm).trans upd_self)))) (by simp) rfl ?_
  walk_at "z"
  refine v_setAttr (fs' := [(3, x), (4, .ref n), (5, .int 0)]) upd_self (by simp) rfl ?_
  rw [upd_upd]
  refine ⟨_, Heap.le_refl _, rfl, h a n _ ?_ na nn e0 upd_self ?_⟩
  · exact le_updF (le_updF (le_updF (le_updF (le_updF (le_updF (Heap.le_refl _) na) nk) nv) nc) nn) na
  · rw [del_upd]
    refine ⟨⟨k, v, c, ?_, ?_, ?_, ?_⟩, trivial⟩
    · rw [del_ne e0, upd_self]
    · rw [del_ne b0, upd_ne e1.symm, upd_ne d1.symm, upd_ne c1.symm, upd_self]; rfl
    · rw [del_ne c0, upd_ne e2.symm, upd_ne d2.symm, upd_self]
    · rw [del_ne d0, upd_ne e3.symm, upd_self]; rfl
theorem spec_adopt (h7 : T 7 = some f_adopt) {H : Heap} {c : Nat} {x y z r n : V} {Q : PV} (hc : H c = some (.inst 1 [(3, x), (4, y), (5, z)])) (h : Q .none (H.upd c (.inst 1 [(3, x), (4, r), (5, n)]))) : S.Φ 7 [.ref c, r, n] H Q := by
  refine S.call h7 rfl ?_
  dsimp only [f_adopt]
  walk_at "z"
  refine v_setAttr (fs' := [(3, x), (4, r), (5, z)]) hc (by simp) rfl ?_
  walk_at "z"
  refine v_setAttr (fs' := [(3, x), (4, r), (5, n)]) upd_self (by simp) rfl ?_
  rw [upd_upd]
  exact end_ret rfl h
end
end ML
namespace ML
noncomputable abbrev KV := Int × V
section
variable {α : Type}
noncomputable def weave : List (List α) → List α → List α
  | [], ps => ps
  | c :: cs, [] => c ++ weave cs []
  | c :: cs, p :: ps => c ++ p :: weave cs ps
noncomputable def weaveL : List (List α) → List α → List α
  | a :: A, p :: P => a ++ p :: weaveL A P
  | _, _ => []
noncomputable def weaveR (Q : List α) (B : List (List α)) : List α := match Q with
  | [] => weave B []
  | q :: Q => q :: weave B Q
theorem weave_cons {c : List α} {B : List (List α)} {Q : List α} : weave (c :: B) Q = c ++ weaveR Q B := by cases Q <;> rfl
theorem weave_split {c : List α} {B : List (List α)} {Q : List α} : ∀ {A : List (List α)} {P : List α}, A.length = P.length → weave (A ++ c :: B) (P ++ Q) = weaveL A P ++ (c ++ weaveR Q B)
  | [], [], _ => weave_cons
  | a :: A, p :: P, h => by
    show a ++ p :: weave (A ++ c :: B) (P ++ Q) = (a ++ p :: weaveL A P) ++ (c ++ weaveR Q B)
    rw [weave_split (A := A) (P := P) (by simpa using h)]
    simp
  | [], _ :: _, h => by cases h
  | _ :: _, [], h => by cases h
end
mutual
noncomputable def ino : Tree → List KV
  | .node _ ks vs cs => weave (inoL cs) (ks.zip vs)
noncomputable def inoL : List Tree → List (List KV)
  | [] => []
  | t :: r => ino t :: inoL r
end
theorem inoL_map : ∀ l : List Tree, inoL l = l.map ino
  | [] => rfl
  | t :: r => by show ino t :: inoL r = _; rw [inoL_map r]; rfl
noncomputable def Srt (l : List KV) : Prop := l.Pairwise fun a b => a.1 < b.1
noncomputable def putL (l : List KV) (k : Int) (v : V) : List KV := l.filter (fun p => decide (p.1 < k)) ++ (k, v) :: l.filter (fun p => decide (k < p.1))
theorem filt_all {l : List KV} {p : KV → Bool} (h : ∀ x ∈ l, p x = true) : l.filter p = l := List.filter_eq_self.mpr h
theorem filt_none {l : List KV} {p : KV → Bool} (h : ∀ x ∈ l, p x = false) : l.filter p = [] := List.filter_eq_nil_iff.mpr fun x hx => by rw [h x hx]; decide
theorem putL_mid {L M R : List KV} {k : Int} {v : V} (hL : ∀ x ∈ L, x.1 < k) (hR : ∀ x ∈ R, k < x.1) : putL (L ++ (M ++ R)) k v = L ++ (putL M k v ++ R) := by
  unfold putL
  simp only [List.filter_append]
  rw [filt_all (l := L) (p := fun p => decide (p.1 < k)) fun x hx => by simpa using hL x hx, filt_none (l := R) (p := fun p => decide (p.1 < k)) fun x hx => by have := hR x hx; simp; (first | lia | omega),
    filt_none (l := L) (p := fun p => decide (k < p.1)) fun x hx => by have := hL x hx; simp; (first | lia | omega), filt_all (l := R) (p := fun p => decide (k < p.1)) fun x hx => by simpa using hR x hx]
  simp
theorem Srt.left {a b : List KV} (h : Srt (a ++ b)) : Srt a := (List.pairwise_append.mp h).1
theorem Srt.right {a b : List KV} (h : Srt (a ++ b)) : Srt b := (List.pairwise_append.mp h).2.1
theorem Srt.sub {a b : List KV} (s : List.Sublist a b) (h : Srt b) : Srt a := List.Pairwise.sublist s h
theorem weaveL_lt {k : Int} {R : List KV} : ∀ {A : List (List KV)} {P : List KV}, Srt (weaveL A P ++ R) → (∀ p ∈ P, p.1 < k) → ∀ x ∈ weaveL A P, x.1 < k
  | [], _, _, _, _, hx => by cases hx
  | _ :: _, [], _, _, _, hx => by cases hx
  | a :: A, p :: P, hs, hp, x, hx => by
    have e : weaveL (a :: A) (p :: P) ++ R = a ++ (p :: (weaveL A P ++ R)) := by simp [weaveL]
    rw [e] at hs
    have h := List.pairwise_append.mp hs
    have hp0 := hp p (.head _)
    rcases List.mem_append.mp (show x ∈ a ++ p :: weaveL A P from hx) with q | q
    · have := h.2.2 x q p (.head _)
      (first | lia | omega)
    · rcases List.mem_cons.mp q with rfl | q
      · exact hp0
      · exact weaveL_lt (List.pairwise_cons.mp h.2.1).2 (fun y hy => hp y (.tail _ hy)) x q
theorem weaveR_gt {k : Int} {Q : List KV} {B : List (List KV)} (hs : Srt (weaveR Q B)) (hQ : ∀ p ∈ Q, k < p.1) (hB : Q = [] → B = []) : ∀ x ∈ weaveR Q B, k < x.1 := by
  intro x hx
  cases Q with
  | nil => rw [hB rfl] at hx; cases hx
  | cons q Q =>
    have h0 := hQ q (.head _)
    rcases List.mem_cons.mp (show x ∈ q :: weave B Q from hx) with rfl | q'
    · exact h0
    · have := (List.pairwise_cons.mp hs).1 x q'
      (first | lia | omega)
noncomputable def Sh (T : Nat) : Nat → Tree → Prop
  | 0, .node _ ks vs cs => cs = [] ∧ vs.length = ks.length ∧ ks.length ≤ 2 * T - 1
  | h + 1, .node _ ks vs cs => cs.length = ks.length + 1 ∧ vs.length = ks.length ∧ ks.length ≤ 2 * T - 1 ∧ ∀ c ∈ cs, Sh T h c ∧ T - 1 ≤ c.keys.length
theorem Sh.len {T h : Nat} {t : Tree} (s : Sh T h t) : t.vals.length = t.keys.length ∧ t.keys.length ≤ 2 * T - 1 := by
  cases h <;> cases t
  · exact ⟨s.2.1, s.2.2⟩
  · exact ⟨s.2.1, s.2.2.1⟩
noncomputable def ins {α : Type} (l : List α) (i : Nat) (x : α) : List α := l.take i ++ x :: l.drop i
theorem zip_len {ks : List Int} {vs : List V} (h : vs.length = ks.length) : (ks.zip vs).length = ks.length := by rw [List.length_zip]; (first | lia | omega)
theorem set_split {α : Type} {l : List α} {i : Nat} {x : α} (h : i < l.length) : l.set i x = l.take i ++ x :: l.drop (i + 1) := by
  rw [List.set_eq_take_append_cons_drop]; simp [h]
theorem get_split {α : Type} {l : List α} {i : Nat} {x : α} (h : l[i]? = some x) : l = l.take i ++ x :: l.drop (i + 1) := by
  have := drop_cons h
  rw [← this, List.take_append_drop]
theorem zip_mem_take {ks : List Int} {vs : List V} {i : Nat} {p : KV} (h : p ∈ (ks.zip vs).take i) : ∃ j, j < i ∧ ks[j]? = some p.1 := by
  obtain ⟨j, hj⟩ := List.mem_iff_getElem?.mp h
  rw [List.getElem?_take] at hj
  split at hj
  · rename_i q
    exact ⟨j, q, (List.getElem?_zip_eq_some.mp hj).1⟩
  · cases hj
theorem zip_mem_drop {ks : List Int} {vs : List V} {i : Nat} {p : KV} (h : p ∈ (ks.zip vs).drop i) : ∃ j, i ≤ j ∧ ks[j]? = some p.1 := by
  obtain ⟨j, hj⟩ := List.mem_iff_getElem?.mp h
  rw [List.getElem?_drop] at hj
  exact ⟨i + j, by (first | lia | omega), (List.getElem?_zip_eq_some.mp hj).1⟩
theorem inoL_split {cs : List Tree} {i : Nat} {c : Tree} (h : cs[i]? = some c) : inoL cs = inoL (cs.take i) ++ ino c :: inoL (cs.drop (i + 1)) := by
  have := get_split h
  rw [inoL_map, inoL_map, inoL_map]
  conv => lhs; rw [this]
  simp
theorem inoL_set {cs : List Tree} {i : Nat} {c c' : Tree} (h : cs[i]? = some c) : inoL (cs.set i c') = inoL (cs.take i) ++ ino c' :: inoL (cs.drop (i + 1)) := by
  have hi : i < cs.length := lt_of_get h
  rw [set_split hi, inoL_map, inoL_map, inoL_map]
  simp
noncomputable def inL (ks : List Int) (vs : List V) (cs : List Tree) (i : Nat) : List KV := weaveL (inoL (cs.take i)) ((ks.zip vs).take i)
noncomputable def inR (ks : List Int) (vs : List V) (cs : List Tree) (i : Nat) : List KV := weaveR ((ks.zip vs).drop i) (inoL (cs.drop (i + 1)))
theorem ino_at {a : Nat} {ks : List Int} {vs : List V} {cs : List Tree} {i : Nat} {c : Tree} (hv : vs.length = ks.length) (hi : i ≤ ks.length) (hc : cs[i]? = some c) : ino (.node a ks vs cs) = inL ks vs cs i ++ (ino c ++ inR ks vs cs i) := by
  have hlt : i < cs.length := lt_of_get hc
  show weave (inoL cs) (ks.zip vs) = _
  conv => lhs; rw [inoL_split hc, ← List.take_append_drop i (ks.zip vs)]
  exact weave_split (by rw [inoL_map, List.length_map, List.length_take, List.length_take, zip_len hv]; (first | lia | omega))
theorem ino_set {a : Nat} {ks : List Int} {vs : List V} {cs : List Tree} {i : Nat} {c c' : Tree} (hv : vs.length = ks.length) (hi : i ≤ ks.length) (hc : cs[i]? = some c) : ino (.node a ks vs (cs.set i c')) = inL ks vs cs i ++ (ino c' ++ inR ks vs cs i) := by
  have hlt : i < cs.length := lt_of_get hc
  show weave (inoL (cs.set i c')) (ks.zip vs) = _
  conv => lhs; rw [inoL_set hc, ← List.take_append_drop i (ks.zip vs)]
  exact weave_split (by rw [inoL_map, List.length_map, List.length_take, List.length_take, zip_len hv]; (first | lia | omega))
structure Under (ks : List Int) (i : Nat) (key : Int) : Prop where
  lt : ∀ (j : Nat) k, j < i → ks[j]? = some k → k < key
  gt : ∀ (j : Nat) k, i ≤ j → ks[j]? = some k → key < k
theorem under_sides {ks : List Int} {vs : List V} {cs : List Tree} {i : Nat} {c : Tree} {key : Int} {a : Nat} (hv : vs.length = ks.length) (hcl : cs.length = ks.length + 1) (hi : i ≤ ks.length) (hc : cs[i]? = some c) (hs : Srt (ino (.node a ks vs cs))) (u : Under ks i key) :
    (∀ x ∈ inL ks vs cs i, x.1 < key) ∧ ∀ x ∈ inR ks vs cs i, key < x.1 := by
  rw [ino_at hv hi hc] at hs
  refine ⟨weaveL_lt hs fun p hp => ?_, weaveR_gt (Srt.right (Srt.right hs)) (fun p hp => ?_) fun q => ?_⟩
  · obtain ⟨j, hj, e⟩ := zip_mem_take hp
    exact u.lt j _ hj e
  · obtain ⟨j, hj, e⟩ := zip_mem_drop hp
    exact u.gt j _ hj e
  · have : ((ks.zip vs).drop i).length = 0 := by rw [q]; rfl
    rw [List.length_drop, zip_len hv] at this
    rw [List.drop_of_length_le (by (first | lia | omega))]; rfl
theorem put_child {ks : List Int} {vs : List V} {cs : List Tree} {i : Nat} {c c' : Tree} {key : Int} {v : V} {a : Nat} (hv : vs.length = ks.length) (hcl : cs.length = ks.length + 1) (hi : i ≤ ks.length) (hc : cs[i]? = some c) (hs : Srt (ino (.node a ks vs cs))) (u : Under ks i key)
    (h : ino c' = putL (ino c) key v) : ino (.node a ks vs (cs.set i c')) = putL (ino (.node a ks vs cs)) key v := by
  obtain ⟨h1, h2⟩ := under_sides hv hcl hi hc hs u
  rw [ino_set hv hi hc, ino_at hv hi hc, putL_mid h1 h2, h]
noncomputable def lefty (T b : Nat) (kb : List Int) (vb : List V) (cb : List Tree) : Tree := .node b (kb.take (T - 1)) (vb.take (T - 1)) (cb.take T)
noncomputable def righty (T r : Nat) (kb : List Int) (vb : List V) (cb : List Tree) : Tree := .node r (kb.drop T) (vb.drop T) (cb.drop T)
noncomputable def splitT (T a i r : Nat) (ks : List Int) (vs : List V) (cs : List Tree) (b : Nat) (kb : List Int) (vb : List V) (cb : List Tree) (mk : Int) (mv : V) : Tree :=
  .node a (ins ks i mk) (ins vs i mv) (cs.take i ++ lefty T b kb vb cb :: righty T r kb vb cb :: cs.drop (i + 1))
end ML
namespace ML
theorem addrsL_app : ∀ a b : List Tree, addrsL (a ++ b) = addrsL a ++ addrsL b
  | [], _ => rfl
  | t :: r, b => by show t.addrs ++ addrsL (r ++ b) = _; rw [addrsL_app r b]; simp [addrsL]
theorem HoldsL.iff {H : Heap} : ∀ {ts : List Tree}, HoldsL H ts ↔ ∀ t ∈ ts, Holds H t
  | [] => ⟨fun _ _ h => (nomatch h), fun _ => trivial⟩
  | t :: r => by
    constructor
    · intro h y hy
      cases hy with
      | head => exact h.1
      | tail _ m => exact HoldsL.iff.mp h.2 y m
    · intro h
      exact ⟨h t (.head _), HoldsL.iff.mpr fun y hy => h y (.tail _ hy)⟩
mutual
theorem addrs_inst {H : Heap} : ∀ {t : Tree}, Holds H t → ∀ b ∈ t.addrs, ∃ fs, H b = some (.inst 0 fs)
  | .node a ks vs cs, ⟨⟨k, v, c, h1, _⟩, h2⟩, b, hb => by
    rcases List.mem_cons.mp (show b ∈ a :: addrsL cs from hb) with rfl | hb
    · exact ⟨_, h1⟩
    · exact addrsL_inst h2 b hb
theorem addrsL_inst {H : Heap} : ∀ {ts : List Tree}, HoldsL H ts → ∀ b ∈ addrsL ts, ∃ fs, H b = some (.inst 0 fs)
  | t :: r, ⟨h1, h2⟩, b, hb => by
    rcases List.mem_append.mp (show b ∈ t.addrs ++ addrsL r from hb) with hb | hb
    · exact addrs_inst h1 b hb
    · exact addrsL_inst h2 b hb
end
noncomputable def Frame (A : List Nat) (G G' : Heap) : Prop := ∀ b o, G b = some o → b ∉ A → G' b = some o
noncomputable def Insts (A : List Nat) (G : Heap) : Prop := ∀ b ∈ A, ∃ c fs, G b = some (.inst c fs)
theorem NodeAt.frame {A : List Nat} {G G' : Heap} {a : Nat} {ks : List Int} {vs cs : List V} (h : NodeAt G a ks vs cs) (f : Frame A G G') (i : Insts A G) (n : a ∉ A) : NodeAt G' a ks vs cs := by
  obtain ⟨k, v, c, h1, h2, h3, h4⟩ := h
  have nl : ∀ {p xs}, G p = some (.list xs) → G' p = some (.list xs) := fun {p xs} hp => f _ _ hp fun q => by
    obtain ⟨_, _, e⟩ := i p q
    rw [hp] at e; cases e
  exact ⟨k, v, c, f _ _ h1 n, nl h2, nl h3, nl h4⟩
mutual
theorem Holds.frame {A : List Nat} {G G' : Heap} (f : Frame A G G') (i : Insts A G) : ∀ {t : Tree}, Holds G t → (∀ b ∈ t.addrs, b ∉ A) → Holds G' t
  | .node a _ _ cs, ⟨h1, h2⟩, n => ⟨h1.frame f i (n a (.head _)), HoldsL.frame f i h2 fun b hb => n b (.tail _ hb)⟩
theorem HoldsL.frame {A : List Nat} {G G' : Heap} (f : Frame A G G') (i : Insts A G) : ∀ {ts : List Tree}, HoldsL G ts → (∀ b ∈ addrsL ts, b ∉ A) → HoldsL G' ts
  | [], _, _ => trivial
  | _ :: _, ⟨h1, h2⟩, n => ⟨Holds.frame f i h1 fun b hb => n b (List.mem_append.mpr (.inl hb)), HoldsL.frame f i h2 fun b hb => n b (List.mem_append.mpr (.inr hb))⟩
end
structure Upd (G G' : Heap) (t t' : Tree) : Prop where
  addr : t'.addr = t.addr
  holds : Holds G' t'
  nodup : t'.addrs.Nodup
  new : ∀ b ∈ t'.addrs, b ∈ t.addrs ∨ G b = none
  frame : Frame t.addrs G G'
theorem Upd.refl {G : Heap} {t : Tree} (h : Holds G t) (n : t.addrs.Nodup) : Upd G G t t := ⟨rfl, h, n, fun _ hb => .inl hb, fun _ _ e _ => e⟩
theorem Upd.trans {G G1 G2 : Heap} {t t1 t2 : Tree} (x : Upd G G1 t t1) (y : Upd G1 G2 t1 t2) : Upd G G2 t t2 := by
  refine ⟨y.addr.trans x.addr, y.holds, y.nodup, fun b hb => ?_, fun b o e hb => y.frame b o (x.frame b o e hb) fun q => ?_⟩
  · rcases y.new b hb with q | q
    · exact x.new b q
    · by_cases hm : b ∈ t.addrs
      · exact .inl hm
      · cases e : G b with
        | none => exact .inr rfl
        | some o => rw [x.frame b o e hm] at q; cases q
  · rcases x.new b q with q | q
    · exact hb q
    · rw [e] at q; cases q
theorem addrs_node {a : Nat} {ks : List Int} {vs : List V} {cs : List Tree} : (Tree.node a ks vs cs).addrs = a :: addrsL cs := rfl
theorem Upd.child {G G' : Heap} {a : Nat} {ks : List Int} {vs : List V} {L R : List Tree} {c c' : Tree} (h : Holds G (.node a ks vs (L ++ c :: R))) (n : (Tree.node a ks vs (L ++ c :: R)).addrs.Nodup) (u : Upd G G' c c') :
    Upd G G' (.node a ks vs (L ++ c :: R)) (.node a ks vs (L ++ c' :: R)) := by
  obtain ⟨h1, h2⟩ := h
  have e : ∀ x : Tree, addrsL (L ++ x :: R) = addrsL L ++ (x.addrs ++ addrsL R) := fun x => by rw [addrsL_app]; rfl
  rw [addrs_node, e] at n
  obtain ⟨n1, n2⟩ := List.nodup_cons.mp n
  obtain ⟨nL, nR, nX⟩ := List.nodup_append.mp n2
  obtain ⟨nC, nR, nY⟩ := List.nodup_append.mp nR
  have hL : HoldsL G L := HoldsL.iff.mpr fun t ht => HoldsL.iff.mp h2 t (List.mem_append.mpr (.inl ht))
  have hR : HoldsL G R := HoldsL.iff.mpr fun t ht => HoldsL.iff.mp h2 t (List.mem_append.mpr (.inr (.tail _ ht)))
  have hC : Holds G c := HoldsL.iff.mp h2 c (List.mem_append.mpr (.inr (.head _)))
  have iA : Insts c.addrs G := fun b hb => let ⟨fs, e⟩ := addrs_inst hC b hb; ⟨_, fs, e⟩
  have dis : ∀ b ∈ c'.addrs, ∀ {p : Prop}, (b ∈ c.addrs → p) → (G b = none → p) → p := fun b hb p f g => (u.new b hb).elim f g
  have no : ∀ {b : Nat} {ts : List Tree}, HoldsL G ts → b ∈ addrsL ts → G b ≠ none := fun hts hb q => by
    obtain ⟨fs, e⟩ := addrsL_inst hts _ hb
    rw [q] at e; cases e
  refine ⟨rfl, ⟨?_, ?_⟩, ?_, ?_, ?_⟩
  · have er : refsOf (L ++ c' :: R) = refsOf (L ++ c :: R) := by simp [refsOf, u.addr]
    rw [er]
    exact h1.frame u.frame iA fun q => n1 (List.mem_append.mpr (.inr (List.mem_append.mpr (.inl q))))
  · refine HoldsL.iff.mpr fun t ht => ?_
    rcases List.mem_append.mp ht with q | q
    · exact HoldsL.iff.mp (HoldsL.frame u.frame iA hL fun b hb q => nX b hb b (List.mem_append.mpr (.inl q)) rfl) t q
    · rcases List.mem_cons.mp q with rfl | q
      · exact u.holds
      · exact HoldsL.iff.mp (HoldsL.frame u.frame iA hR fun b hb q => nY b q b hb rfl) t q
  · rw [addrs_node, e]
    refine List.nodup_cons.mpr ⟨fun q => ?_, List.nodup_append.mpr ⟨nL, List.nodup_append.mpr ⟨u.nodup, nR, fun x hx y hy q => ?_⟩, fun x hx y hy q => ?_⟩⟩
    · rcases List.mem_append.mp q with q | q
      · exact n1 (List.mem_append.mpr (.inl q))
      · rcases List.mem_append.mp q with q | q
        · refine dis a q (fun q => n1 (List.mem_append.mpr (.inr (List.mem_append.mpr (.inl q))))) fun q => ?_
          obtain ⟨_, _, _, e, _⟩ := h1
          rw [q] at e; cases e
        · exact n1 (List.mem_append.mpr (.inr (List.mem_append.mpr (.inr q))))
    · subst q
      exact dis x hx (fun q => nY x q x hy rfl) fun q => no hR hy q
    · subst q
      rcases List.mem_append.mp hy with q | q
      · exact dis x q (fun q => nX x hx x (List.mem_append.mpr (.inl q)) rfl) fun q => no hL hx q
      · exact nX x hx x (List.mem_append.mpr (.inr q)) rfl
  · intro b hb
    rw [addrs_node, e] at hb ⊢
    rcases List.mem_cons.mp hb with rfl | hb
    · exact .inl (.head _)
    · rcases List.mem_append.mp hb with q | q
      · exact .inl (.tail _ (List.mem_append.mpr (.inl q)))
      · rcases List.mem_append.mp q with q | q
        · rcases u.new b q with q | q
          · exact .inl (.tail _ (List.mem_append.mpr (.inr (List.mem_append.mpr (.inl q)))))
          · exact .inr q
        · exact .inl (.tail _ (List.mem_append.mpr (.inr (List.mem_append.mpr (.inr q)))))
  · intro b o eb hb
    refine u.frame b o eb fun q => hb ?_
    rw [addrs_node, e]
    exact .tail _ (List.mem_append.mpr (.inr (List.mem_append.mpr (.inl q))))
end ML
namespace ML
theorem cut_to {α : Type} {xs : List α} {h : Int} : cut xs none (some h) = xs.take h.toNat := rfl
theorem cut_from {α : Type} {xs : List α} {l : Int} : cut xs (some l) none = xs.drop l.toNat := rfl
theorem lim1 {n : Nat} (h : n ≤ 100001) : n ≤ lim := Nat.le_trans h (by decide)
theorem le1 {n : Nat} (h : n ≤ 100000) : n ≤ 100001 := Nat.le_succ_of_le h
section
variable {T : Nat → Option Fn} (S : Sys T)
end
end ML
namespace ML
theorem mem_set {α : Type} {l : List α} {i : Nat} {x y : α} (h : y ∈ l.set i x) : y = x ∨ y ∈ l := (List.mem_or_eq_of_mem_set h).symm
theorem descend {D h a i : Nat} {G G' : Heap} {ks : List Int} {vs : List V} {cs : List Tree} {c c' : Tree} {key : Int} {v : V} (hh : Holds G (.node a ks vs cs)) (n : (Tree.node a ks vs cs).addrs.Nodup) (s : Sh D (h + 1) (.node a ks vs cs)) (srt : Srt (ino (.node a ks vs cs))) (hc : cs[i]? = some c) (hi : i ≤ ks.length) (u : Under ks i key)
    (x : Upd G G' c c') (s' : Sh D h c') (hk : D - 1 ≤ c'.keys.length) (e : ino c' = putL (ino c) key v) :
    Upd G G' (.node a ks vs cs) (.node a ks vs (cs.set i c')) ∧ Sh D (h + 1) (.node a ks vs (cs.set i c')) ∧ ino (.node a ks vs (cs.set i c')) = putL (ino (.node a ks vs cs)) key v ∧ (ino (.node a ks vs (cs.set i c'))).length + (ino c).length = (ino (.node a ks vs cs)).length + (ino c').length := by
  obtain ⟨s1, s2, s3, s4⟩ := s
  have hlt : i < cs.length := by
    by_cases q : i < cs.length
    · exact q
    · rw [List.getElem?_eq_none (by (first | lia | omega))] at hc; cases hc
  have hcs := get_split hc
  refine ⟨?_, ⟨by rw [List.length_set]; exact s1, s2, s3, fun d hd => ?_⟩, put_child s2 s1 hi hc srt u e, ?_⟩
  · have := Upd.child (L := cs.take i) (R := cs.drop (i + 1)) (hcs ▸ hh) (hcs ▸ n) x
    rw [← hcs, ← set_split hlt] at this
    exact this
  · rcases mem_set hd with rfl | q
    · exact ⟨s', hk⟩
    · exact s4 d q
  · rw [ino_set s2 hi hc, ino_at s2 hi hc]
    simp only [List.length_append]; (first | lia | omega)
theorem child_of {D h a i : Nat} {G : Heap} {ks : List Int} {vs : List V} {cs : List Tree} {c : Tree} (hh : Holds G (.node a ks vs cs)) (n : (Tree.node a ks vs cs).addrs.Nodup) (s : Sh D (h + 1) (.node a ks vs cs)) (srt : Srt (ino (.node a ks vs cs))) (hc : cs[i]? = some c) (hi : i ≤ ks.length) :
    Holds G c ∧ c.addrs.Nodup ∧ Srt (ino c) ∧ (ino c).length ≤ (ino (.node a ks vs cs)).length ∧ (∀ b ∈ c.addrs, b ∈ (Tree.node a ks vs cs).addrs) ∧ Sh D h c ∧ D - 1 ≤ c.keys.length := by
  obtain ⟨s1, s2, s3, s4⟩ := s
  have hm := List.mem_of_getElem? hc
  have hcs := get_split hc
  have ea : addrsL cs = addrsL (cs.take i) ++ (c.addrs ++ addrsL (cs.drop (i + 1))) := by
    conv => lhs; rw [hcs]
    rw [addrsL_app]; rfl
  refine ⟨HoldsL.iff.mp hh.2 c hm, ?_, ?_, ?_, fun b hb => ?_, s4 c hm⟩
  · have := (List.nodup_cons.mp n).2
    rw [ea] at this
    exact (List.nodup_append.mp (List.nodup_append.mp this).2.1).1
  · rw [ino_at s2 hi hc] at srt
    exact srt.right.left
  · rw [ino_at s2 hi hc]; simp only [List.length_append]; (first | lia | omega)
  · rw [addrs_node, ea]
    exact .tail _ (List.mem_append.mpr (.inr (List.mem_append.mpr (.inl hb))))
section
variable {T : Nat → Option Fn} (S : Sys T)
noncomputable def Clo (Q : PV) (tv : V) (D : Nat) (cn : Nat) (ra : V) (size : Int) (key : Int) (v : V) (G : Heap) (t : Tree) (h : Nat) : Prop :=
  ∀ t' G', Upd G G' t t' → Sh D h t' → t.keys.length ≤ t'.keys.length → ino t' = putL (ino t) key v →
    ((ino t').length = (ino t).length → Q .none G') ∧ ((ino t').length = (ino t).length + 1 → Q .none (G'.upd cn (.inst 1 [(3, tv), (4, ra), (5, .int (size + 1))])))
theorem Clo.child {Q : PV} {tv : V} {D cn h a i : Nat} {ra v : V} {size key : Int} {G : Heap} {ks : List Int} {vs : List V} {cs : List Tree} {c : Tree} (hh : Holds G (.node a ks vs cs)) (n : (Tree.node a ks vs cs).addrs.Nodup) (s : Sh D (h + 1) (.node a ks vs cs)) (srt : Srt (ino (.node a ks vs cs))) (hc : cs[i]? = some c) (hi : i ≤ ks.length) (u : Under ks i key)
    (k : Clo Q tv D cn ra size key v G (.node a ks vs cs) (h + 1)) : Clo Q tv D cn ra size key v G c h := by
  intro c' G' x s' hk e
  obtain ⟨_, _, _, _, _, _, hm⟩ := child_of hh n s srt hc hi
  obtain ⟨d1, d2, d3, d4⟩ := descend hh n s srt hc hi u x s' (Nat.le_trans hm hk) e
  obtain ⟨k1, k2⟩ := k _ _ d1 d2 (Nat.le_refl _) d3
  exact ⟨fun q => k1 (by (first | lia | omega)), fun q => k2 (by (first | lia | omega))⟩
theorem Clo.trans {Q : PV} {tv : V} {D cn h : Nat} {ra v : V} {size key : Int} {G G1 : Heap} {t t1 : Tree} (x : Upd G G1 t t1) (e : ino t1 = ino t) (hl : t.keys.length ≤ t1.keys.length) (k : Clo Q tv D cn ra size key v G t h) : Clo Q tv D cn ra size key v G1 t1 h := by
  intro t' G' y s' hk e'
  have := k t' G' (x.trans y) s' (Nat.le_trans hl hk) (by rw [e', e])
  rw [e]; exact this
end
end ML
namespace ML
section
variable {T : Nat → Option Fn} (S : Sys T) {H : Heap}
theorem at_k {a : Nat} {ks : List Int} {vs cs : List V} {Q : V → Prop} (n : NodeAt H a ks vs cs) (k : ∀ p, H p = some (.list (ks.map V.int)) → Q (.ref p)) : attrW (.ref a) 0 H Q := by
  refine absG fun Cg hCg => ?_
  obtain ⟨p, _, _, h1, h2, _, _⟩ := n
  refine hCg ?_; clear hCg
  exact v_attr h1 rfl (k p h2)
theorem at_v {a : Nat} {ks : List Int} {vs cs : List V} {Q : V → Prop} (n : NodeAt H a ks vs cs) (k : ∀ p, H p = some (.list vs) → Q (.ref p)) : attrW (.ref a) 1 H Q := by
  refine absG fun Cg hCg => ?_
  obtain ⟨_, p, _, h1, _, h2, _⟩ := n
  refine hCg ?_; clear hCg
  exact v_attr h1 rfl (k p h2)
theorem at_c {a : Nat} {ks : List Int} {vs cs : List V} {Q : V → Prop} (n : NodeAt H a ks vs cs) (k : ∀ p, H p = some (.list cs) → Q (.ref p)) : attrW (.ref a) 2 H Q := by
  refine absG fun Cg hCg => ?_
  obtain ⟨_, _, p, h1, _, _, h2⟩ := n
  refine hCg ?_; clear hCg
  exact v_attr h1 rfl (k p h2)
theorem at_inst {a f : Nat} {ks : List Int} {vs cs : List V} {P : Prop} (n : NodeAt H a ks vs cs) (hf : methCls f = 0) (k : P) : isInst H (methCls f) (.ref a) ∧ P := by
  refine absG fun Cg hCg => ?_
  obtain ⟨_, _, _, h1, _⟩ := n
  refine hCg ?_; clear hCg
  rw [hf]
  exact v_isInst h1 k
theorem NodeAt.i {a : Nat} {ks : List Int} {vs cs : List V} (n : NodeAt H a ks vs cs) : Insts [a] H := fun b hb => by
  refine absG fun Cg hCg => ?_
  obtain ⟨_, _, _, h1, _⟩ := n
  refine hCg ?_; clear hCg
  rw [List.mem_singleton.mp hb]; exact ⟨_, _, h1⟩
theorem NodeAt.past {a b : Nat} {G : Heap} {ks ks' : List Int} {vs cs vs' cs' : List V} (n : NodeAt H a ks vs cs) (m : NodeAt H b ks' vs' cs') (f : Frame [b] H G) (hn : a ≠ b) : NodeAt G a ks vs cs := n.frame f m.i (fun q => hn (List.mem_singleton.mp q))
theorem Frame.leL {A : List Nat} {G G1 : Heap} (l : H.le G) (f : Frame A G G1) : Frame A H G1 := fun b o e hb => f b o (l _ _ e) hb
theorem Frame.join {A B C : List Nat} {G G1 : Heap} (f : Frame A H G) (g : Frame B G G1) (h1 : ∀ x ∈ A, x ∈ C) (h2 : ∀ x ∈ B, x ∈ C) : Frame C H G1 := fun b o e hb => g b o (f b o e fun q => hb (h1 b q)) fun q => hb (h2 b q)
theorem Frame.lst {a p : Nat} {G : Heap} {ks : List Int} {vs cs xs : List V} (f : Frame [a] H G) (n : NodeAt H a ks vs cs) (hp : H p = some (.list xs)) : G p = some (.list xs) := f _ _ hp fun q => by
  refine absG fun Cg hCg => ?_
  obtain ⟨_, _, e⟩ := n.i p q
  refine hCg ?_; clear hCg
  rw [hp] at e; cases e
theorem lay_node (h4 : T 4 = some f_lay) {a p q r : Nat} {ks ks' : List Int} {vs cs vs' cs' : List V} {Q : PV} (n : NodeAt H a ks vs cs) (hp : H p = some (.list (ks'.map V.int))) (hq : H q = some (.list vs')) (hr : H r = some (.list cs'))
    (k : ∀ G, NodeAt G a ks' vs' cs' → Frame [a] H G → Q .none G) : S.Φ 4 [.ref a, .ref p, .ref q, .ref r] H Q := by
  refine absG fun Cg hCg => ?_
  obtain ⟨_, _, _, h1, _⟩ := n
  refine hCg ?_; clear hCg
  refine spec_lay S h4 h1 (k _ ⟨p, q, r, upd_self, ?_, ?_, ?_⟩ fun b o e hb => ?_)
  · rw [upd_ne (fun e => by rw [e, h1] at hp; cases hp)]; exact hp
  · rw [upd_ne (fun e => by rw [e, h1] at hq; cases hq)]; exact hq
  · rw [upd_ne (fun e => by rw [e, h1] at hr; cases hr)]; exact hr
  · rw [upd_ne (fun q => hb (by rw [q]; exact .head _))]; exact e
noncomputable def del {α : Type} (l : List α) (i : Nat) : List α := l.take i ++ l.drop (i + 1)
theorem del_map {α β : Type} {f : α → β} {l : List α} {i : Nat} : (del l i).map f = del (l.map f) i := by unfold del; rw [List.map_append, List.map_take, List.map_drop]
theorem spec_row_without (h6 : T 6 = some f_row_without) {p i : Nat} {xs : List V} {Q : PV} (hp : H p = some (.list xs)) (hz : xs.length ≤ 100001) (k : ∀ b G, H.le G → H b = none → G b = some (.list (del xs i)) → Q (.ref b) G) : S.Φ 6 [.ref p, .int i] H Q := by
  refine S.call h6 rfl ?_
  dsimp only [f_row_without]
  walk_at "m"
  walk_at "n"
  refine v_sliceL hp rfl rfl rfl trivial (Int.natCast_nonneg _) (lim1 hz) fun y1 Y1 m1 n1 e1 => ?_
  refine v_sliceL (m1 _ _ hp) rfl rfl rfl (Int.natCast_nonneg (i + 1)) trivial (lim1 hz) fun y2 Y2 m2 _ e2 => ?_
  have hl : (cut xs none (some (i : Int))).length + (cut xs (some ((i : Int) + 1)) none).length ≤ lim := by
    rw [cut_to, cut_from, List.length_drop]
    have := List.length_take_le' (i : Int).toNat xs
    show _ ≤ 1000000
    (first | lia | omega)
  refine v_addLL (m2 _ _ e1) e2 hl fun y3 Y3 m3 n3 e3 => ?_
  exact end_ret rfl (k y3 Y3 (Heap.le_trans m1 (Heap.le_trans m2 m3)) (fresh_le (Heap.le_trans m1 m2) n3) e3)
theorem zadd {a b : Nat} (h1 : a ≤ 300000) (h2 : b ≤ 300000) : a + b ≤ lim := Nat.le_trans (Nat.add_le_add h1 h2) (by decide)
theorem zmap {ks : List Int} (h : ks.length ≤ 100000) : (ks.map V.int).length ≤ 300000 := by rw [List.length_map]; exact Nat.le_trans h (by decide)
theorem spec_merge (h4 : T 4 = some f_lay) (h6 : T 6 = some f_row_without) (h12 : T 12 = some f_merge_children) {self : V} {a b e i : Nat} {ks kb ke : List Int} {vs vb ve cs cb ce : List V} {k : Int} {v : V} {Q : PV} (na : NodeAt H a ks vs cs) (nb : NodeAt H b kb vb cb) (ne : NodeAt H e ke ve ce)
    (ci : cs[i]? = some (.ref b)) (ci1 : cs[i + 1]? = some (.ref e)) (hk : ks[i]? = some k) (hv : vs[i]? = some v) (hab : a ≠ b) (hi : i ≤ 100000) (z1 : ks.length ≤ 100000) (z2 : vs.length ≤ 100000) (z3 : cs.length ≤ 100001) (z4 : kb.length ≤ 100000) (z5 : vb.length ≤ 100000) (z6 : cb.length ≤ 100001) (z7 : ke.length ≤ 100000) (z8 : ve.length ≤ 100000) (z9 : ce.length ≤ 100001)
    (q : ∀ G, NodeAt G a (del ks i) (del vs i) (del cs (i + 1)) → NodeAt G b (kb ++ [k] ++ ke) (vb ++ [v] ++ ve) (cb ++ ce) → Frame [a, b] H G → Q .none G) : S.Φ 12 [self, .ref a, .int i] H Q := by
  refine S.call h12 rfl ?_
  dsimp only [f_merge_children]
  walk_at "m"
  walk_at "n"
  refine at_c na fun p hp => ?_
  refine v_idxN hp rfl (Nat.le_trans hi (by decide)) ci ?_
  walk_at "n"
  refine at_c na fun p hp => ?_
  refine v_idxN (k := i + 1) hp rfl (Nat.le_trans (Nat.succ_le_succ hi) (by decide)) ci1 ?_
  walk_at "n"
  refine at_inst nb rfl (at_k nb fun p1 e1 => at_k na fun p2 e2 => ?_)
  refine v_idxN (v := .int k) e2 rfl (Nat.le_trans hi (by decide)) (by rw [List.getElem?_map, hk]; rfl) ?_
  refine v_allocL fun y1 Y1 m1 _ g1 => ?_
  refine v_addLL (m1 _ _ e1) g1 (zadd (zmap z4) (by simp)) fun y2 Y2 m2 _ g2 => ?_
  have M2 := Heap.le_trans m1 m2
  refine at_k (ne.le M2) fun p3 e3 => ?_
  refine v_addLL g2 e3 (zadd (by rw [List.length_append, List.length_map]; simp only [List.length_cons, List.length_nil]; (first | lia | omega)) (zmap z7)) fun y3 Y3 m3 _ g3 => ?_
  have M3 := Heap.le_trans M2 m3
  clear g1 g2 e1 e2 e3 m1 m2 m3 M2
  refine at_v (nb.le M3) fun p1 e1 => at_v (na.le M3) fun p2 e2 => ?_
  refine v_idxN e2 rfl (Nat.le_trans hi (by decide)) hv ?_
  refine v_allocL fun y4 Y4 m4 _ g4 => ?_
  refine v_addLL (m4 _ _ e1) g4 (zadd (Nat.le_trans z5 (by decide)) (by simp)) fun y5 Y5 m5 _ g5 => ?_
  have M5 := Heap.le_trans M3 (Heap.le_trans m4 m5)
  have g3 := m5 _ _ (m4 _ _ g3)
  refine at_v (ne.le M5) fun p3 e3 => ?_
  refine v_addLL g5 e3 (zadd (by rw [List.length_append]; simp only [List.length_cons, List.length_nil]; (first | lia | omega)) (Nat.le_trans z8 (by decide))) fun y6 Y6 m6 _ g6 => ?_
  have M6 := Heap.le_trans M5 m6
  have g3 := m6 _ _ g3
  clear g4 g5 e1 e2 e3 m4 m5 m6 M5 M3
  refine at_c (nb.le M6) fun p1 e1 => at_c (ne.le M6) fun p2 e2 => ?_
  refine v_addLL e1 e2 (zadd (Nat.le_trans z6 (by decide)) (Nat.le_trans z9 (by decide))) fun y7 Y7 m7 _ g7 => ?_
  have M7 := Heap.le_trans M6 m7
  have g3 := m7 _ _ g3
  have g6 := m7 _ _ g6
  walk_at "m"
  refine lay_node S h4 (ks' := kb ++ [k] ++ ke) (nb.le M7) (by rw [g3]; simp) g6 g7 fun G1 nb1 f1 => ?_
  walk_at "m"
  have na1 := (na.le M7).past (nb.le M7) f1 hab
  clear g3 g6 g7 e1 e2 m7 M6
  walk_at "n"
  refine at_inst na1 rfl (at_k na1 fun p1 e1 => ?_)
  refine spec_row_without S h6 e1 (by rw [List.length_map]; exact le1 z1) fun y1 Y1 m1 _ g1 => ?_
  refine at_v (na1.le m1) fun p2 e2 => ?_
  refine spec_row_without S h6 e2 (le1 z2) fun y2 Y2 m2 _ g2 => ?_
  have M2 := Heap.le_trans m1 m2
  refine at_c (na1.le M2) fun p3 e3 => ?_
  refine spec_row_without S h6 (i := i + 1) e3 z3 fun y3 Y3 m3 _ g3 => ?_
  have M3 := Heap.le_trans M2 m3
  walk_at "m"
  refine lay_node S h4 (ks' := del ks i) (na1.le M3) (by rw [m3 _ _ (m2 _ _ g1), del_map]) (m3 _ _ g2) g3 fun G2 na2 f2 => ?_
  walk_at "m"
  refine n_nil (end_ret rfl (q G2 na2 ((nb1.le M3).past (na1.le M3) f2 hab.symm) ?_))
  exact (f1.leL M7).join (f2.leL M3) (fun x hx => by rw [List.mem_singleton.mp hx]; exact .tail _ (.head _)) (fun x hx => by rw [List.mem_singleton.mp hx]; exact .head _)
end
end ML
namespace ML
namespace L0013
noncomputable def f__law_keys : Fn := ⟨2, 3, [
  .assign 2 (.bop .add (.lit (.int 1)) (.bop .mod (.call 50 [(.var 0), (.lit (.int 5))]) (.lit (.int 9)))),
  .ret (some (.comp (.bop .add (.call 50 [(.var 0), (.lit (.int 4))]) (.bop .mul (.var 3) (.var 2))) 1 (.of (.var 1)) none))]⟩
noncomputable def f__law_values : Fn := ⟨2, 2, [
  .ret (some (.comp (.bop .sub (.call 50 [(.var 0), (.lit (.int 6))]) (.bop .mul (.var 2) (.var 2))) 1 (.of (.var 1)) none))]⟩
noncomputable def leafE : E := .new 0 [(.call 51 [(.var 0), (.list [(.bop .add (.var 1) (.bop .mul (.lit (.int 2)) (.var 5)))])]), (.call 52 [(.var 0), (.list [(.bop .add (.var 1) (.bop .mul (.lit (.int 2)) (.var 5)))])]), (.list [])]
noncomputable def f__law_child : Fn := ⟨4, 5, [
  .assign 4 (.list []),
  .ite (.var 3) [
    .assign 4 (.comp leafE 1 (.rng1 (.bop .add (.prim .len [(.var 2)]) (.lit (.int 1)))) none)] [],
  .ret (some (.new 0 [(.call 51 [(.var 0), (.var 2)]), (.call 52 [(.var 0), (.var 2)]), (.var 4)]))]⟩
noncomputable def f__law_same : Fn := ⟨2, 2, [
  .ite (.cmp .ne (.prim .len [(.var 0)]) (.prim .len [(.var 1)])) [
    .ret (some (.lit (.bool false)))] [],
  .ret (some (.prim .same [(.var 0), (.var 1)]))]⟩
noncomputable def refs (l : List Nat) : List V := l.map V.ref
theorem refs_get {l : List Nat} {i a : Nat} (h : l[i]? = some a) : (refs l)[i]? = some (.ref a) := by rw [refs, List.getElem?_map, h]; rfl
theorem refs_len {l : List Nat} : (refs l).length = l.length := by unfold refs; rw [List.length_map]
theorem refs_app {l m : List Nat} : refs (l ++ m) = refs l ++ refs m := by unfold refs; rw [List.map_append]
theorem NodeAt_le {G G' : Heap} {a : Nat} {ks : List Int} {vs cs : List V} (n : NodeAt G a ks vs cs) (L : G.le G') : NodeAt G' a ks vs cs := let ⟨p, q, r, h1, h2, h3, h4⟩ := n; ⟨p, q, r, L _ _ h1, L _ _ h2, L _ _ h3, L _ _ h4⟩
noncomputable def nats (ps : List Nat) : List V := ps.map fun n : Nat => V.int (n : Int)
noncomputable def keyOf (ns : List Int) (p : Int) : Int := cell ns 4 + p * (1 + cell ns 5 % 9)
noncomputable def valOf (ns : List Int) (p : Int) : Int := cell ns 6 - p * p
noncomputable def kr (ns : List Int) (ps : List Nat) : List Int := ps.map fun n : Nat => keyOf ns n
noncomputable def vr (ns : List Int) (ps : List Nat) : List Int := ps.map fun n : Nat => valOf ns n
theorem kr_len {ns : List Int} {ps : List Nat} : (kr ns ps).length = ps.length := by unfold kr; rw [List.length_map]
theorem vr_len {ns : List Int} {ps : List Nat} : (vr ns ps).length = ps.length := by unfold vr; rw [List.length_map]
theorem nats_len {ps : List Nat} : (nats ps).length = ps.length := by unfold nats; rw [List.length_map]
theorem nats_mem {ps : List Nat} {x : V} (h : x ∈ nats ps) : ∃ n, n ∈ ps ∧ x = .int (n : Int) := by
  unfold nats at h
  obtain ⟨n, hn, rfl⟩ := List.mem_map.mp h
  exact ⟨n, hn, rfl⟩
noncomputable def keyV (ns : List Int) : V → V
  | .int i => .int (keyOf ns i)
  | v => v
noncomputable def valV (ns : List Int) : V → V
  | .int i => .int (valOf ns i)
  | v => v
theorem keyV_map {ns : List Int} {ps : List Nat} : (nats ps).map (keyV ns) = (kr ns ps).map V.int := by unfold nats kr; rw [List.map_map, List.map_map]; rfl
theorem valV_map {ns : List Int} {ps : List Nat} : (nats ps).map (valV ns) = (vr ns ps).map V.int := by unfold nats vr; rw [List.map_map, List.map_map]; rfl
section
variable {T : Nat → Option Fn} (S : Sys T)
theorem spec_keys (h50 : T 50 = some f_law_cell) (h51 : T 51 = some f__law_keys) {H : Heap} {a p : Nat} {ns : List Int} {ps : List Nat} {Q : PV} (ha : H a = some (.ro (ns.map V.int))) (hn : ns.length ≤ 63) (hp : H p = some (.list (nats ps))) (zp : ps.length ≤ 1000)
    (k : ∀ r G, H.le G → H r = none → G r = some (.list ((kr ns ps).map V.int)) → Q (.ref r) G) : S.Φ 51 [.ref a, .ref p] H Q := by
  have hlim : lim = 1000000 := rfl
  refine S.call h51 rfl ?_
  dsimp only [f__law_keys]
  walk_at "m"
  walk_at "n"
  refine spec_cell S h50 ha (by decide) hn (v_modI (by decide) ?_)
  walk_at "m"
  walk_at "n"
  have hb := emod_b (cell ns 5) 9 (by decide)
  have hm : mid (1 + cell ns 5 % 9) := by unfold mid; (first | lia | omega)
  refine v_of hp rfl ?_
  refine comp_map (keyV ns) hp (by rw [nats_len]; (first | lia | omega)) (fun x hx K hK => ?_) fun b nb => ?_
  · obtain ⟨n, _, rfl⟩ := nats_mem hx
    walk_at "m"
    refine spec_cell S h50 ha (by decide) hn ?_
    refine v_mulI (.inr hm) ?_
    walk_at "m"
    exact hK
  · rw [keyV_map]
    exact end_ret rfl (k b _ (Heap.le_upd nb) nb upd_self)
theorem spec_values (h50 : T 50 = some f_law_cell) (h52 : T 52 = some f__law_values) {H : Heap} {a p : Nat} {ns : List Int} {ps : List Nat} {Q : PV} (ha : H a = some (.ro (ns.map V.int))) (hn : ns.length ≤ 63) (hp : H p = some (.list (nats ps))) (zp : ps.length ≤ 1000) (zs : ∀ n ∈ ps, n ≤ 1000)
    (k : ∀ r G, H.le G → H r = none → G r = some (.list ((vr ns ps).map V.int)) → Q (.ref r) G) : S.Φ 52 [.ref a, .ref p] H Q := by
  have hlim : lim = 1000000 := rfl
  refine S.call h52 rfl ?_
  dsimp only [f__law_values]
  walk_at "m"
  walk_at "n"
  refine v_of hp rfl ?_
  refine comp_map (valV ns) hp (by rw [nats_len]; (first | lia | omega)) (fun x hx K hK => ?_) fun b nb => ?_
  · obtain ⟨n, hn', rfl⟩ := nats_mem hx
    walk_at "m"
    refine spec_cell S h50 ha (by decide) hn ?_
    refine v_mulI (.inr (mid_nat (Nat.le_trans (zs n hn') (by decide)))) ?_
    walk_at "m"
    exact hK
  · rw [valV_map]
    exact end_ret rfl (k b _ (Heap.le_upd nb) nb upd_self)
theorem spec_same (h54 : T 54 = some f__law_same) {G : Heap} {p q P : Nat} {rs : List Nat} {Q : PV} (hp : G p = some (.list (refs rs))) (hq : G q = some (.list (refs rs))) (hz : rs.length ≤ 1000) (hP : G P = some (.dict [])) (k : Q (.bool true) G) : S.Φ 54 [.ref p, .ref q] G Q := by
  have hlim : lim = 1000000 := rfl
  refine S.call h54 rfl ?_
  dsimp only [f__law_same]
  walk_at "m"
  walk_at "n"
  refine v_len hp rfl (v_len hq rfl ?_)
  walk_at "m"
  refine v_ifF (by simp) ?_
  walk_at "n"
  exact ⟨⟨rs, hp, hq, by (first | lia | omega)⟩, ⟨P, hP⟩, end_ret rfl k⟩
end
theorem comp_acc {Φ : Orac} {elt : Loc → Heap → PV → Prop} {m : Loc} {n : Nat} {H : Heap} {Q : PV} (J : Nat → List V → Heap → Prop) (h0 : J 0 [] H) (hn : n ≤ 1000) (hl : ∀ j acc G, J j acc G → acc.length = j)
    (he : ∀ j acc G (K : PV), j < n → J j acc G → (∀ v G', J (j + 1) (acc ++ [v]) G' → K v G') → elt (m ++ [some (.int j)]) G K)
    (k : ∀ acc G b G', J n acc G → G.le G' → G b = none → G' b = some (.list acc) → Q (.ref b) G') : compW elt (wpC Φ none) 1 (fun _ => True) m (rngList 0 n) [] H Q := by
  have hlim : lim = 1000000 := rfl
  have hlr : (rngList 0 (n : Int)).length = n := by rw [rngList_len]; (first | lia | omega)
  refine comp_inv J h0 (fun j x acc G K hx hI hK => ?_) fun acc G hI => ?_
  · obtain ⟨rfl, hlt⟩ := rngList_get hx
    rw [Int.zero_add]
    have := hl _ _ _ hI
    refine ⟨trivial, by (first | lia | omega), ?_⟩
    show (if true = true then elt (m ++ [some (.int j)]) G fun v H => ∃ H', H'.le H ∧ K (acc ++ [v]) H' else K acc G)
    rw [if_pos rfl]
    exact he j acc G _ (by (first | lia | omega)) hI fun v G' h => ⟨G', Heap.le_refl _, hK _ _ h⟩
  · rw [hlr] at hI
    have := hl _ _ _ hI
    exact ⟨trivial, by (first | lia | omega), fun b hb => k acc G b _ hI (Heap.le_upd hb) hb upd_self⟩
noncomputable def Nd (G : Heap) (x : Nat) : Prop := ∃ K X L, NodeAt G x K (List.map V.int X) (refs L) ∧ K.length ≤ 10 ∧ X.length ≤ 10 ∧ L.length ≤ 10
theorem Nd.le {G G' : Heap} {x : Nat} (h : Nd G x) (L : G.le G') : Nd G' x := let ⟨K, X, M, h1, h2⟩ := h; ⟨K, X, M, NodeAt_le h1 L, h2⟩
theorem Nd.inst {G : Heap} {x : Nat} (h : Nd G x) : ∃ fs, G x = some (.inst 0 fs) := let ⟨_, _, _, ⟨_, _, _, e, _⟩, _⟩ := h; ⟨_, e⟩
section
variable {T : Nat → Option Fn} (S : Sys T)
theorem leaf_ok (h0 : T 0 = some f_Node_init) (h50 : T 50 = some f_law_cell) (h51 : T 51 = some f__law_keys) (h52 : T 52 = some f__law_values) {H : Heap} {a st j : Nat} {ns : List Int} {x2 x3 x4 : Option V} {Q : PV} (ha : H a = some (.ro (ns.map V.int))) (hn : ns.length ≤ 63) (zs : st ≤ 100) (zj : j ≤ 100)
    (k : ∀ x G, H.le G → H x = none → Nd G x → Q (.ref x) G) : wpE S.Φ leafE [some (.ref a), some (.int st), x2, x3, x4, some (.int j)] H Q := by
  have hlim : lim = 1000000 := rfl
  unfold leafE
  walk_at "m"
  have ej : (st : Int) + 2 * (j : Int) = ((st + 2 * j : Nat) : Int) := rfl
  refine v_mulI (.inl (mid_of (by decide) (by decide))) ?_
  walk_at "m"
  rw [ej]
  refine v_allocL fun b1 G1 L1 n1 e1 => ?_
  refine spec_keys S h50 h51 (ps := [st + 2 * j]) (L1 _ _ ha) hn e1 (by simp) fun r1 G2 L2 n2 e2 => ?_
  have L02 := Heap.le_trans L1 L2
  refine v_mulI (.inl (mid_of (by decide) (by decide))) ?_
  walk_at "m"
  rw [ej]
  refine v_allocL fun b3 G3 L3 n3 e3 => ?_
  have L03 := Heap.le_trans L02 L3
  refine spec_values S h50 h52 (ps := [st + 2 * j]) (L03 _ _ ha) hn e3 (by simp) (fun n hn' => by rw [List.mem_singleton.mp hn']; (first | lia | omega)) fun r4 G4 L4 n4 e4 => ?_
  refine v_allocL fun b5 G5 L5 n5 e5 => ?_
  have L45 := Heap.le_trans L4 L5
  have L05 := Heap.le_trans L03 L45
  refine new_node S h0 fun x nx => ?_
  have L6 := Heap.le_upd (o := .inst 0 [(0, .ref r1), (1, .ref r4), (2, .ref b5)]) nx
  have e6 : (G5.upd x (.inst 0 [(0, .ref r1), (1, .ref r4), (2, .ref b5)])) x = some (.inst 0 [(0, .ref r1), (1, .ref r4), (2, .ref b5)]) := upd_self
  generalize G5.upd x (.inst 0 [(0, .ref r1), (1, .ref r4), (2, .ref b5)]) = G6 at L6 e6
  refine k x G6 (Heap.le_trans L05 L6) (fresh_le L05 nx) ⟨kr ns [st + 2 * j], vr ns [st + 2 * j], [], ⟨r1, r4, b5, e6, Heap.le_trans L3 (Heap.le_trans L45 L6) _ _ e2, Heap.le_trans L5 L6 _ _ e4, L6 _ _ e5⟩, by rw [kr_len]; simp, by rw [vr_len]; simp, by simp⟩
theorem spec_child (h0 : T 0 = some f_Node_init) (h50 : T 50 = some f_law_cell) (h51 : T 51 = some f__law_keys) (h52 : T 52 = some f__law_values) (h53 : T 53 = some f__law_child) {H : Heap} {a p st : Nat} {ns : List Int} {ps : List Nat} {deep : Bool} {Q : PV} (ha : H a = some (.ro (ns.map V.int))) (hn : ns.length ≤ 63) (hp : H p = some (.list (nats ps))) (zp : ps.length ≤ 4) (zz : ∀ n ∈ ps, n ≤ 1000) (zs : st ≤ 100)
    (k : ∀ r G L, H.le G → H r = none → r ∉ L → (∀ x ∈ L, H x = none) → L.length ≤ 5 → (∀ x ∈ L, Nd G x) → NodeAt G r (kr ns ps) ((vr ns ps).map V.int) (refs L) → Q (.ref r) G) : S.Φ 53 [.ref a, .int st, .ref p, .bool deep] H Q := by
  have hlim : lim = 1000000 := rfl
  refine S.call h53 rfl ?_
  dsimp only [f__law_child]
  walk_at "m"
  walk_at "n"
  refine v_allocL fun b1 G1 L1 n1 e1 => ?_
  have fin : ∀ G p4 L, H.le G → G p4 = some (.list (refs L)) → (∀ x ∈ L, H x = none) → L.length ≤ 5 → (∀ x ∈ L, Nd G x) →
      wpSs S.Φ [.ret (some (.new 0 [(.call 51 [(.var 0), (.var 2)]), (.call 52 [(.var 0), (.var 2)]), (.var 4)]))] [some (.ref a), some (.int st), some (.ref p), some (.bool deep), some (.ref p4)] G (fun fl _ H' => ∃ H'', H''.le H' ∧ Q fl.val H'') := by
    intro G p4 L LG h4 fr zl nd
    walk_at "n"
    refine spec_keys S h50 h51 (LG _ _ ha) hn (LG _ _ hp) (by (first | lia | omega)) fun r1 G2 L2 n2 e2 => ?_
    have L02 := Heap.le_trans LG L2
    refine spec_values S h50 h52 (L02 _ _ ha) hn (L02 _ _ hp) (by (first | lia | omega)) zz fun r3 G3 L3 n3 e3 => ?_
    have L23 := Heap.le_trans L2 L3
    refine new_node S h0 fun x nx => ?_
    have L6 := Heap.le_upd (o := .inst 0 [(0, .ref r1), (1, .ref r3), (2, .ref p4)]) nx
    have e6 : (G3.upd x (.inst 0 [(0, .ref r1), (1, .ref r3), (2, .ref p4)])) x = some (.inst 0 [(0, .ref r1), (1, .ref r3), (2, .ref p4)]) := upd_self
    generalize G3.upd x (.inst 0 [(0, .ref r1), (1, .ref r3), (2, .ref p4)]) = G6 at L6 e6
    have L26 := Heap.le_trans L23 L6
    refine end_ret rfl (k x G6 L (Heap.le_trans LG L26) (fresh_le (Heap.le_trans LG L23) nx) (fun q => ?_) fr zl (fun y hy => (nd y hy).le L26) ⟨r1, r3, p4, e6, Heap.le_trans L3 L6 _ _ e2, L6 _ _ e3, L26 _ _ h4⟩)
    obtain ⟨fs, e⟩ := (nd x q).inst
    rw [L23 _ _ e] at nx; cases nx
  walk_at "n"
  cases deep with
  | false =>
    refine v_ifF rfl ?_
    refine n_nil (n_then ?_)
    exact fin G1 b1 [] L1 e1 (fun _ h => nomatch h) (by simp) (fun _ h => nomatch h)
  | true =>
    refine v_ifT rfl ?_
    walk_at "n"
    refine v_len (L1 _ _ hp) rfl ?_
    rw [nats_len]
    walk_at "m"
    have el : (ps.length : Int) + 1 = ((ps.length + 1 : Nat) : Int) := rfl
    rw [el]
    refine v_rng1 (mid_nat (by (first | lia | omega))) ?_
    refine comp_acc (fun j acc G => H.le G ∧ ∃ L : List Nat, acc = refs L ∧ L.length = j ∧ (∀ x ∈ L, H x = none) ∧ ∀ x ∈ L, Nd G x)
      ⟨L1, [], rfl, rfl, (fun _ h => nomatch h), (fun _ h => nomatch h)⟩ (by (first | lia | omega)) (fun j acc G hJ => by obtain ⟨_, L, rfl, e, _⟩ := hJ; rw [refs_len, e]) (fun j acc G K' hj hJ hK => ?_) fun acc G r G2 hJ L2 nr e2 => ?_
    · obtain ⟨LG, L, rfl, ll, fr, nd⟩ := hJ
      refine leaf_ok S h0 h50 h51 h52 (LG _ _ ha) hn zs (by (first | lia | omega)) fun x G' L' nx ndx => ?_
      refine hK _ _ ⟨Heap.le_trans LG L', L ++ [x], by rw [refs_app]; rfl, by rw [List.length_append, ll]; rfl, fun y hy => ?_, fun y hy => ?_⟩
      · rcases List.mem_append.mp hy with hy | hy
        · exact fr y hy
        · rw [List.mem_singleton.mp hy]; exact fresh_le LG nx
      · rcases List.mem_append.mp hy with hy | hy
        · exact (nd y hy).le L'
        · rw [List.mem_singleton.mp hy]; exact ndx
    · obtain ⟨LG, L, rfl, ll, fr, nd⟩ := hJ
      walk_at "m"
      refine n_nil (n_then ?_)
      exact fin G2 r L (Heap.le_trans LG L2) e2 fr (by (first | lia | omega)) fun y hy => (nd y hy).le L2
end
theorem forz_inv {body : Loc → Heap → PS → Prop} {i j : Nat} {ok : Heap → Prop} {ps : List (V × V)} {m : Loc} {H : Heap} {Q : PS} (I : Nat → Loc → Heap → Prop) (h0 : I 0 m H)
    (step : ∀ k x m H (K : Loc → Heap → Prop), ps[k]? = some x → I k m H → (∀ m' H', I (k + 1) m' H' → K m' H') → ok H ∧ body ((m.set i (some x.1)).set j (some x.2)) H (turnW K Q))
    (fin : ∀ m H, I ps.length m H → ok H ∧ Q .next m H) : forzL body i j ok ps m H Q := by
  have key : ∀ ys k m H, ps.drop k = ys → k ≤ ps.length → I k m H → forzL body i j ok ys m H Q := by
    intro ys
    induction ys with
    | nil =>
      intro k m H e hk hI
      exact fin m H (Nat.le_antisymm hk (List.drop_eq_nil_iff.mp e) ▸ hI)
    | cons y ys ih =>
      intro k m H e hk hI
      obtain ⟨h1, h2, h3⟩ := drop_head e
      exact step k y m H _ h1 hI fun m' H' hI' => ih (k + 1) m' H' h2 h3 hI'
  exact key ps 0 m H rfl (Nat.zero_le _) h0
noncomputable abbrev isTrue (P : Nat) : PS := fun fl _ H' => ∃ H'' : Heap, H''.le H' ∧ fl.val = V.bool true ∧ H'' P = some (.dict [])
noncomputable def bodyZ : List ML.S := [
    .ite (.or (.cmp .ne (.attr (.var 11) 0) (.idx (.var 20) (.lit (.int 0)))) (.cmp .ne (.attr (.var 11) 1) (.idx (.var 20) (.lit (.int 1))))) [
      .ret (some (.lit (.bool false)))] [],
    .ite (.not (.call 54 [(.attr (.var 11) 2), (.idx (.var 20) (.lit (.int 2)))])) [
      .ret (some (.lit (.bool false)))] []]
noncomputable def tailF : List ML.S := [
  .ite (.or (.cmp .ne (.attr (.var 14) 3) (.var 4)) (.cmp .ne (.attr (.var 14) 5) (.var 16))) [
    .ret (some (.lit (.bool false)))] [],
  .ite (.cmp .isnot (.attr (.var 14) 4) (.var 15)) [
    .ret (some (.lit (.bool false)))] [],
  .ret (some (.lit (.bool true)))]
noncomputable def tailE : List ML.S := .forz 11 20 (.var 10) (.var 12) bodyZ :: tailF
noncomputable def Bef (G : Heap) (x b : Nat) : Prop := ∃ K X L k v c, NodeAt G x K (List.map V.int X) (refs L) ∧ L.length ≤ 10 ∧ G b = some (.tup [.ref k, .ref v, .ref c]) ∧ G k = some (.list (K.map V.int)) ∧ G v = some (.list (X.map V.int)) ∧ G c = some (.list (refs L))
theorem Bef.le {G G' : Heap} {x b : Nat} (h : Bef G x b) (M : G.le G') : Bef G' x b := let ⟨K, X, L, k, v, c, h1, h2, h3, h4, h5, h6⟩ := h; ⟨K, X, L, k, v, c, NodeAt_le h1 M, h2, M _ _ h3, M _ _ h4, M _ _ h5, M _ _ h6⟩
section
variable {T : Nat → Option Fn} (S : Sys T)
theorem tailF_ok {G : Heap} {P pm : Nat} {t sz : Int} {rt : Nat} {x0 x1 x2 x3 x5 x6 x7 x8 x9 x10 x11 x12 x13 x17 x18 x19 x20 : Option V} (hP : G P = some (.dict [])) (hm : G pm = some (.inst 1 [(3, .int t), (4, .ref rt), (5, .int sz)])) :
    wpSs S.Φ tailF [x0, x1, x2, x3, some (.int t), x5, x6, x7, x8, x9, x10, x11, x12, x13, some (.ref pm), some (.ref rt), some (.int sz), x17, x18, x19, x20] G (isTrue P) := by
  unfold tailF
  walk_at "n"
  refine v_attr hm rfl ?_
  walk_at "m"
  refine v_ifF (by simp) ?_
  refine v_attr hm rfl ?_
  walk_at "m"
  refine v_ifF (by simp) ?_
  walk_at "n"
  refine v_attr hm rfl (v_isRef ?_)
  walk_at "m"
  walk_at "n"
  exact ⟨_, Heap.le_refl _, rfl, hP⟩
theorem tailE_ok (h54 : T 54 = some f__law_same) {G : Heap} {P pm p10 p12 : Nat} {t sz : Int} {rt : Nat} {oo bb : List Nat} {x0 x1 x2 x3 x5 x6 x7 x8 x9 x11 x13 x17 x18 x19 x20 : Option V} (hP : G P = some (.dict [])) (hm : G pm = some (.inst 1 [(3, .int t), (4, .ref rt), (5, .int sz)]))
    (ho : G p10 = some (.list (refs oo))) (hb : G p12 = some (.list (refs bb))) (ro : All2 (Bef G) oo bb) :
    wpSs S.Φ tailE [x0, x1, x2, x3, some (.int t), x5, x6, x7, x8, x9, some (.ref p10), x11, some (.ref p12), x13, some (.ref pm), some (.ref rt), some (.int sz), x17, x18, x19, x20] G (isTrue P) := by
  have hlim : lim = 1000000 := rfl
  unfold tailE
  rw [s_cons, s_forz]
  walk_at "m"
  have e1 : ((oo.zip bb).map fun p => (V.ref p.1, V.ref p.2)).map Prod.fst = refs oo := by
    unfold refs
    rw [List.map_map]
    have : (Prod.fst ∘ fun p : Nat × Nat => (V.ref p.1, V.ref p.2)) = V.ref ∘ Prod.fst := rfl
    rw [this, ← List.map_map, List.map_fst_zip (Nat.le_of_eq ro.len)]
  have e2 : ((oo.zip bb).map fun p => (V.ref p.1, V.ref p.2)).map Prod.snd = refs bb := by
    unfold refs
    rw [List.map_map]
    have : (Prod.snd ∘ fun p : Nat × Nat => (V.ref p.1, V.ref p.2)) = V.ref ∘ Prod.snd := rfl
    rw [this, ← List.map_map, List.map_snd_zip (Nat.le_of_eq ro.len.symm)]
  refine ⟨(oo.zip bb).map fun p => (V.ref p.1, V.ref p.2), ⟨by rw [e1]; exact ho, by rw [e2]; exact hb⟩, ?_⟩
  refine forz_inv (fun k m G' => ∃ y z, m = [x0, x1, x2, x3, some (.int t), x5, x6, x7, x8, x9, some (.ref p10), y, some (.ref p12), x13, some (.ref pm), some (.ref rt), some (.int sz), x17, x18, x19, z] ∧ G.le G')
    ⟨x11, x20, rfl, Heap.le_refl _⟩ (fun k x m G' K' hx hI hK => ?_) fun m G' hI => ?_
  · obtain ⟨y, z, rfl, L⟩ := hI
    refine ⟨⟨by rw [e1]; exact L _ _ ho, by rw [e2]; exact L _ _ hb⟩, ?_⟩
    rw [List.getElem?_map] at hx
    obtain ⟨⟨o, b⟩, hob, rfl⟩ := Option.map_eq_some_iff.mp hx
    obtain ⟨h1, h2⟩ := List.getElem?_zip_eq_some.mp hob
    obtain ⟨b', hb', be⟩ := ro.at' h1
    rw [h2] at hb'; cases hb'
    obtain ⟨K, X, M, pk, pv, pc, nd, zM, g1, g2, g3, g4⟩ := be.le L
    unfold bodyZ
    walk_at "m"
    walk_at "n"
    refine at_k nd fun q1 k1 => ?_
    refine v_idx (v := .ref pk) g1 rfl (by decide) (by decide) rfl ?_
    refine v_neRt (d := .list (K.map ML.D.int)) (rd_ints k1 rfl) (rd_ints g2 rfl) ?_
    walk_at "m"
    refine at_v nd fun q2 k2 => ?_
    refine v_idx (v := .ref pv) g1 rfl (by decide) (by decide) rfl ?_
    refine v_neRt (d := .list (X.map ML.D.int)) (rd_ints k2 rfl) (rd_ints g3 rfl) ?_
    walk_at "m"
    walk_at "n"
    refine at_c nd fun q3 k3 => ?_
    refine v_idx (v := .ref pc) g1 rfl (by decide) (by decide) rfl ?_
    refine spec_same S h54 k3 g4 (by (first | lia | omega)) (L _ _ hP) ?_
    walk_at "m"
    refine n_nil (turn_next (hK _ _ ⟨_, _, rfl, L⟩))
  · obtain ⟨y, z, rfl, L⟩ := hI
    refine ⟨⟨by rw [e1]; exact L _ _ ho, by rw [e2]; exact L _ _ hb⟩, n_then ?_⟩
    exact tailF_ok S (L _ _ hP) (L _ _ hm)
end
noncomputable def spot (j n : Nat) : List Nat := (List.range n).map fun h => 10 * j + 2 * h + 1
noncomputable def ups (n : Nat) : List Nat := (List.range n).map fun j => 10 * j + 9
theorem spot_len {j n : Nat} : (spot j n).length = n := by unfold spot; rw [List.length_map, List.length_range]
theorem ups_len {n : Nat} : (ups n).length = n := by unfold ups; rw [List.length_map, List.length_range]
theorem spot_mem {j n x : Nat} (h : x ∈ spot j n) (hn : n ≤ 3) : 10 * j < x ∧ x < 10 * j + 7 := by
  unfold spot at h
  obtain ⟨k, hk, rfl⟩ := List.mem_map.mp h
  have := List.mem_range.mp hk
  (first | lia | omega)
theorem spot_up {j n : Nat} : (spot j n).Pairwise (· ≤ ·) := by
  unfold spot
  refine List.pairwise_map.mpr ((List.pairwise_lt_range).imp fun h => ?_)
  (first | lia | omega)
theorem line_up {i a b : Nat} (ha : a ≤ 3) (hb : b ≤ 3) : (spot i a ++ [10 * i + 9] ++ spot (i + 1) b).Pairwise (· ≤ ·) := by
  refine List.pairwise_append.mpr ⟨List.pairwise_append.mpr ⟨spot_up, by simp, fun x hx y hy => ?_⟩, spot_up, fun x hx y hy => ?_⟩
  · have := spot_mem hx ha
    have := List.mem_singleton.mp hy
    (first | lia | omega)
  · have := spot_mem hy hb
    rcases List.mem_append.mp hx with hx | hx
    · have := spot_mem hx ha
      (first | lia | omega)
    · have := List.mem_singleton.mp hx
      (first | lia | omega)
theorem sort_uniq {ks zs : List Int} (p : ks.Perm zs) (h1 : ks.Pairwise (· ≤ ·)) (h2 : zs.Pairwise (· ≤ ·)) : ks = zs := by
  first
    | exact p.eq_of_pairwise (fun x y _ _ h1 h2 => Int.le_antisymm h1 h2) h1 h2
    | exact p.eq_of_sorted (fun x y _ _ h1 h2 => Int.le_antisymm h1 h2) h1 h2
noncomputable def zs (l : List Nat) : List Int := l.map fun n : Nat => (n : Int)
theorem zs_nats {l : List Nat} : (zs l).map V.int = nats l := by unfold zs nats; rw [List.map_map]; rfl
theorem joined_eq {i a b : Nat} {ks : List Int} (ha : a ≤ 3) (hb : b ≤ 3) (p : ks.Perm (zs (spot i a ++ spot (i + 1) b ++ [10 * i + 9]))) (h1 : ks.Pairwise (· ≤ ·)) : ks = zs (spot i a ++ [10 * i + 9] ++ spot (i + 1) b) := by
  refine sort_uniq (p.trans ?_) h1 ?_
  · refine List.Perm.map _ ?_
    rw [List.append_assoc, List.append_assoc]
    exact List.Perm.append_left _ List.perm_append_comm
  · unfold zs
    refine List.pairwise_map.mpr ((line_up ha hb).imp fun h => ?_)
    (first | lia | omega)
theorem ups_get {n i : Nat} (h : i < n) : (ups n)[i]? = some (10 * i + 9) := by unfold ups; rw [List.getElem?_map, List.getElem?_range h]; rfl
noncomputable def neV (k : Int) : V → Bool
  | .int i => decide (i ≠ k)
  | _ => false
noncomputable def kidV (l : List V) : V → V
  | .int z => l.getD z.toNat .none
  | v => v
theorem stay_nats {n i : Nat} (hn : n ≤ 3) (hi : i < n) : (nats (ups n)).filter (neV ((10 * i + 9 : Nat) : Int)) = nats (del (ups n) i) := by
  match n, i, hn, hi with
  | 1, 0, _, _ => rfl
  | 2, 0, _, _ => rfl
  | 2, 1, _, _ => rfl
  | 3, 0, _, _ => rfl
  | 3, 1, _, _ => rfl
  | 3, 2, _, _ => rfl
  | 0, _, _, h => (first | lia | omega)
  | n + 4, _, h, _ => (first | lia | omega)
  | 1, i + 1, _, h => (first | lia | omega)
  | 2, i + 2, _, h => (first | lia | omega)
  | 3, i + 3, _, h => (first | lia | omega)
theorem kids_nats {n i : Nat} {l : List V} (hn : n ≤ 3) (hi : i < n) (hl : l.length = n + 1) : ((rngList 0 ((n + 1 : Nat) : Int)).filter (neV ((i + 1 : Nat) : Int))).map (kidV l) = del l (i + 1) := by
  match n, i, l, hn, hi, hl with
  | 1, 0, [_, _], _, _, _ => rfl
  | 2, 0, [_, _, _], _, _, _ => rfl
  | 2, 1, [_, _, _], _, _, _ => rfl
  | 3, 0, [_, _, _, _], _, _, _ => rfl
  | 3, 1, [_, _, _, _], _, _, _ => rfl
  | 3, 2, [_, _, _, _], _, _, _ => rfl
  | 0, _, _, _, h, _ => (first | lia | omega)
  | n + 4, _, _, h, _, _ => (first | lia | omega)
  | 1, i + 1, _, _, h, _ => (first | lia | omega)
  | 2, i + 2, _, _, h, _ => (first | lia | omega)
  | 3, i + 3, _, _, h, _ => (first | lia | omega)
structure Aft (G : Heap) (ns : List Int) (a P n i na nb : Nat) (p5 p6 p7 p13 pa lf s1 s2 : Nat) (ss kids LL : List Nat) : Prop where
  ha : G a = some (.ro (ns.map V.int))
  hP : G P = some (.dict [])
  h5 : G p5 = some (.list (refs ss))
  e1 : ss[i]? = some s1
  e2 : ss[i + 1]? = some s2
  r1 : G s1 = some (.list (nats (spot i na)))
  r2 : G s2 = some (.list (nats (spot (i + 1) nb)))
  h6 : G p6 = some (.list (refs kids))
  ek : kids[i]? = some lf
  lk : kids.length = n + 1
  h7 : G p7 = some (.list (nats (ups n)))
  h13 : G p13 = some (.list (refs LL))
  left : NodeAt G lf (kr ns (spot i na ++ [10 * i + 9] ++ spot (i + 1) nb)) ((vr ns (spot i na ++ [10 * i + 9] ++ spot (i + 1) nb)).map V.int) (refs LL)
  par : NodeAt G pa (kr ns (del (ups n) i)) ((vr ns (del (ups n) i)).map V.int) (refs (del kids (i + 1)))
  zL : LL.length ≤ 20
  hn : n ≤ 3
  hi : i < n
  za : na ≤ 3
  zb : nb ≤ 3
theorem Aft.le {G G' : Heap} {ns : List Int} {a P n i na nb : Nat} {p5 p6 p7 p13 pa lf s1 s2 : Nat} {ss kids LL : List Nat} (f : Aft G ns a P n i na nb p5 p6 p7 p13 pa lf s1 s2 ss kids LL) (L : G.le G') : Aft G' ns a P n i na nb p5 p6 p7 p13 pa lf s1 s2 ss kids LL :=
  ⟨L _ _ f.ha, L _ _ f.hP, L _ _ f.h5, f.e1, f.e2, L _ _ f.r1, L _ _ f.r2, L _ _ f.h6, f.ek, f.lk, L _ _ f.h7, L _ _ f.h13, NodeAt_le f.left L, NodeAt_le f.par L, f.zL, f.hn, f.hi, f.za, f.zb⟩
noncomputable def tailD2 : List ML.S :=
  .assign 19 (.comp (.var 21) 1 (.of (.var 7)) (some (.cmp .ne (.var 21) (.idx (.var 7) (.var 2))))) ::
  .ite (.cmp .ne (.attr (.var 8) 0) (.call 51 [(.var 0), (.var 19)])) [
    .ret (some (.lit (.bool false)))] [] ::
  .ite (.cmp .ne (.attr (.var 8) 1) (.call 52 [(.var 0), (.var 19)])) [
    .ret (some (.lit (.bool false)))] [] ::
  .ite (.not (.call 54 [(.attr (.var 8) 2), (.comp (.idx (.var 6) (.var 21)) 1 (.rng1 (.bop .add (.var 1) (.lit (.int 1)))) (some (.cmp .ne (.var 21) (.bop .add (.var 2) (.lit (.int 1))))))])) [
    .ret (some (.lit (.bool false)))] [] :: tailE
noncomputable def tailD : List ML.S :=
  .assign 17 (.prim .sorted [(.bop .add (.bop .add (.idx (.var 5) (.var 2)) (.idx (.var 5) (.bop .add (.var 2) (.lit (.int 1))))) (.list [(.idx (.var 7) (.var 2))]))]) ::
  .assign 18 (.idx (.var 6) (.var 2)) ::
  .ite (.cmp .ne (.attr (.var 18) 0) (.call 51 [(.var 0), (.var 17)])) [
    .ret (some (.lit (.bool false)))] [] ::
  .ite (.cmp .ne (.attr (.var 18) 1) (.call 52 [(.var 0), (.var 17)])) [
    .ret (some (.lit (.bool false)))] [] ::
  .ite (.not (.call 54 [(.attr (.var 18) 2), (.var 13)])) [
    .ret (some (.lit (.bool false)))] [] :: tailD2
theorem add_l {H : Heap} {p q : Nat} {xs ys : List V} {Q : PV} (h1 : H p = some (.list xs)) (h2 : H q = some (.list ys)) (z1 : xs.length ≤ 2000) (z2 : ys.length ≤ 1000) (k : ∀ a H', H.le H' → H' a = some (.list (xs ++ ys)) → Q (.ref a) H') : bopW .add (.ref p) (.ref q) H Q :=
  v_addLL h1 h2 (Nat.le_trans (Nat.add_le_add z1 z2) (by decide)) fun a H' L _ e => k a H' L e
theorem del_len {α : Type} {l : List α} {i : Nat} : (del l i).length ≤ l.length := by
  unfold del
  rw [List.length_append, List.length_take, List.length_drop]
  (first | lia | omega)
theorem ups_le {n x : Nat} (hn : n ≤ 3) (h : x ∈ ups n) : x ≤ 1000 := by
  unfold ups at h
  obtain ⟨k, hk, rfl⟩ := List.mem_map.mp h
  have := List.mem_range.mp hk
  (first | lia | omega)
theorem del_mem {α : Type} {l : List α} {i : Nat} {x : α} (h : x ∈ del l i) : x ∈ l := by
  unfold del at h
  rcases List.mem_append.mp h with h | h
  · exact List.mem_of_mem_take h
  · exact List.mem_of_mem_drop h
section
variable {T : Nat → Option Fn} (S : Sys T)
theorem tailD2_ok (h50 : T 50 = some f_law_cell) (h51 : T 51 = some f__law_keys) (h52 : T 52 = some f__law_values) (h54 : T 54 = some f__law_same) {G : Heap} {ns : List Int} {a P n i na nb : Nat} {p5 p6 p7 p13 pa lf s1 s2 : Nat} {ss kids LL : List Nat} {pm p10 p12 : Nat} {t sz : Int} {rt : Nat} {oo bb : List Nat} {x3 x9 x11 x17 x18 x19 x20 : Option V} (hn : ns.length ≤ 63)
    (f : Aft G ns a P n i na nb p5 p6 p7 p13 pa lf s1 s2 ss kids LL) (hm : G pm = some (.inst 1 [(3, .int t), (4, .ref rt), (5, .int sz)])) (ho : G p10 = some (.list (refs oo))) (hb : G p12 = some (.list (refs bb))) (ro : All2 (Bef G) oo bb) :
    wpSs S.Φ tailD2 [some (.ref a), some (.int n), some (.int i), x3, some (.int t), some (.ref p5), some (.ref p6), some (.ref p7), some (.ref pa), x9, some (.ref p10), x11, some (.ref p12), some (.ref p13), some (.ref pm), some (.ref rt), some (.int sz), x17, x18, x19, x20] G (isTrue P) := by
  have hlim : lim = 1000000 := rfl
  have zn := f.hn
  have zi := f.hi
  have lk := f.lk
  unfold tailD2
  walk_at "n"
  refine v_of f.h7 rfl ?_
  refine comp_pure (neV ((10 * i + 9 : Nat) : Int)) id f.h7 (by rw [nats_len, ups_len]; (first | lia | omega)) (fun x hx K hK => ?_) (fun x hx _ K hK => ?_) fun b nb' => ?_
  · obtain ⟨q, _, rfl⟩ := nats_mem hx
    walk_at "m"
    refine v_idxN (v := .int ((10 * i + 9 : Nat) : Int)) f.h7 rfl (by (first | lia | omega)) (by unfold nats; rw [List.getElem?_map, ups_get zi]; rfl) ?_
    walk_at "m"
    exact hK
  · walk_at "m"
    exact hK
  rw [stay_nats zn zi, List.map_id]
  have L1 := Heap.le_upd (o := .list (nats (del (ups n) i))) nb'
  have e1 : (G.upd b (.list (nats (del (ups n) i)))) b = some (.list (nats (del (ups n) i))) := upd_self
  generalize G.upd b (.list (nats (del (ups n) i))) = G1 at L1 e1
  have zd : (del (ups n) i).length ≤ 1000 := Nat.le_trans del_len (by rw [ups_len]; (first | lia | omega))
  walk_at "n"
  refine at_k (NodeAt_le f.par L1) fun q1 k1 => ?_
  refine spec_keys S h50 h51 (L1 _ _ f.ha) hn e1 zd fun r2 G2 L2 _ e2 => ?_
  refine v_neRt (d := .list ((kr ns (del (ups n) i)).map ML.D.int)) (rd_ints (L2 _ _ k1) rfl) (rd_ints e2 rfl) ?_
  walk_at "m"
  have M2 := Heap.le_trans L1 L2
  walk_at "n"
  refine at_v (NodeAt_le f.par M2) fun q1 k1 => ?_
  refine spec_values S h50 h52 (M2 _ _ f.ha) hn (L2 _ _ e1) zd (fun x hx => ups_le zn (del_mem hx)) fun r3 G3 L3 _ e3 => ?_
  refine v_neRt (d := .list ((vr ns (del (ups n) i)).map ML.D.int)) (rd_ints (L3 _ _ k1) rfl) (rd_ints e3 rfl) ?_
  walk_at "m"
  have M3 := Heap.le_trans M2 L3
  walk_at "n"
  refine at_c (NodeAt_le f.par M3) fun q1 k1 => ?_
  have en : (n : Int) + 1 = ((n + 1 : Nat) : Int) := rfl
  have ei : (i : Int) + 1 = ((i + 1 : Nat) : Int) := rfl
  rw [en]
  refine v_rng1 (mid_nat (by (first | lia | omega))) ?_
  refine comp_pure (neV ((i + 1 : Nat) : Int)) (kidV (refs kids)) trivial (by rw [rngList_len]; (first | lia | omega)) (fun x hx K hK => ?_) (fun x hx _ K hK => ?_) fun b nb' => ?_
  · obtain ⟨q, hq⟩ := List.getElem?_of_mem hx
    obtain ⟨rfl, hlt⟩ := rngList_get hq
    rw [Int.zero_add]
    rw [Int.zero_add] at hK
    walk_at "m"
    exact hK
  · obtain ⟨q, hq⟩ := List.getElem?_of_mem hx
    obtain ⟨rfl, hlt⟩ := rngList_get hq
    rw [Int.zero_add]
    rw [Int.zero_add] at hK
    walk_at "m"
    have hql : q < kids.length := by (first | lia | omega)
    have eq : kids[q]? = some (kids[q]'hql) := List.getElem?_eq_getElem hql
    refine v_idxN (M3 _ _ f.h6) rfl (by (first | lia | omega)) (refs_get eq) ?_
    have ev : kidV (refs kids) (V.int (q : Int)) = .ref (kids[q]'hql) := by
      show (refs kids).getD (q : Int).toNat .none = _
      rw [Int.toNat_natCast, List.getD_eq_getElem?_getD, refs_get eq]; rfl
    rw [ev] at hK
    exact hK
  rw [kids_nats zn zi (by rw [refs_len, lk])]
  have ed : del (refs kids) (i + 1) = refs (del kids (i + 1)) := by unfold refs; rw [del_map]
  rw [ed]
  have L4 := Heap.le_upd (o := .list (refs (del kids (i + 1)))) nb'
  have e4 : (G3.upd b (.list (refs (del kids (i + 1))))) b = some (.list (refs (del kids (i + 1)))) := upd_self
  generalize G3.upd b (.list (refs (del kids (i + 1)))) = G4 at L4 e4
  have M4 := Heap.le_trans M3 L4
  refine spec_same S h54 (L4 _ _ k1) e4 (Nat.le_trans del_len (by (first | lia | omega))) (M4 _ _ f.hP) ?_
  walk_at "m"
  exact tailE_ok S h54 (M4 _ _ f.hP) (M4 _ _ hm) (M4 _ _ ho) (M4 _ _ hb) (All2.mono (fun _ _ h => h.le M4) ro)
theorem tailD_ok (h50 : T 50 = some f_law_cell) (h51 : T 51 = some f__law_keys) (h52 : T 52 = some f__law_values) (h54 : T 54 = some f__law_same) {G : Heap} {ns : List Int} {a P n i na nb : Nat} {p5 p6 p7 p13 pa lf s1 s2 : Nat} {ss kids LL : List Nat} {pm p10 p12 : Nat} {t sz : Int} {rt : Nat} {oo bb : List Nat} {x3 x9 x11 x17 x18 x19 x20 : Option V} (hn : ns.length ≤ 63)
    (f : Aft G ns a P n i na nb p5 p6 p7 p13 pa lf s1 s2 ss kids LL) (hm : G pm = some (.inst 1 [(3, .int t), (4, .ref rt), (5, .int sz)])) (ho : G p10 = some (.list (refs oo))) (hb : G p12 = some (.list (refs bb))) (ro : All2 (Bef G) oo bb) :
    wpSs S.Φ tailD [some (.ref a), some (.int n), some (.int i), x3, some (.int t), some (.ref p5), some (.ref p6), some (.ref p7), some (.ref pa), x9, some (.ref p10), x11, some (.ref p12), some (.ref p13), some (.ref pm), some (.ref rt), some (.int sz), x17, x18, x19, x20] G (isTrue P) := by
  have hlim : lim = 1000000 := rfl
  have zn := f.hn
  have zi := f.hi
  have za := f.za
  have zb := f.zb
  unfold tailD
  walk_at "n"
  refine v_idxN f.h5 rfl (by (first | lia | omega)) (refs_get f.e1) ?_
  refine v_idxN (k := i + 1) f.h5 rfl (by (first | lia | omega)) (refs_get f.e2) ?_
  refine add_l f.r1 f.r2 (by rw [nats_len, spot_len]; (first | lia | omega)) (by rw [nats_len, spot_len]; (first | lia | omega)) fun b1 G1 L1 e1 => ?_
  refine v_idxN (v := .int ((10 * i + 9 : Nat) : Int)) (L1 _ _ f.h7) rfl (by (first | lia | omega)) (by unfold nats; rw [List.getElem?_map, ups_get zi]; rfl) ?_
  refine v_allocL fun b2 G2 L2 n2 e2 => ?_
  refine add_l (L2 _ _ e1) e2 (by rw [List.length_append, nats_len, nats_len, spot_len, spot_len]; (first | lia | omega)) (by simp) fun b3 G3 L3 e3 => ?_
  have M3 := Heap.le_trans L1 (Heap.le_trans L2 L3)
  have ej : nats (spot i na) ++ nats (spot (i + 1) nb) ++ [V.int ((10 * i + 9 : Nat) : Int)] = (zs (spot i na ++ spot (i + 1) nb ++ [10 * i + 9])).map V.int := by
    rw [zs_nats]; unfold nats; rw [List.map_append, List.map_append]; rfl
  rw [ej] at e3
  refine v_sort e3 rfl (by unfold zs; rw [List.length_map, List.length_append, List.length_append, spot_len, spot_len]; simp; (first | lia | omega)) fun ks pk sk b4 nb4 => ?_
  rw [joined_eq za zb pk sk, zs_nats]
  have L4 := Heap.le_upd (o := .list (nats (spot i na ++ [10 * i + 9] ++ spot (i + 1) nb))) nb4
  have e4 : (G3.upd b4 (.list (nats (spot i na ++ [10 * i + 9] ++ spot (i + 1) nb)))) b4 = some (.list (nats (spot i na ++ [10 * i + 9] ++ spot (i + 1) nb))) := upd_self
  generalize G3.upd b4 (.list (nats (spot i na ++ [10 * i + 9] ++ spot (i + 1) nb))) = G4 at L4 e4
  have M4 := Heap.le_trans M3 L4
  have lJ : (spot i na ++ [10 * i + 9] ++ spot (i + 1) nb).length ≤ 1000 := by rw [List.length_append, List.length_append, spot_len, spot_len]; simp; (first | lia | omega)
  walk_at "n"
  refine v_idxN (M4 _ _ f.h6) rfl (by (first | lia | omega)) (refs_get f.ek) ?_
  walk_at "n"
  refine at_k (NodeAt_le f.left M4) fun q1 k1 => ?_
  refine spec_keys S h50 h51 (M4 _ _ f.ha) hn e4 lJ fun r5 G5 L5 _ e5 => ?_
  refine v_neRt (d := .list ((kr ns (spot i na ++ [10 * i + 9] ++ spot (i + 1) nb)).map ML.D.int)) (rd_ints (L5 _ _ k1) rfl) (rd_ints e5 rfl) ?_
  walk_at "m"
  have M5 := Heap.le_trans M4 L5
  walk_at "n"
  refine at_v (NodeAt_le f.left M5) fun q1 k1 => ?_
  refine spec_values S h50 h52 (M5 _ _ f.ha) hn (L5 _ _ e4) lJ (fun x hx => ?_) fun r6 G6 L6 _ e6 => ?_
  · rcases List.mem_append.mp hx with hx | hx
    · rcases List.mem_append.mp hx with hx | hx
      · have := spot_mem hx za; (first | lia | omega)
      · have := List.mem_singleton.mp hx; (first | lia | omega)
    · have := spot_mem hx zb; (first | lia | omega)
  refine v_neRt (d := .list ((vr ns (spot i na ++ [10 * i + 9] ++ spot (i + 1) nb)).map ML.D.int)) (rd_ints (L6 _ _ k1) rfl) (rd_ints e6 rfl) ?_
  walk_at "m"
  have M6 := Heap.le_trans M5 L6
  walk_at "n"
  refine at_c (NodeAt_le f.left M6) fun q1 k1 => ?_
  refine spec_same S h54 k1 (M6 _ _ f.h13) (by have := f.zL; (first | lia | omega)) (M6 _ _ f.hP) ?_
  walk_at "m"
  exact tailD2_ok S h50 h51 h52 h54 hn (f.le M6) (M6 _ _ hm) (M6 _ _ ho) (M6 _ _ hb) (All2.mono (fun _ _ h => h.le M6) ro)
end
structure Lay (B : Heap) (ns : List Int) (a P n i na nb : Nat) (p5 p6 p7 p10 p12 p13 pa lf rg s1 s2 : Nat) (ss kids L1 L2 oo bb : List Nat) : Prop where
  ha : B a = some (.ro (ns.map V.int))
  hP : B P = some (.dict [])
  h5 : B p5 = some (.list (refs ss))
  e1 : ss[i]? = some s1
  e2 : ss[i + 1]? = some s2
  r1 : B s1 = some (.list (nats (spot i na)))
  r2 : B s2 = some (.list (nats (spot (i + 1) nb)))
  h6 : B p6 = some (.list (refs kids))
  ek : kids[i]? = some lf
  ek1 : kids[i + 1]? = some rg
  lk : kids.length = n + 1
  h7 : B p7 = some (.list (nats (ups n)))
  h13 : B p13 = some (.list (refs (L1 ++ L2)))
  par : NodeAt B pa (kr ns (ups n)) ((vr ns (ups n)).map V.int) (refs kids)
  nl : NodeAt B lf (kr ns (spot i na)) ((vr ns (spot i na)).map V.int) (refs L1)
  nr : NodeAt B rg (kr ns (spot (i + 1) nb)) ((vr ns (spot (i + 1) nb)).map V.int) (refs L2)
  hab : pa ≠ lf
  h10 : B p10 = some (.list (refs oo))
  h12 : B p12 = some (.list (refs bb))
  ro : All2 (Bef B) oo bb
  no : ∀ x ∈ oo, x ∉ [pa, lf]
  z1 : L1.length ≤ 10
  z2 : L2.length ≤ 10
  hn : n ≤ 3
  hi : i < n
  za : na ≤ 3
  zb : nb ≤ 3
theorem Lay.le {B B' : Heap} {ns : List Int} {a P n i na nb : Nat} {p5 p6 p7 p10 p12 p13 pa lf rg s1 s2 : Nat} {ss kids L1 L2 oo bb : List Nat} (f : Lay B ns a P n i na nb p5 p6 p7 p10 p12 p13 pa lf rg s1 s2 ss kids L1 L2 oo bb) (L : B.le B') : Lay B' ns a P n i na nb p5 p6 p7 p10 p12 p13 pa lf rg s1 s2 ss kids L1 L2 oo bb :=
  ⟨L _ _ f.ha, L _ _ f.hP, L _ _ f.h5, f.e1, f.e2, L _ _ f.r1, L _ _ f.r2, L _ _ f.h6, f.ek, f.ek1, f.lk, L _ _ f.h7, L _ _ f.h13, NodeAt_le f.par L, NodeAt_le f.nl L, NodeAt_le f.nr L, f.hab, L _ _ f.h10, L _ _ f.h12, All2.mono (fun _ _ h => h.le L) f.ro, f.no, f.z1, f.z2, f.hn, f.hi, f.za, f.zb⟩
noncomputable def tailC : List ML.S :=
  .assign 15 (.attr (.var 14) 4) ::
  .assign 16 (.attr (.var 14) 5) ::
  .ite (.cmp .isnot (.meth 12 (.var 14) [(.var 8), (.var 2)]) (.lit .none)) [
    .ret (some (.lit (.bool false)))] [] :: tailD
noncomputable def sumE : E := .bop .add (.var 1) (.prim .sum [(.comp (.prim .len [(.attr (.var 21) 0)]) 1 (.of (.bop .add (.var 6) (.var 9))) none)])
noncomputable def tailB : List ML.S :=
  .assign 14 (.new 1 [(.var 4)]) ::
  .ite (.cmp .eq (.bop .mod (.call 50 [(.var 0), (.lit (.int 11))]) (.lit (.int 2))) (.lit (.int 0))) [
    .expr (.meth 7 (.var 14) [(.var 8), sumE])] [] :: tailC
theorem kr_app {ns : List Int} {l m : List Nat} : kr ns (l ++ m) = kr ns l ++ kr ns m := by unfold kr; rw [List.map_append]
theorem vr_app {ns : List Int} {l m : List Nat} : vr ns (l ++ m) = vr ns l ++ vr ns m := by unfold vr; rw [List.map_append]
theorem comp_int {Φ : Orac} {elt : Loc → Heap → PV → Prop} {ok : Heap → Prop} {m : Loc} {xs : List V} {H : Heap} {Q : PV} (hok : ok H) (hz : xs.length ≤ lim) (he : ∀ (j : Nat) x, xs[j]? = some x → ∀ K : PV, (∀ i, K (.int i) H) → elt (m ++ [some x]) H K)
    (k : ∀ (vs : List Int) b, vs.length = xs.length → H b = none → Q (.ref b) (H.upd b (.list (vs.map V.int)))) : compW elt (wpC Φ none) 1 ok m xs [] H Q := by
  refine comp_inv (fun j acc G => G = H ∧ ∃ vs : List Int, acc = vs.map V.int ∧ vs.length = j) ⟨rfl, [], rfl, rfl⟩ (fun j x acc G K hx hI hK => ?_) fun acc G hI => ?_
  · obtain ⟨rfl, vs, rfl, hl⟩ := hI
    have hj := lt_of_get hx
    refine ⟨hok, by rw [List.length_map]; (first | lia | omega), ?_⟩
    show (if true = true then elt (m ++ [some x]) G fun v H => ∃ H', H'.le H ∧ K (vs.map V.int ++ [v]) H' else K (vs.map V.int) G)
    rw [if_pos rfl]
    refine he j x hx _ fun i => ⟨G, Heap.le_refl _, hK _ _ ⟨rfl, vs ++ [i], ?_, ?_⟩⟩
    · rw [List.map_append]; rfl
    · rw [List.length_append, hl]; rfl
  · obtain ⟨rfl, vs, rfl, hl⟩ := hI
    exact ⟨hok, by rw [List.length_map]; (first | lia | omega), fun b hb => k vs b hl hb⟩
section
variable {T : Nat → Option Fn} (S : Sys T)
theorem tailC_ok (h4 : T 4 = some f_lay) (h6 : T 6 = some f_row_without) (h12 : T 12 = some f_merge_children) (h50 : T 50 = some f_law_cell) (h51 : T 51 = some f__law_keys) (h52 : T 52 = some f__law_values) (h54 : T 54 = some f__law_same) {B : Heap} {ns : List Int} {a P n i na nb : Nat} {p5 p6 p7 p10 p12 p13 pa lf rg s1 s2 : Nat} {ss kids L1 L2 oo bb : List Nat} {pm : Nat} {t sz : Int} {rt : Nat} {x3 x9 x11 x15 x16 x17 x18 x19 x20 : Option V} (hn : ns.length ≤ 63)
    (f : Lay B ns a P n i na nb p5 p6 p7 p10 p12 p13 pa lf rg s1 s2 ss kids L1 L2 oo bb) (hm : B pm = some (.inst 1 [(3, .int t), (4, .ref rt), (5, .int sz)])) :
    wpSs S.Φ tailC [some (.ref a), some (.int n), some (.int i), x3, some (.int t), some (.ref p5), some (.ref p6), some (.ref p7), some (.ref pa), x9, some (.ref p10), x11, some (.ref p12), some (.ref p13), some (.ref pm), x15, x16, x17, x18, x19, x20] B (isTrue P) := by
  have hlim : lim = 1000000 := rfl
  have zn := f.hn
  have zi := f.hi
  have za := f.za
  have zb := f.zb
  have z1 := f.z1
  have z2 := f.z2
  have lk := f.lk
  unfold tailC
  walk_at "n"
  refine v_attr hm rfl ?_
  walk_at "n"
  refine v_attr hm rfl ?_
  walk_at "n"
  refine v_isInst hm ?_
  refine spec_merge S h4 h6 h12 (k := keyOf ns ((10 * i + 9 : Nat) : Int)) (v := .int (valOf ns ((10 * i + 9 : Nat) : Int))) f.par f.nl f.nr (refs_get f.ek) (refs_get f.ek1) (by unfold kr; rw [List.getElem?_map, ups_get zi]; rfl) (by unfold vr; rw [List.getElem?_map, List.getElem?_map, ups_get zi]; rfl) f.hab (by (first | lia | omega)) (by rw [kr_len, ups_len]; (first | lia | omega)) (by rw [List.length_map, vr_len, ups_len]; (first | lia | omega)) (by rw [refs_len]; (first | lia | omega)) (by rw [kr_len, spot_len]; (first | lia | omega)) (by rw [List.length_map, vr_len, spot_len]; (first | lia | omega)) (by rw [refs_len]; (first | lia | omega)) (by rw [kr_len, spot_len]; (first | lia | omega)) (by rw [List.length_map, vr_len, spot_len]; (first | lia | omega)) (by rw [refs_len]; (first | lia | omega)) fun G na' nb' fr => ?_
  walk_at "m"
  have inst : ∀ b ∈ [pa, lf], ∃ fs, B b = some (.inst 0 fs) := fun b hb => by
    simp only [List.mem_cons, List.not_mem_nil, or_false] at hb
    rcases hb with rfl | rfl
    · obtain ⟨_, _, _, e, _⟩ := f.par; exact ⟨_, e⟩
    · obtain ⟨_, _, _, e, _⟩ := f.nl; exact ⟨_, e⟩
  have keep : ∀ {b : Nat} {o : O}, B b = some o → (∀ fs, o ≠ .inst 0 fs) → G b = some o := fun {b o} e hx => fr b o e fun q => by
    obtain ⟨fs, e'⟩ := inst b q
    rw [e] at e'; exact hx fs (Option.some.inj e')
  have keepL : ∀ {b : Nat} {xs : List V}, B b = some (.list xs) → G b = some (.list xs) := fun e => keep e fun _ q => by cases q
  have keepN : ∀ {b : Nat} {ks : List Int} {vs cs : List V}, NodeAt B b ks vs cs → b ∉ [pa, lf] → NodeAt G b ks vs cs := fun n hb => let ⟨p, q, s, h1, h2, h3, h4⟩ := n; ⟨p, q, s, fr _ _ h1 hb, keepL h2, keepL h3, keepL h4⟩
  have keepB : All2 (Bef G) oo bb := by
    have ro := f.ro
    have no := f.no
    clear f na' nb' hm
    induction ro with
    | nil => exact .nil
    | @cons x b xs bs h r ih =>
      refine .cons ?_ (ih fun y hy => no y (.tail _ hy))
      obtain ⟨K, X, L, k, v, c, h1, h2, h3, h4, h5, h6⟩ := h
      exact ⟨K, X, L, k, v, c, keepN h1 (no _ (.head _)), h2, keep h3 (fun _ q => by cases q), keepL h4, keepL h5, keepL h6⟩
  refine tailD_ok S h50 h51 h52 h54 hn (LL := L1 ++ L2) (lf := lf) ⟨keep f.ha (fun _ q => by cases q), keep f.hP (fun _ q => by cases q), keepL f.h5, f.e1, f.e2, keepL f.r1, keepL f.r2, keepL f.h6, f.ek, f.lk, keepL f.h7, keepL f.h13, ?_, ?_, by rw [List.length_append]; (first | lia | omega), zn, zi, za, zb⟩ (keep hm fun _ q => by cases q) (keepL f.h10) (keepL f.h12) keepB
  · have q1 : kr ns (spot i na ++ [10 * i + 9] ++ spot (i + 1) nb) = kr ns (spot i na) ++ [keyOf ns ((10 * i + 9 : Nat) : Int)] ++ kr ns (spot (i + 1) nb) := by rw [kr_app, kr_app]; rfl
    have q2 : (vr ns (spot i na ++ [10 * i + 9] ++ spot (i + 1) nb)).map V.int = (vr ns (spot i na)).map V.int ++ [.int (valOf ns ((10 * i + 9 : Nat) : Int))] ++ (vr ns (spot (i + 1) nb)).map V.int := by rw [vr_app, vr_app, List.map_append, List.map_append]; rfl
    rw [q1, q2, refs_app]
    exact nb'
  · have q1 : kr ns (del (ups n) i) = del (kr ns (ups n)) i := by unfold kr; rw [del_map]
    have q2 : (vr ns (del (ups n) i)).map V.int = del ((vr ns (ups n)).map V.int) i := by rw [← del_map]; unfold vr; rw [del_map]
    have q3 : refs (del kids (i + 1)) = del (refs kids) (i + 1) := by unfold refs; rw [del_map]
    rw [q1, q2, q3]
    exact na'
theorem tailB_ok (h0 : T 0 = some f_Node_init) (h1 : T 1 = some f_Canopy_init) (h4 : T 4 = some f_lay) (h6 : T 6 = some f_row_without) (h7 : T 7 = some f_adopt) (h12 : T 12 = some f_merge_children) (h50 : T 50 = some f_law_cell) (h51 : T 51 = some f__law_keys) (h52 : T 52 = some f__law_values) (h54 : T 54 = some f__law_same) {B : Heap} {ns : List Int} {a P n i na nb : Nat} {p5 p6 p7 p9 p10 p12 p13 pa lf rg s1 s2 : Nat} {ss kids L1 L2 oo bb bl : List Nat} {t : Int} {x3 x11 x14 x15 x16 x17 x18 x19 x20 : Option V} (hn : ns.length ≤ 63)
    (f : Lay B ns a P n i na nb p5 p6 p7 p10 p12 p13 pa lf rg s1 s2 ss kids L1 L2 oo bb) (h9 : B p9 = some (.list (refs bl))) (zl : bl.length ≤ 100) (nd : ∀ x ∈ kids ++ bl, Nd B x) :
    wpSs S.Φ tailB [some (.ref a), some (.int n), some (.int i), x3, some (.int t), some (.ref p5), some (.ref p6), some (.ref p7), some (.ref pa), some (.ref p9), some (.ref p10), x11, some (.ref p12), some (.ref p13), x14, x15, x16, x17, x18, x19, x20] B (isTrue P) := by
  have hlim : lim = 1000000 := rfl
  have zn := f.hn
  have lk := f.lk
  unfold tailB
  walk_at "n"
  refine new_canopy S h0 h1 fun cn rn B1 LB nc nn' nnc hc hrn => ?_
  walk_at "n"
  refine spec_cell S h50 (LB _ _ f.ha) (by decide) hn (v_modI (by decide) ?_)
  walk_at "m"
  refine v_if (fun e => ?_) fun e => ?_
  · walk_at "n"
    refine v_isInst hc ?_
    unfold sumE
    walk_at "m"
    refine add_l (LB _ _ f.h6) (LB _ _ h9) (by rw [refs_len]; (first | lia | omega)) (by rw [refs_len]; (first | lia | omega)) fun b2 B2 L2' e2 => ?_
    have M2 := Heap.le_trans LB L2'
    refine v_of e2 rfl ?_
    refine comp_int e2 (by rw [List.length_append, refs_len, refs_len]; (first | lia | omega)) (fun j x hx K' hK => ?_) fun vs b lv nb' => ?_
    · rw [← refs_app] at hx
      unfold refs at hx
      rw [List.getElem?_map] at hx
      obtain ⟨d, hd, rfl⟩ := Option.map_eq_some_iff.mp hx
      obtain ⟨K, X, L, h, _⟩ := (nd d (List.mem_of_getElem? hd)).le M2
      walk_at "m"
      exact at_k h fun p hp => v_len hp rfl (hK _)
    have L3 := Heap.le_upd (o := .list (vs.map V.int)) nb'
    have e3 : (B2.upd b (.list (vs.map V.int))) b = some (.list (vs.map V.int)) := upd_self
    generalize B2.upd b (.list (vs.map V.int)) = B3 at L3 e3
    refine v_sum e3 rfl ?_
    walk_at "m"
    have L23 := Heap.le_trans L2' L3
    refine spec_adopt S h7 (L23 _ _ hc) ?_
    walk_at "m"
    have LG : B.le (B3.upd cn (.inst 1 [(3, .int t), (4, .ref pa), (5, .int ((n : Int) + sumZ vs))])) := fun b o e => by
      have hb : b ≠ cn := fun q => by rw [q, nc] at e; cases e
      rw [upd_ne hb]; exact L23 _ _ (LB _ _ e)
    have hcn : (B3.upd cn (.inst 1 [(3, .int t), (4, .ref pa), (5, .int ((n : Int) + sumZ vs))])) cn = some (.inst 1 [(3, .int t), (4, .ref pa), (5, .int ((n : Int) + sumZ vs))]) := upd_self
    generalize B3.upd cn (.inst 1 [(3, .int t), (4, .ref pa), (5, .int ((n : Int) + sumZ vs))]) = G0 at LG hcn
    exact tailC_ok S h4 h6 h12 h50 h51 h52 h54 hn (f.le LG) hcn
  · exact tailC_ok S h4 h6 h12 h50 h51 h52 h54 hn (f.le LB) hc
end
theorem all2_of {α β : Type} {R : α → β → Prop} : ∀ {l : List α} {m : List β}, l.length = m.length → (∀ (j : Nat) a b, l[j]? = some a → m[j]? = some b → R a b) → All2 R l m := by
  intro l
  induction l with
  | nil => intro m e _; cases m with | nil => exact .nil | cons => cases e
  | cons a l ih =>
    intro m e h
    cases m with
    | nil => cases e
    | cons b m => exact .cons (h 0 a b rfl rfl) (ih (Nat.succ.inj e) fun j x y h1 h2 => h (j + 1) x y h1 h2)
theorem All2.both {α β γ δ : Type} {R : γ → δ → Prop} {f : α → γ} {g : β → δ} {l : List α} {m : List β} (h : All2 (fun a b => R (f a) (g b)) l m) : All2 R (l.map f) (m.map g) := by
  induction h with
  | nil => exact .nil
  | cons a _ ih => exact .cons a ih
theorem refs_flat {MM : List (List Nat)} : (MM.map refs).flatten = refs MM.flatten := by unfold refs; rw [List.map_flatten]
theorem flat_len {MM : List (List Nat)} {k : Nat} (h : ∀ M ∈ MM, M.length ≤ k) : MM.flatten.length ≤ k * MM.length := by
  induction MM with
  | nil => simp
  | cons M r ih =>
    have h1 := h M (.head _)
    have h2 := ih fun N hN => h N (.tail _ hN)
    rw [List.flatten_cons, List.length_append, List.length_cons, Nat.mul_succ]
    (first | lia | omega)
theorem refs_of {P : Nat → Prop} {l : List V} (h : ∀ v ∈ l, ∃ x, v = .ref x ∧ P x) : ∃ os, l = refs os ∧ ∀ x ∈ os, P x := by
  induction l with
  | nil => exact ⟨[], rfl, fun _ h => nomatch h⟩
  | cons v l ih =>
    obtain ⟨x, rfl, px⟩ := h v (.head _)
    obtain ⟨os, rfl, ho⟩ := ih fun w hw => h w (.tail _ hw)
    refine ⟨x :: os, rfl, fun y hy => ?_⟩
    rcases List.mem_cons.mp hy with rfl | hy
    · exact px
    · exact ho y hy
theorem comp_each {Φ : Orac} {elt : Loc → Heap → PV → Prop} {m : Loc} {p : Nat} {oo : List Nat} {H : Heap} {Q : PV} (R : Heap → Nat → Nat → Prop) (mono : ∀ G G' x b, G.le G' → R G x b → R G' x b) (hp : H p = some (.list (refs oo))) (hz : oo.length ≤ 1000)
    (he : ∀ x ∈ oo, ∀ G (K : PV), H.le G → (∀ b G', G.le G' → R G' x b → K (.ref b) G') → elt (m ++ [some (.ref x)]) G K)
    (k : ∀ b bs G', H.le G' → G' b = some (.list (refs bs)) → All2 (R G') oo bs → Q (.ref b) G') : compW elt (wpC Φ none) 1 (fun G => G p = some (.list (refs oo))) m (refs oo) [] H Q := by
  have hlim : lim = 1000000 := rfl
  refine comp_inv (fun j acc G => H.le G ∧ ∃ bs, acc = refs bs ∧ bs.length = j ∧ All2 (R G) (oo.take j) bs) ⟨Heap.le_refl _, [], rfl, rfl, .nil⟩ (fun j x acc G K hx hI hK => ?_) fun acc G hI => ?_
  · obtain ⟨L, bs, rfl, lb, r⟩ := hI
    have hj := lt_of_get hx
    rw [refs_len] at hj
    unfold refs at hx
    rw [List.getElem?_map] at hx
    obtain ⟨d, hd, rfl⟩ := Option.map_eq_some_iff.mp hx
    refine ⟨L _ _ hp, by rw [refs_len]; (first | lia | omega), ?_⟩
    show (if true = true then elt (m ++ [some (.ref d)]) G fun v H => ∃ H', H'.le H ∧ K (refs bs ++ [v]) H' else K (refs bs) G)
    rw [if_pos rfl]
    refine he d (List.mem_of_getElem? hd) G _ L fun b G' L' hr => ⟨G', Heap.le_refl _, hK _ _ ⟨Heap.le_trans L L', bs ++ [b], by rw [refs_app]; rfl, by rw [List.length_append, lb]; rfl, ?_⟩⟩
    rw [List.take_add_one, hd]
    exact All2.app (All2.mono (fun x b h => mono _ _ x b L' h) r) (.cons hr .nil)
  · obtain ⟨L, bs, rfl, lb, r⟩ := hI
    rw [refs_len] at lb r
    rw [List.take_length] at r
    refine ⟨L _ _ hp, by rw [refs_len]; (first | lia | omega), fun b hb => k b bs _ (Heap.le_trans L (Heap.le_upd hb)) upd_self (All2.mono (fun x b h => mono _ _ x b (Heap.le_upd hb) h) r)⟩
theorem sl_all {H : Heap} {p : Nat} {xs : List V} {Q : PV} (h : H p = some (.list xs)) (hz : xs.length ≤ 1000) (k : ∀ b H', H.le H' → H' b = some (.list xs) → Q (.ref b) H') : sliceW (.ref p) none none H Q :=
  v_sliceL (l := none) (h' := none) h rfl rfl rfl trivial trivial (Nat.le_trans hz (by decide)) fun a H' L _ e => k a H' L e
structure Pre (B : Heap) (ns : List Int) (a P n i : Nat) (p5 p6 p7 pa : Nat) (ss kids : List Nat) (MM : List (List Nat)) (cs : Nat → Nat) : Prop where
  ha : B a = some (.ro (ns.map V.int))
  hP : B P = some (.dict [])
  h5 : B p5 = some (.list (refs ss))
  ls : ss.length = n + 1
  rs : ∀ (j : Nat) s, ss[j]? = some s → B s = some (.list (nats (spot j (cs j))))
  h6 : B p6 = some (.list (refs kids))
  lk : kids.length = n + 1
  h7 : B p7 = some (.list (nats (ups n)))
  par : NodeAt B pa (kr ns (ups n)) ((vr ns (ups n)).map V.int) (refs kids)
  lM : MM.length = n + 1
  nd : ∀ (j : Nat) k M, kids[j]? = some k → MM[j]? = some M → NodeAt B k (kr ns (spot j (cs j))) ((vr ns (spot j (cs j))).map V.int) (refs M)
  zM : ∀ M ∈ MM, M.length ≤ 5
  lf : ∀ M ∈ MM, ∀ x ∈ M, Nd B x
  dist : kids.Nodup
  pk : pa ∉ kids
  sep : ∀ M ∈ MM, ∀ x ∈ M, x ∉ kids ∧ x ≠ pa
  zc : ∀ j, cs j ≤ 3
  hn : n ≤ 3
  hi : i < n
theorem Pre.le {B B' : Heap} {ns : List Int} {a P n i : Nat} {p5 p6 p7 pa : Nat} {ss kids : List Nat} {MM : List (List Nat)} {cs : Nat → Nat} (f : Pre B ns a P n i p5 p6 p7 pa ss kids MM cs) (L : B.le B') : Pre B' ns a P n i p5 p6 p7 pa ss kids MM cs :=
  ⟨L _ _ f.ha, L _ _ f.hP, L _ _ f.h5, f.ls, fun j s h => L _ _ (f.rs j s h), L _ _ f.h6, f.lk, L _ _ f.h7, NodeAt_le f.par L, f.lM, fun j k M h1 h2 => NodeAt_le (f.nd j k M h1 h2) L, f.zM, fun M h x hx => (f.lf M h x hx).le L, f.dist, f.pk, f.sep, f.zc, f.hn, f.hi⟩
noncomputable def othE : E := .bop .add (.comp (.idx (.var 6) (.var 21)) 1 (.rng1 (.bop .add (.var 1) (.lit (.int 1)))) (some (.and (.cmp .ne (.var 21) (.var 2)) (.cmp .ne (.var 21) (.bop .add (.var 2) (.lit (.int 1))))))) (.var 9)
noncomputable def tailA2 : List ML.S :=
  .assign 12 (.comp (.tup [(.slice (.attr (.var 21) 0) none none), (.slice (.attr (.var 21) 1) none none), (.slice (.attr (.var 21) 2) none none)]) 1 (.of (.var 10)) none) ::
  .assign 13 (.bop .add (.attr (.idx (.var 6) (.var 2)) 2) (.attr (.idx (.var 6) (.bop .add (.var 2) (.lit (.int 1)))) 2)) :: tailB
noncomputable def tailA : List ML.S := .assign 9 (.prim .kidsOf [(.var 6)]) :: .assign 10 othE :: tailA2
noncomputable def twoV (i : Nat) (v : V) : Bool := neV (i : Int) v && neV ((i + 1 : Nat) : Int) v
theorem Pre.all {B : Heap} {ns : List Int} {a P n i : Nat} {p5 p6 p7 pa : Nat} {ss kids : List Nat} {MM : List (List Nat)} {cs : Nat → Nat} (f : Pre B ns a P n i p5 p6 p7 pa ss kids MM cs) : ∀ x ∈ kids ++ MM.flatten, Nd B x := fun x hx => by
  rcases List.mem_append.mp hx with hx | hx
  · obtain ⟨j, hj⟩ := List.getElem?_of_mem hx
    have hl := lt_of_get hj
    have eM : MM[j]? = some (MM[j]'(by rw [f.lM, ← f.lk]; exact hl)) := List.getElem?_eq_getElem _
    generalize MM[j]'(by rw [f.lM, ← f.lk]; exact hl) = M at eM
    have zj := f.zc j
    have zM := f.zM M (List.mem_of_getElem? eM)
    exact ⟨_, _, _, f.nd j x M hj eM, by rw [kr_len, spot_len]; (first | lia | omega), by rw [vr_len, spot_len]; (first | lia | omega), by (first | lia | omega)⟩
  · obtain ⟨M, hM, hx⟩ := List.mem_flatten.mp hx
    exact f.lf M hM x hx
section
variable {T : Nat → Option Fn} (S : Sys T)
theorem tailA2_ok (h0 : T 0 = some f_Node_init) (h1 : T 1 = some f_Canopy_init) (h4 : T 4 = some f_lay) (h6 : T 6 = some f_row_without) (h7 : T 7 = some f_adopt) (h12 : T 12 = some f_merge_children) (h50 : T 50 = some f_law_cell) (h51 : T 51 = some f__law_keys) (h52 : T 52 = some f__law_values) (h54 : T 54 = some f__law_same) {B : Heap} {ns : List Int} {a P n i : Nat} {p5 p6 p7 p9 p10 pa : Nat} {ss kids oo : List Nat} {MM : List (List Nat)} {cs : Nat → Nat} {t : Int} {x3 : Option V} (hn : ns.length ≤ 63)
    (f : Pre B ns a P n i p5 p6 p7 pa ss kids MM cs) (h9 : B p9 = some (.list (refs MM.flatten))) (h10 : B p10 = some (.list (refs oo))) (zo : oo.length ≤ 100) (no : ∀ x ∈ oo, (∃ j : Nat, kids[j]? = some x ∧ j ≠ i ∧ j ≠ i + 1) ∨ x ∈ MM.flatten) :
    wpSs S.Φ tailA2 [some (.ref a), some (.int n), some (.int i), x3, some (.int t), some (.ref p5), some (.ref p6), some (.ref p7), some (.ref pa), some (.ref p9), some (.ref p10), none, none, none, none, none, none, none, none, none, none] B (isTrue P) := by
  have hlim : lim = 1000000 := rfl
  have zn := f.hn
  have zi := f.hi
  have lk := f.lk
  have lM := f.lM
  unfold tailA2
  walk_at "n"
  refine v_of h10 rfl ?_
  refine comp_each Bef (fun G G' x b L h => h.le L) h10 (by (first | lia | omega)) (fun x hx G K LG hK => ?_) fun p12 bb G LG e12 ro => ?_
  · have hxm : x ∈ kids ++ MM.flatten := by
      rcases no x hx with ⟨j, hj, _⟩ | h
      · exact List.mem_append_left _ (List.mem_of_getElem? hj)
      · exact List.mem_append_right _ h
    obtain ⟨K1, X1, L1, nx, z1, z2, z3⟩ := (f.all x hxm).le LG
    walk_at "m"
    refine at_k nx fun q1 k1 => ?_
    refine sl_all k1 (by rw [List.length_map]; (first | lia | omega)) fun b1 G1 M1 e1 => ?_
    refine at_v (NodeAt_le nx M1) fun q2 k2 => ?_
    refine sl_all k2 (by rw [List.length_map]; (first | lia | omega)) fun b2 G2 M2 e2 => ?_
    have M12 := Heap.le_trans M1 M2
    refine at_c (NodeAt_le nx M12) fun q3 k3 => ?_
    refine sl_all k3 (by rw [refs_len]; (first | lia | omega)) fun b3 G3 M3 e3 => ?_
    have M23 := Heap.le_trans M2 M3
    refine v_allocL fun b4 G4 M4 n4 e4 => ?_
    have M34 := Heap.le_trans M3 M4
    have M14 := Heap.le_trans M12 M34
    exact hK b4 G4 M14 ⟨K1, X1, L1, b1, b2, b3, NodeAt_le nx M14, z3, e4, Heap.le_trans M2 M34 _ _ e1, M34 _ _ e2, M4 _ _ e3⟩
  walk_at "m"
  have f' := f.le LG
  have k1 : kids[i]? = some (kids[i]'(by (first | lia | omega))) := List.getElem?_eq_getElem _
  have k2 : kids[i + 1]? = some (kids[i + 1]'(by (first | lia | omega))) := List.getElem?_eq_getElem _
  have m1 : MM[i]? = some (MM[i]'(by (first | lia | omega))) := List.getElem?_eq_getElem _
  have m2 : MM[i + 1]? = some (MM[i + 1]'(by (first | lia | omega))) := List.getElem?_eq_getElem _
  have s1 : ss[i]? = some (ss[i]'(by have := f.ls; (first | lia | omega))) := List.getElem?_eq_getElem _
  have s2 : ss[i + 1]? = some (ss[i + 1]'(by have := f.ls; (first | lia | omega))) := List.getElem?_eq_getElem _
  generalize kids[i]'(by (first | lia | omega)) = lf at k1
  generalize kids[i + 1]'(by (first | lia | omega)) = rg at k2
  generalize MM[i]'(by (first | lia | omega)) = A1 at m1
  generalize MM[i + 1]'(by (first | lia | omega)) = A2 at m2
  generalize ss[i]'(by have := f.ls; (first | lia | omega)) = q1 at s1
  generalize ss[i + 1]'(by have := f.ls; (first | lia | omega)) = q2 at s2
  have n1 := f'.nd i lf A1 k1 m1
  have n2 := f'.nd (i + 1) rg A2 k2 m2
  have y1 := f.zM A1 (List.mem_of_getElem? m1)
  have y2 := f.zM A2 (List.mem_of_getElem? m2)
  walk_at "n"
  refine v_idxN f'.h6 rfl (by (first | lia | omega)) (refs_get k1) ?_
  refine at_c n1 fun r1 g1 => ?_
  refine v_idxN (k := i + 1) f'.h6 rfl (by (first | lia | omega)) (refs_get k2) ?_
  refine at_c n2 fun r2 g2 => ?_
  refine add_l g1 g2 (by rw [refs_len]; (first | lia | omega)) (by rw [refs_len]; (first | lia | omega)) fun p13 G2 L2 e13 => ?_
  rw [← refs_app] at e13
  walk_at "m"
  have g := f'.le L2
  have M2 := Heap.le_trans LG L2
  have hpl : pa ≠ lf := fun e => f.pk (e ▸ List.mem_of_getElem? k1)
  refine tailB_ok S h0 h1 h4 h6 h7 h12 h50 h51 h52 h54 hn (bl := MM.flatten) ⟨g.ha, g.hP, g.h5, s1, s2, g.rs i q1 s1, g.rs (i + 1) q2 s2, g.h6, k1, k2, lk, g.h7, e13, g.par, NodeAt_le n1 L2, NodeAt_le n2 L2, hpl, M2 _ _ h10, L2 _ _ e12, All2.mono (fun _ _ h => h.le L2) ro, fun x hx q => ?_, by (first | lia | omega), by (first | lia | omega), zn, zi, f.zc i, f.zc (i + 1)⟩ (M2 _ _ h9) ?_ g.all
  · simp only [List.mem_cons, List.not_mem_nil, or_false] at q
    rcases no x hx with ⟨j, hj, d1, d2⟩ | h
    · rcases q with rfl | rfl
      · exact f.pk (List.mem_of_getElem? hj)
      · have hjl := lt_of_get hj
        refine d1 ((List.getElem?_inj hjl f.dist).mp ?_)
        rw [hj, k1]
    · obtain ⟨M, hM, hxM⟩ := List.mem_flatten.mp h
      have := f.sep M hM x hxM
      rcases q with rfl | rfl
      · exact this.2 rfl
      · exact this.1 (List.mem_of_getElem? k1)
  · have := flat_len f.zM
    rw [lM] at this
    (first | lia | omega)
theorem tailA_ok (h0 : T 0 = some f_Node_init) (h1 : T 1 = some f_Canopy_init) (h4 : T 4 = some f_lay) (h6 : T 6 = some f_row_without) (h7 : T 7 = some f_adopt) (h12 : T 12 = some f_merge_children) (h50 : T 50 = some f_law_cell) (h51 : T 51 = some f__law_keys) (h52 : T 52 = some f__law_values) (h54 : T 54 = some f__law_same) {B : Heap} {ns : List Int} {a P n i : Nat} {p5 p6 p7 pa : Nat} {ss kids : List Nat} {MM : List (List Nat)} {cs : Nat → Nat} {t : Int} {x3 : Option V} (hn : ns.length ≤ 63)
    (f : Pre B ns a P n i p5 p6 p7 pa ss kids MM cs) :
    wpSs S.Φ tailA [some (.ref a), some (.int n), some (.int i), x3, some (.int t), some (.ref p5), some (.ref p6), some (.ref p7), some (.ref pa), none, none, none, none, none, none, none, none, none, none, none, none] B (isTrue P) := by
  have hlim : lim = 1000000 := rfl
  have zn := f.hn
  have zi := f.hi
  have lk := f.lk
  have lM := f.lM
  have zf := flat_len f.zM
  rw [lM] at zf
  unfold tailA
  walk_at "n"
  refine ⟨refs kids, MM.map refs, f.h6, ?_, ?_, ?_⟩
  · refine All2.both (all2_of (by (first | lia | omega)) fun j k M e1 e2 => ?_)
    obtain ⟨p, q, r, e, _, _, e3⟩ := f.nd j k M e1 e2
    exact ⟨k, 0, _, r, rfl, e, rfl, e3⟩
  · rw [refs_flat, refs_len]; (first | lia | omega)
  rw [refs_flat]
  refine v_allocL fun p9 B1 L1 n9 e9 => ?_
  have f1 := f.le L1
  walk_at "m"
  rw [s_cons, s_assign]
  unfold othE
  walk_at "m"
  have en : (n : Int) + 1 = ((n + 1 : Nat) : Int) := rfl
  rw [en]
  refine v_rng1 (mid_nat (by (first | lia | omega))) ?_
  refine comp_pure (twoV i) (kidV (refs kids)) trivial (by rw [rngList_len]; (first | lia | omega)) (fun x hx K hK => ?_) (fun x hx _ K hK => ?_) fun b nb' => ?_
  · obtain ⟨q, hq⟩ := List.getElem?_of_mem hx
    obtain ⟨rfl, hlt⟩ := rngList_get hq
    rw [Int.zero_add]
    rw [Int.zero_add] at hK
    walk_at "m"
    replace hK : K (decide ((q : Int) ≠ i) && decide ((q : Int) ≠ ((i + 1 : Nat) : Int))) B1 := hK
    by_cases d : (q : Int) = i
    · refine v_ifF (by simp [d]) ?_
      rw [decide_eq_false (by simp [d])] at hK
      exact hK
    · refine v_ifT (by simp [d]) ?_
      rw [decide_eq_true (by simp [d])] at hK
      exact hK
  · obtain ⟨q, hq⟩ := List.getElem?_of_mem hx
    obtain ⟨rfl, hlt⟩ := rngList_get hq
    rw [Int.zero_add]
    rw [Int.zero_add] at hK
    walk_at "m"
    have hql : q < kids.length := by (first | lia | omega)
    have eq : kids[q]? = some (kids[q]'hql) := List.getElem?_eq_getElem hql
    refine v_idxN f1.h6 rfl (by (first | lia | omega)) (refs_get eq) ?_
    have ev : kidV (refs kids) (V.int (q : Int)) = .ref (kids[q]'hql) := by
      show (refs kids).getD (q : Int).toNat .none = _
      rw [Int.toNat_natCast, List.getD_eq_getElem?_getD, refs_get eq]; rfl
    rw [ev] at hK
    exact hK
  obtain ⟨os, eo, ho⟩ := refs_of (P := fun x => ∃ j : Nat, kids[j]? = some x ∧ j ≠ i ∧ j ≠ i + 1) (l := ((rngList 0 ((n + 1 : Nat) : Int)).filter (twoV i)).map (kidV (refs kids))) fun v hv => by
    obtain ⟨w, hw, rfl⟩ := List.mem_map.mp hv
    obtain ⟨hw, tw⟩ := List.mem_filter.mp hw
    obtain ⟨q, hq⟩ := List.getElem?_of_mem hw
    obtain ⟨rfl, hlt⟩ := rngList_get hq
    rw [Int.zero_add] at tw
    rw [Int.zero_add]
    have hql : q < kids.length := by (first | lia | omega)
    have eq : kids[q]? = some (kids[q]'hql) := List.getElem?_eq_getElem hql
    refine ⟨kids[q]'hql, ?_, q, eq, ?_⟩
    · show (refs kids).getD (q : Int).toNat .none = _
      rw [Int.toNat_natCast, List.getD_eq_getElem?_getD, refs_get eq]; rfl
    · unfold twoV neV at tw
      obtain ⟨t1, t2⟩ := (Bool.and_eq_true _ _).mp tw
      have := of_decide_eq_true t1
      have := of_decide_eq_true t2
      (first | lia | omega)
  have zo : os.length ≤ n + 1 := by
    have : (refs os).length ≤ n + 1 := by
      rw [← eo, List.length_map]
      refine Nat.le_trans (List.length_filter_le _ _) ?_
      rw [rngList_len]; (first | lia | omega)
    rw [refs_len] at this; exact this
  rw [eo]
  have L2 := Heap.le_upd (o := .list (refs os)) nb'
  have e2 : (B1.upd b (.list (refs os))) b = some (.list (refs os)) := upd_self
  generalize B1.upd b (.list (refs os)) = B2 at L2 e2
  refine add_l e2 (L2 _ _ e9) (by rw [refs_len]; (first | lia | omega)) (by rw [refs_len]; (first | lia | omega)) fun p10 B3 L3 e3 => ?_
  rw [← refs_app] at e3
  have L23 := Heap.le_trans L2 L3
  walk_at "m"
  refine n_then ?_
  refine tailA2_ok S h0 h1 h4 h6 h7 h12 h50 h51 h52 h54 hn (f1.le L23) (L23 _ _ e9) e3 (by rw [List.length_append]; (first | lia | omega)) fun x hx => ?_
  rcases List.mem_append.mp hx with hx | hx
  · exact .inl (ho x hx)
  · exact .inr hx
end
noncomputable def kidE : E := .call 53 [(.var 0), (.bop .mul (.lit (.int 10)) (.var 21)), (.idx (.var 5) (.var 21)), (.var 3)]
noncomputable def tail2 : List ML.S :=
  .assign 6 (.comp kidE 1 (.rng1 (.bop .add (.var 1) (.lit (.int 1)))) none) ::
  .assign 7 (.comp (.bop .add (.bop .mul (.lit (.int 10)) (.var 21)) (.lit (.int 9))) 1 (.rng1 (.var 1)) none) ::
  .assign 8 (.new 0 [(.call 51 [(.var 0), (.var 7)]), (.call 52 [(.var 0), (.var 7)]), (.slice (.var 6) none none)]) :: tailA
structure Ks (G : Heap) (ns : List Int) (cs : Nat → Nat) (kids : List Nat) (MM : List (List Nat)) : Prop where
  ll : kids.length = MM.length
  nd : ∀ (j : Nat) k M, kids[j]? = some k → MM[j]? = some M → NodeAt G k (kr ns (spot j (cs j))) ((vr ns (spot j (cs j))).map V.int) (refs M)
  zM : ∀ M ∈ MM, M.length ≤ 5
  lf : ∀ M ∈ MM, ∀ x ∈ M, Nd G x
  dist : kids.Nodup
  sep : ∀ M ∈ MM, ∀ x ∈ M, x ∉ kids
theorem Ks.le {G G' : Heap} {ns : List Int} {cs : Nat → Nat} {kids : List Nat} {MM : List (List Nat)} (f : Ks G ns cs kids MM) (L : G.le G') : Ks G' ns cs kids MM :=
  ⟨f.ll, fun j k M h1 h2 => NodeAt_le (f.nd j k M h1 h2) L, f.zM, fun M h x hx => (f.lf M h x hx).le L, f.dist, f.sep⟩
theorem Ks.inst {G : Heap} {ns : List Int} {cs : Nat → Nat} {kids : List Nat} {MM : List (List Nat)} (f : Ks G ns cs kids MM) {x : Nat} (h : x ∈ kids) : ∃ fs, G x = some (.inst 0 fs) := by
  obtain ⟨j, hj⟩ := List.getElem?_of_mem h
  have hl := lt_of_get hj
  have eM : MM[j]? = some (MM[j]'(by rw [← f.ll]; exact hl)) := List.getElem?_eq_getElem _
  obtain ⟨_, _, _, e, _⟩ := f.nd j x _ hj eM
  exact ⟨_, e⟩
theorem Ks.add {G G' : Heap} {ns : List Int} {cs : Nat → Nat} {kids : List Nat} {MM : List (List Nat)} (f : Ks G ns cs kids MM) {r j : Nat} {L : List Nat} (lj : kids.length = j) (le : G.le G') (nr : G r = none) (rL : r ∉ L) (nL : ∀ x ∈ L, G x = none) (zL : L.length ≤ 5) (nd : ∀ x ∈ L, Nd G' x) (na : NodeAt G' r (kr ns (spot j (cs j))) ((vr ns (spot j (cs j))).map V.int) (refs L)) : Ks G' ns cs (kids ++ [r]) (MM ++ [L]) := by
  have f' := f.le le
  have rk : ∀ x, x ∈ kids → G x = none → False := fun x hx n => by
    obtain ⟨fs, e⟩ := f.inst hx
    rw [n] at e; cases e
  refine ⟨by rw [List.length_append, List.length_append, f.ll]; rfl, fun c k M h1 h2 => ?_, fun M hM => ?_, fun M hM x hx => ?_, ?_, fun M hM x hx q => ?_⟩
  · have hc := lt_of_get h1
    rw [List.length_append, List.length_cons, List.length_nil] at hc
    by_cases d : c < kids.length
    · rw [List.getElem?_append_left d] at h1
      rw [List.getElem?_append_left (by rw [← f.ll]; exact d)] at h2
      exact f'.nd c k M h1 h2
    · have ec : c = j := by (first | lia | omega)
      subst ec
      rw [List.getElem?_append_right (by (first | lia | omega)), lj, Nat.sub_self] at h1
      rw [List.getElem?_append_right (by have := f.ll; (first | lia | omega)), ← f.ll, lj, Nat.sub_self] at h2
      cases h1; cases h2
      exact na
  · rcases List.mem_append.mp hM with h | h
    · exact f.zM M h
    · rw [List.mem_singleton.mp h]; exact zL
  · rcases List.mem_append.mp hM with h | h
    · exact f'.lf M h x hx
    · rw [List.mem_singleton.mp h] at hx; exact nd x hx
  · refine List.nodup_append.mpr ⟨f.dist, by simp, fun x hx y hy e => ?_⟩
    rw [List.mem_singleton.mp hy] at e
    exact rk x hx (e ▸ nr)
  · rcases List.mem_append.mp hM with h | h
    · rcases List.mem_append.mp q with q | q
      · exact f.sep M h x hx q
      · obtain ⟨fs, e⟩ := (f.lf M h x hx).inst
        rw [List.mem_singleton.mp q, nr] at e; cases e
    · rw [List.mem_singleton.mp h] at hx
      rcases List.mem_append.mp q with q | q
      · exact rk x q (nL x hx)
      · rw [List.mem_singleton.mp q] at hx; exact rL hx
noncomputable def upV : V → V
  | .int z => .int (10 * z + 9)
  | v => v
theorem ups_map {n : Nat} : (rngList 0 (n : Int)).map upV = nats (ups n) := by
  unfold rngList ups nats
  rw [Int.sub_zero, Int.toNat_natCast, List.map_map, List.map_map]
  refine List.map_congr_left fun j _ => ?_
  show V.int (10 * (0 + (j : Int)) + 9) = V.int ((10 * j + 9 : Nat) : Int)
  congr 1
  (first | lia | omega)
noncomputable def spV (j : Nat) : V → V
  | .int z => .int (10 * j + 2 * z + 1)
  | v => v
theorem spot_map {j n : Nat} : (rngList 0 (n : Int)).map (spV j) = nats (spot j n) := by
  unfold rngList spot nats
  rw [Int.sub_zero, Int.toNat_natCast, List.map_map, List.map_map]
  refine List.map_congr_left fun h _ => ?_
  show V.int (10 * (j : Int) + 2 * (0 + (h : Int)) + 1) = V.int ((10 * j + 2 * h + 1 : Nat) : Int)
  congr 1
  (first | lia | omega)
noncomputable def cnt (ns : List Int) (j : Nat) : Nat := ((cell ns (7 + (j : Int)) + 1) % 4).toNat
theorem cnt_le {ns : List Int} {j : Nat} : cnt ns j ≤ 3 := by unfold cnt; (first | lia | omega)
theorem cnt_eq {ns : List Int} {j : Nat} : (cell ns (7 + (j : Int)) + 1) % 4 = (cnt ns j : Nat) := by unfold cnt; (first | lia | omega)
noncomputable def f_law : Fn := ⟨1, 21,
  .assign 1 (.bop .add (.lit (.int 1)) (.bop .mod (.call 50 [(.var 0), (.lit (.int 0))]) (.lit (.int 3)))) ::
  .assign 2 (.bop .mod (.call 50 [(.var 0), (.lit (.int 1))]) (.var 1)) ::
  .assign 3 (.cmp .eq (.bop .mod (.call 50 [(.var 0), (.lit (.int 2))]) (.lit (.int 2))) (.lit (.int 1))) ::
  .assign 4 (.bop .add (.lit (.int 2)) (.bop .mod (.call 50 [(.var 0), (.lit (.int 3))]) (.lit (.int 3)))) ::
  .assign 5 (.comp (.comp (.bop .add (.bop .add (.bop .mul (.lit (.int 10)) (.var 21)) (.bop .mul (.lit (.int 2)) (.var 22))) (.lit (.int 1))) 1 (.rng1 (.bop .mod (.bop .add (.call 50 [(.var 0), (.bop .add (.lit (.int 7)) (.var 21))]) (.lit (.int 1))) (.lit (.int 4)))) none) 1 (.rng1 (.bop .add (.var 1) (.lit (.int 1)))) none) :: tail2⟩
section
variable {T : Nat → Option Fn} (S : Sys T)
theorem tail2_ok (h0 : T 0 = some f_Node_init) (h1 : T 1 = some f_Canopy_init) (h4 : T 4 = some f_lay) (h6 : T 6 = some f_row_without) (h7 : T 7 = some f_adopt) (h12 : T 12 = some f_merge_children) (h50 : T 50 = some f_law_cell) (h51 : T 51 = some f__law_keys) (h52 : T 52 = some f__law_values) (h53 : T 53 = some f__law_child) (h54 : T 54 = some f__law_same) {B : Heap} {ns : List Int} {a P n i : Nat} {p5 : Nat} {ss : List Nat} {cs : Nat → Nat} {t : Int} {deep : Bool} (hn : ns.length ≤ 63)
    (ha : B a = some (.ro (ns.map V.int))) (hP : B P = some (.dict [])) (h5 : B p5 = some (.list (refs ss))) (ls : ss.length = n + 1) (rs : ∀ (j : Nat) s, ss[j]? = some s → B s = some (.list (nats (spot j (cs j))))) (zc : ∀ j, cs j ≤ 3) (zn : n ≤ 3) (zi : i < n) :
    wpSs S.Φ tail2 [some (.ref a), some (.int n), some (.int i), some (.bool deep), some (.int t), some (.ref p5), none, none, none, none, none, none, none, none, none, none, none, none, none, none, none] B (isTrue P) := by
  have hlim : lim = 1000000 := rfl
  unfold tail2
  walk_at "n"
  have en : (n : Int) + 1 = ((n + 1 : Nat) : Int) := rfl
  rw [en]
  refine v_rng1 (mid_nat (by (first | lia | omega))) ?_
  refine comp_acc (fun j acc G => B.le G ∧ ∃ kids MM, acc = refs kids ∧ kids.length = j ∧ Ks G ns cs kids MM)
    ⟨Heap.le_refl _, [], [], rfl, rfl, rfl, (fun _ _ _ h => nomatch h), (fun _ h => nomatch h), (fun _ h => nomatch h), List.nodup_nil, (fun _ h => nomatch h)⟩ (by (first | lia | omega)) (fun j acc G hJ => by obtain ⟨_, kids, _, rfl, e, _⟩ := hJ; rw [refs_len, e]) (fun j acc G K' hj hJ hK => ?_) fun acc G p6 G1 hJ L1 np6 e6 => ?_
  · obtain ⟨LG, kids, MM, rfl, lk, ks⟩ := hJ
    unfold kidE
    walk_at "m"
    refine v_mulI (.inl (mid_of (by decide) (by decide))) ?_
    walk_at "m"
    have es : ss[j]? = some (ss[j]'(by (first | lia | omega))) := List.getElem?_eq_getElem _
    generalize ss[j]'(by (first | lia | omega)) = s at es
    refine v_idxN (LG _ _ h5) rfl (by (first | lia | omega)) (refs_get es) ?_
    have zj := zc j
    refine spec_child S h0 h50 h51 h52 h53 (st := 10 * j) (LG _ _ ha) hn (LG _ _ (rs j s es)) (by rw [spot_len]; (first | lia | omega)) (fun x hx => by have := spot_mem hx zj; (first | lia | omega)) (by (first | lia | omega)) fun r G' L L' nr rL nL zL nd na => ?_
    exact hK _ _ ⟨Heap.le_trans LG L', kids ++ [r], MM ++ [L], by rw [refs_app]; rfl, by rw [List.length_append, lk]; rfl, ks.add lk L' nr rL nL zL nd na⟩
  obtain ⟨LG, kids, MM, rfl, lk, ks0⟩ := hJ
  have ks := ks0.le L1
  have M1 := Heap.le_trans LG L1
  clear LG L1 ks0 np6
  walk_at "n"
  refine v_rng1 (mid_nat (by (first | lia | omega))) ?_
  refine comp_map upV trivial (by rw [rngList_len]; (first | lia | omega)) (fun x hx K hK => ?_) fun p7 n7 => ?_
  · obtain ⟨q, hq⟩ := List.getElem?_of_mem hx
    obtain ⟨rfl, hlt⟩ := rngList_get hq
    walk_at "m"
    refine v_mulI (.inl (mid_of (by decide) (by decide))) ?_
    walk_at "m"
    exact hK
  rw [ups_map]
  have L2 := Heap.le_upd (o := .list (nats (ups n))) n7
  have e7 : (G1.upd p7 (.list (nats (ups n)))) p7 = some (.list (nats (ups n))) := upd_self
  generalize G1.upd p7 (.list (nats (ups n))) = G2 at L2 e7
  have M2 := Heap.le_trans M1 L2
  walk_at "n"
  refine spec_keys S h50 h51 (M2 _ _ ha) hn e7 (by rw [ups_len]; (first | lia | omega)) fun r1 G3 L3 n3 e3 => ?_
  have M3 := Heap.le_trans M2 L3
  refine spec_values S h50 h52 (M3 _ _ ha) hn (L3 _ _ e7) (by rw [ups_len]; (first | lia | omega)) (fun x hx => ups_le zn hx) fun r2 G4 L4 n4 e4 => ?_
  have L24 := Heap.le_trans L2 (Heap.le_trans L3 L4)
  refine sl_all (L24 _ _ e6) (by rw [refs_len]; (first | lia | omega)) fun r3 G5 L5 e5 => ?_
  have L25 := Heap.le_trans L24 L5
  refine new_node S h0 fun pa npa => ?_
  have L6 := Heap.le_upd (o := .inst 0 [(0, .ref r1), (1, .ref r2), (2, .ref r3)]) npa
  have e8 : (G5.upd pa (.inst 0 [(0, .ref r1), (1, .ref r2), (2, .ref r3)])) pa = some (.inst 0 [(0, .ref r1), (1, .ref r2), (2, .ref r3)]) := upd_self
  generalize G5.upd pa (.inst 0 [(0, .ref r1), (1, .ref r2), (2, .ref r3)]) = G6 at L6 e8
  walk_at "m"
  have ks5 := ks.le L25
  have L46 := Heap.le_trans L5 L6
  have L36 := Heap.le_trans L4 L46
  have L26 := Heap.le_trans L25 L6
  have M6 := Heap.le_trans M1 L26
  have ks6 := ks5.le L6
  refine tailA_ok S h0 h1 h4 h6 h7 h12 h50 h51 h52 h54 hn (MM := MM) (cs := cs) ⟨M6 _ _ ha, M6 _ _ hP, M6 _ _ h5, ls, fun j s h => M6 _ _ (rs j s h), L26 _ _ e6, lk, Heap.le_trans L3 L36 _ _ e7, ⟨r1, r2, r3, e8, L36 _ _ e3, L46 _ _ e4, L6 _ _ e5⟩, by rw [← ks6.ll, lk], ks6.nd, ks6.zM, ks6.lf, ks6.dist, fun q => ?_, fun M hM x hx => ⟨ks6.sep M hM x hx, fun e => ?_⟩, zc, zn, zi⟩
  · obtain ⟨fs, e⟩ := ks5.inst q
    rw [npa] at e; cases e
  · obtain ⟨fs, e'⟩ := (ks5.lf M hM x hx).inst
    rw [e, npa] at e'; cases e'
theorem law_ok (h0 : T 0 = some f_Node_init) (h1 : T 1 = some f_Canopy_init) (h4 : T 4 = some f_lay) (h6 : T 6 = some f_row_without) (h7 : T 7 = some f_adopt) (h12 : T 12 = some f_merge_children) (h50 : T 50 = some f_law_cell) (h51 : T 51 = some f__law_keys) (h52 : T 52 = some f__law_values) (h53 : T 53 = some f__law_child) (h54 : T 54 = some f__law_same) (h55 : T 55 = some f_law) {H : Heap} {a P : Nat} {ns : List Int} (ha : H a = some (.ro (ns.map V.int))) (hP : H P = some (.dict [])) (hn : ns.length ≤ 63) : S.Φ 55 [.ref a] H (fun v G => v = .bool true ∧ G P = some (.dict [])) := by
  have hlim : lim = 1000000 := rfl
  refine S.call h55 rfl ?_
  dsimp only [f_law]
  walk_at "m"
  walk_at "n"
  refine spec_cell S h50 ha (by decide) hn (v_modI (by decide) ?_)
  have b3 := emod_b (cell ns 0) 3 (by decide)
  generalize cell ns 0 % 3 = n3 at b3
  obtain ⟨n, hne⟩ : ∃ n : Nat, 1 + n3 = n := ⟨(1 + n3).toNat, by (first | lia | omega)⟩
  walk_at "m"
  rw [hne]
  have zn1 : 1 ≤ n := by (first | lia | omega)
  have zn : n ≤ 3 := by (first | lia | omega)
  clear hne b3 n3
  walk_at "n"
  refine spec_cell S h50 ha (by decide) hn (v_modI (by (first | lia | omega)) ?_)
  have b4 := emod_b (cell ns 1) n (by (first | lia | omega))
  generalize cell ns 1 % n = n4 at b4
  obtain ⟨i, rfl⟩ : ∃ n : Nat, n4 = n := ⟨n4.toNat, by (first | lia | omega)⟩
  have hi : i < n := by (first | lia | omega)
  clear b4
  walk_at "n"
  refine spec_cell S h50 ha (by decide) hn (v_modI (by decide) ?_)
  walk_at "m"
  generalize decide (cell ns 2 % 2 = 1) = deep
  walk_at "n"
  refine spec_cell S h50 ha (by decide) hn (v_modI (by decide) ?_)
  generalize cell ns 3 % 3 = n6
  walk_at "m"
  generalize 2 + n6 = t
  walk_at "n"
  have en : (n : Int) + 1 = ((n + 1 : Nat) : Int) := rfl
  rw [en]
  refine v_rng1 (mid_nat (by (first | lia | omega))) ?_
  refine comp_acc (fun j acc G => H.le G ∧ ∃ ss, acc = refs ss ∧ ss.length = j ∧ ∀ (c : Nat) s, ss[c]? = some s → G s = some (.list (nats (spot c (cnt ns c)))))
    ⟨Heap.le_refl _, [], rfl, rfl, (fun _ _ h => nomatch h)⟩ (by (first | lia | omega)) (fun j acc G hJ => by obtain ⟨_, ss, rfl, e, _⟩ := hJ; rw [refs_len, e]) (fun j acc G K' hj hJ hK => ?_) fun acc G p5 G1 hJ L1 np5 e5 => ?_
  · obtain ⟨LG, ss, rfl, ls, rs⟩ := hJ
    walk_at "m"
    refine spec_cell S h50 (LG _ _ ha) (by (first | lia | omega)) hn ?_
    walk_at "m"
    refine v_modI (by decide) ?_
    rw [cnt_eq]
    have zc := cnt_le (ns := ns) (j := j)
    refine v_rng1 (mid_nat (by (first | lia | omega))) ?_
    refine comp_map (spV j) trivial (by rw [rngList_len]; (first | lia | omega)) (fun x hx K hK => ?_) fun b nb => ?_
    · obtain ⟨q, hq⟩ := List.getElem?_of_mem hx
      obtain ⟨rfl, hlt⟩ := rngList_get hq
      walk_at "m"
      refine v_mulI (.inl (mid_of (by decide) (by decide))) ?_
      refine v_mulI (.inl (mid_of (by decide) (by decide))) ?_
      walk_at "m"
      exact hK
    rw [spot_map]
    have L2 := Heap.le_upd (o := .list (nats (spot j (cnt ns j)))) nb
    have e2 : (G.upd b (.list (nats (spot j (cnt ns j))))) b = some (.list (nats (spot j (cnt ns j)))) := upd_self
    generalize G.upd b (.list (nats (spot j (cnt ns j)))) = G2 at L2 e2
    refine hK _ _ ⟨Heap.le_trans LG L2, ss ++ [b], by rw [refs_app]; rfl, by rw [List.length_append, ls]; rfl, fun c s hs => ?_⟩
    have hc := lt_of_get hs
    rw [List.length_append, List.length_cons, List.length_nil] at hc
    by_cases d : c < ss.length
    · rw [List.getElem?_append_left d] at hs
      exact L2 _ _ (rs c s hs)
    · have ec : c = j := by (first | lia | omega)
      subst ec
      rw [List.getElem?_append_right (by (first | lia | omega)), ls, Nat.sub_self] at hs
      cases hs
      exact e2
  obtain ⟨LG, ss, rfl, ls, rs⟩ := hJ
  walk_at "m"
  have M1 := Heap.le_trans LG L1
  exact tail2_ok S h0 h1 h4 h6 h7 h12 h50 h51 h52 h53 h54 hn (M1 _ _ ha) (M1 _ _ hP) e5 ls (fun c s h => L1 _ _ (rs c s h)) (fun _ => cnt_le) zn hi
end
end L0013
end ML
open PySem PySem.W PyProof.Rows
set_option Elab.async false
set_option maxRecDepth 100000
set_option maxHeartbeats 8000000
namespace ML
theorem said : PySem.Challenge.rw_k9_0013.wellSaid = true := by
  rw [show @OpenLaw.wellSaid = PySem.W.Fast.tw9446332074065402090 from PySem.W.Fast.te9446332074065402090]
  kernel_rfl
noncomputable def helpers : List (Str × Nat × Nat) := [("_law_cell", 50, 0), ("_law_keys", 51, 1), ("_law_values", 52, 1), ("_law_child", 53, 2), ("_law_same", 54, 15), ("law", 55, 16)]
noncomputable def keeps : List Nat := [0, 2, 3, 4, 6, 7, 8, 9, 10, 11]
theorem big (w : World) (os : OsState) : (topRun treeTable PySem.Challenge.pw_k9_0013 w (boot_heap w.params).objs.size ((boot_heap w.params).nsMap mainGlobals "__annotations__") 20000 (boot0 w os) (topStub PySem.Challenge.pw_k9_0013)).map (fun s =>
    ((staticsOk (importedModules PySem.Challenge.pw_k9_0013.main.body) (boot_heap w.params) s.heap && namesBound PySem.Challenge.pw_k9_0013 s.heap && gensDone s && laidKept (boot_heap w.params) s.heap), openSeen (view PySem.Challenge.pw_k9_0013 keeps) [] (importedModules PySem.Challenge.pw_k9_0013.main.body) (fun s => xlAt (view PySem.Challenge.pw_k9_0013 keeps) [] s && recOk [] s) true s, looksG helpers 55 [0, 1, 4, 6, 7, 12, 50, 51, 52, 53, 54, 55] (fragAt s.heap))) =
    some (true, openGood (view PySem.Challenge.pw_k9_0013 keeps) [], (true, true, true, some 16, [some f_Node_init, some f_Canopy_init, some f_lay, some f_row_without, some f_adopt, some f_merge_children, some f_law_cell, some L0013.f__law_keys, some L0013.f__law_values, some L0013.f__law_child, some L0013.f__law_same, some L0013.f_law])) := by
  rw [PySem.W.Fast.te14082659384304107361, PySem.W.Fast.te14364793385576792824, PySem.W.Fast.te8920871248978507458, PySem.W.Fast.te5923862056798008813, PySem.W.Fast.te4187177175401517315]
  kernel_rfl
theorem left : LeftO PySem.Challenge.pw_k9_0013 (view PySem.Challenge.pw_k9_0013 keeps) [] (fun s => xlAt (view PySem.Challenge.pw_k9_0013 keeps) [] s && recOk [] s) (fun s => fragAt s.heap) (fun w => KAt PySem.Challenge.pw_k9_0013 20000 w) 20000 :=
  left_whole (by kernel_rfl) (by kernel_rfl) (fun _ => rfl) fun w os => let ⟨s, h1, h2, _⟩ := run_of (big w os); ⟨s, h1, h2⟩
theorem look (w : World) : looksG helpers 55 [0, 1, 4, 6, 7, 12, 50, 51, 52, 53, 54, 55] (KAt PySem.Challenge.pw_k9_0013 20000 w) = (true, true, true, some 16, [some f_Node_init, some f_Canopy_init, some f_lay, some f_row_without, some f_adopt, some f_merge_children, some f_law_cell, some L0013.f__law_keys, some L0013.f__law_values, some L0013.f__law_child, some L0013.f__law_same, some L0013.f_law]) :=
  looksG_of (let ⟨s, h1, _, h3⟩ := run_of (big w (osOf PySem.Challenge.pw_k9_0013 20000 w)); ⟨s, h1, h3⟩)
end ML
open ML
theorem PySem.Challenge.cw_k9_0013_holds : PySem.Challenge.rw_k9_0013.Holds := by
  w_on
  refine holds_law ML.said fun said => ?_
  refine holds_open (q := view PySem.Challenge.pw_k9_0013 keeps) (loose := []) (Xt := fun s => xlAt (view PySem.Challenge.pw_k9_0013 keeps) [] s && recOk [] s) (XP := XL (view PySem.Challenge.pw_k9_0013 keeps) []) (Yf := fun s => fragAt s.heap) (Ya := fun w => KAt PySem.Challenge.pw_k9_0013 20000 w) (YP := fun w h => (KAt PySem.Challenge.pw_k9_0013 20000 w).In h) (N := 20000)
    ML.left (fun w s e => e ▸ frag_in) (fun w h h' x k => Frag.In.keeps x k) (fun s e => xl_of s (Bool.and_eq_true_iff.mp e).1) XL.keeps (by rfl) (by rfl) (by rfl) (fun s e => recFacts_of (Bool.and_eq_true_iff.mp e).2) (by rfl) said (by decide +kernel) ⟨rfl, rfl, rfl, rfl, rfl, by decide +kernel⟩ ?hw ?hc
  case hw => w_witness2
  case hc =>
  intro w s₀ s₁ mg mb G Y fa o pm cd doc dV kV ho hd hcd hD hmg hg args vals as hpre hlay hrd hwl hlo
  have KX : (KAt PySem.Challenge.pw_k9_0013 20000 w).In s₁.heap := Y
  refine Ground.open G ?_
  intro T B D TE TW
  wrow_args hpre hlay hrd hwl hlo
  all_goals refine enter_call ?_
  rename_i ns _ _ _ _ _ _ _ a vs _ hL _ _ _ hI _ hc _
  obtain ⟨k0, z⟩ := Prod.mk.inj (look w)
  obtain ⟨k1, z⟩ := Prod.mk.inj z
  obtain ⟨k2, z⟩ := Prod.mk.inj z
  obtain ⟨k3, z⟩ := Prod.mk.inj z
  obtain ⟨g0, g1, g4, g6, g7, g12, g50, g51, g52, g53, g54, g55⟩ : _ ∧ _ ∧ _ ∧ _ ∧ _ ∧ _ ∧ _ ∧ _ ∧ _ ∧ _ ∧ _ ∧ _ := by simpa only [List.map_cons, List.map_nil, List.cons.injEq, and_true] using z
  refine codeAny_mono (row_end KX (topRead_of T) hmg hg hL hI hc k0 rfl rfl k1 (law_of k2) k3 (by decide) fun hne S => L0013.law_ok (ns := ns) S g0 g1 g4 g6 g7 g12 g50 g51 g52 g53 g54 g55 (by simp [H0]) (by simp [H0, hne]) (by (first | lia | omega))) fun r s' z => ?_
  obtain ⟨e, k, o, g⟩ := z
  exact ⟨.inl ⟨.bool true, .bool true, [], e, fun _ => rfl, .bool true, (by first | kernel_rfl | with_unfolding_all rfl), fun _ => ⟨List.nodup_nil, fun _ h => nomatch h⟩⟩, k, o, g⟩
