import PyProof.Rows.All
import HandS.ForMost
import HandS.Walk
import HandS.IsInst
import HandS.TupAny
import HandS.TupMul
import HandS.Style
import PySem.Challenge.RW_formscountry_k82_whole_patches_done_and
set_option Elab.async false
set_option linter.all false
set_option maxRecDepth 100000
set_option maxHeartbeats 4000000
/-! PL1: a small language of pure data over the hand layer: its words and what they are worth. -/
namespace PL
open PySem PySem.Spec PyProof.Rows L2

abbrev D := PyData
/-- what an expression is worth: a thing that never changes any more, or a new list or dict that nobody else holds -/
inductive RV where | val (d : D) | own (d : D)
def RV.d : RV → D
  | .val d => d
  | .own d => d
/-- a slot: not set; a thing that never changes; a list or dict of the slot's own; the caller's list, changed in place -/
inductive SD where | un | val (d : D) | own (d : D) | io (d : D)
abbrev Env := List SD
inductive AV where | val (d : D) | io (d : D)
inductive PV where | slot (i : Nat) | val (d : D)
abbrev Fn := Nat → List AV → Option (RV × List D)

inductive BOp where | add | sub | mul | mod | fdiv | pow
  deriving DecidableEq
inductive COp where | eq | ne | lt | le | gt | ge | mem | nmem
  deriving DecidableEq
inductive Blt where | len | abs | max | min | sum | all | any | int | divmod | list | tuple | dict | repr
  deriving DecidableEq
inductive Pat where | nm (i : Nat) | ixs (i : Nat) (k : Int) | tup (ps : List Pat)

mutual
inductive RE where
  | c (d : D) | g (x : String) (d : D) | v (i : Nat)
  | bin (o : BOp) (a b : RP) | neg (a : RE)
  | cmp (o : COp) (a b : RP) | isN (a : RP) | notN (a : RP)
  | and (a b : RE) | or (a b : RE) | nt (a : RE)
  | ite (t : RT) (a b : RE)
  | tup (es : List RE) | lst (es : List RE) | dct0
  | ix (a : RP) (i : RE) | sl (a : RP) (lo hi : RO)
  | call (f : Nat) (x : String) (es : List RA)
  | callK (f : Nat) (x : String) (es : List RA) (ks : List String) (ws : List RE) (pm : List Nat)
  | blt (b : Blt) (es : List RP)
  | isi (a : RP) (tys : List String)
  | get2 (a : RP) (k e : RE)
  | lc (elt : RE) (tg : Pat) (it : RI) (ifs : Option RT) (vs : List Nat)
inductive RT where
  | tr (e : RP) | cmp (o : COp) (a b : RP) | isN (a : RP) | notN (a : RP) | and (a b : RT) | or (a b : RT) | nt (a : RT)
inductive RP where | slot (i : Nat) | ex (e : RE)
inductive RA where | e (e : RE) | io (i : Nat)
inductive RO where | no | e (e : RE)
inductive RI where
  | seq (e : RE) | rng1 (e : RE) | rng2 (a b : RE) | enum (e : RE) | zip (a b : RE)
end
inductive Mut where | append | extend
  deriving DecidableEq
inductive RS where
  | asg (p : Pat) (e : RE) | par (is : List Nat) (es : List RE) | setIx (i : Nat) (k : RE) (e : RE)
  | ex (e : RE) | mut (m : Mut) (i : Nat) (e : RE)
  | iF (t : RT) (a b : List RS) | for_ (p : Pat) (it : RI) (b : List RS) | while_ (t : RT) (b : List RS)
  | ret (e : RE) | retS (i : Nat) | retN | pass | ct | brk | bad

/-! ### the slots -/
def getS (ρ : Env) (i : Nat) : SD := ρ.getD i .un
/-- the thing in a slot, from now on unchanging -/
def takeS (ρ : Env) (i : Nat) : Option (RV × Env) :=
  match getS ρ i with
  | .val d => some (.val d, ρ)
  | .own d => some (.val d, ρ.set i (.val d))
  | _ => none
def peekS (ρ : Env) (i : Nat) : Option PV :=
  match getS ρ i with
  | .val d => some (.val d)
  | .own _ => some (.slot i)
  | .io _ => some (.slot i)
  | .un => none
def PV.res (ρ : Env) : PV → Option D
  | .val d => some d
  | .slot i => match getS ρ i with
    | .own d => some d
    | .io d => some d
    | .val d => some d
    | .un => none
def SD.of : RV → SD
  | .val d => .val d
  | .own d => .own d
/-- a name is stored -/
def putS (ρ : Env) (i : Nat) (r : RV) : Option Env :=
  match getS ρ i with
  | .io _ => none
  | _ => if i < ρ.length then some (ρ.set i (.of r)) else none
/-- a list of the slot's own (or the caller's) is changed -/
def chgS (ρ : Env) (i : Nat) (f : D → Option D) : Option Env :=
  match getS ρ i with
  | .own d => (f d).map fun d' => ρ.set i (.own d')
  | .io d => (f d).map fun d' => ρ.set i (.io d')
  | _ => none
def heldS (ρ : Env) (i : Nat) : Bool := match getS ρ i with
  | .own _ => true
  | .io _ => true
  | _ => false
def lstS (ρ : Env) (i : Nat) : Bool := match getS ρ i with
  | .own (.list _) => true
  | .io (.list _) => true
  | _ => false
/-- the slots of a block's own names, hidden -/
def hideS (ρ : Env) : List Nat → Option Env
  | [] => some ρ
  | i :: is => match getS ρ i with
    | .io _ => none
    | .own d => hideS (ρ.set i (.val d)) is
    | _ => hideS ρ is
def wipeS (ρ : Env) : List Nat → Env
  | [] => ρ
  | i :: is => (wipeS ρ is).set i .un
def backS (old ρ : Env) : List Nat → Env
  | [] => ρ
  | i :: is => (backS old ρ is).set i (getS old i)

/-! ### the operators -/
def flat : D → Bool
  | .none | .bool _ | .int _ | .str _ => true
  | _ => false
def scalD : D → D → Bool
  | .none, .none => true | .none, .int _ => true | .int _, .none => true | .none, .bool _ => true | .bool _, .none => true | .none, .str _ => true | .str _, .none => true
  | .int _, .int _ => true | .bool _, .bool _ => true | .str _, .str _ => true
  | .int _, .str _ => true | .str _, .int _ => true | .bool _, .str _ => true | .str _, .bool _ => true
  | _, _ => false
def eqD (x y : D) : Option Bool :=
  if scalD x y || (SeqAt.shaped x && SeqAt.shaped y) then some (PyData.eqv x y) else none
def memD (x : D) (ds : List D) : Option Bool :=
  if flat x && ds.all flat then some (ds.any fun y => PyData.eqv y x) else none
def cmpD (o : COp) (x y : D) : Option Bool :=
  match o with
  | .eq => eqD x y
  | .ne => (eqD x y).map (!·)
  | .lt => match x, y with | .int i, .int j => some (decide (i < j)) | _, _ => none
  | .le => match x, y with | .int i, .int j => some (decide (i ≤ j)) | _, _ => none
  | .gt => match x, y with | .int i, .int j => some (decide (j < i)) | _, _ => none
  | .ge => match x, y with | .int i, .int j => some (decide (j ≤ i)) | _, _ => none
  | .mem => match y with | .list ds => memD x ds | .tuple ds => memD x ds | _ => none
  | .nmem => match y with | .list ds => (memD x ds).map (!·) | .tuple ds => (memD x ds).map (!·) | _ => none
def small64 (i : Int) : Bool := decide (-(2 ^ 64) < i) && decide (i < 2 ^ 64)
def binD (o : BOp) (x y : D) : Option RV :=
  match o, x, y with
  | .add, .int i, .int j => some (.val (.int (i + j)))
  | .add, .str a, .str b => if a.length + b.length ≤ sizeLine then some (.val (.str (a ++ b))) else none
  | .add, .list a, .list b => if a.length + b.length ≤ sizeLine then some (.own (.list (a ++ b))) else none
  | .add, .tuple a, .tuple b => if a.length + b.length ≤ sizeLine then some (.val (.tuple (a ++ b))) else none
  | .sub, .int i, .int j => some (.val (.int (i - j)))
  | .mul, .int i, .int j => if small64 i || small64 j then some (.val (.int (i * j))) else none
  | .mul, .list a, .int k => if 0 ≤ k ∧ k ≤ 1000 ∧ a.length * k.toNat ≤ sizeLine then some (.own (.list (List.replicate k.toNat a).flatten)) else none
  | .mul, .tuple a, .int k => if a ≠ [] ∧ 2 ≤ k ∧ k ≤ 1000 ∧ a.length ≤ 1000 then some (.val (.tuple (List.replicate k.toNat a).flatten)) else none
  | .mod, .int i, .int j => if 0 < j then some (.val (.int (i % j))) else none
  | .fdiv, .int i, .int j => if 0 < j ∧ j < 1073741824 then some (.val (.int (i / j))) else none
  | .pow, .int i, .int j => if 0 ≤ j ∧ j ≤ 1000000 ∧ i.natAbs < 2 ^ 64 then some (.val (.int (i ^ j.toNat))) else none
  | _, _, _ => none
def truD : D → Option Bool
  | .none => some false
  | .bool b => some b
  | .int i => some (i != 0)
  | .str y => if y.length ≤ sizeLine then some ((y.length : Int) != 0) else none
  | .list ds => some (!ds.isEmpty)
  | .tuple ds => some (!ds.isEmpty)
  | .dict kvs => some (!kvs.isEmpty)
def ixD (x i : D) : Option D :=
  match x, i with
  | .list ds, .int k => atI ds k
  | .tuple ds, .int k => atI ds k
  | _, _ => none
def cutD (xs : List D) (lo hi : Option Int) : List D := (xs.drop (HT.sIx xs.length 0 lo)).take (HT.sIx xs.length xs.length hi - HT.sIx xs.length 0 lo)
def slD (x : D) (lo hi : Option Int) : Option RV :=
  match x with
  | .list ds => some (.own (.list (cutD ds lo hi)))
  | .tuple ds => some (.val (.tuple (cutD ds lo hi)))
  | _ => none
def intsOf : List D → Option (List Int)
  | [] => some []
  | .int i :: r => (intsOf r).map (i :: ·)
  | _ :: _ => none
def bolsOf : List D → Option (List Bool)
  | [] => some []
  | .bool b :: r => (bolsOf r).map (b :: ·)
  | _ :: _ => none
def keyOf : D → Option Key
  | .int i => some (.inl i)
  | .str x => some (.inr x)
  | _ => none
def isNone : D → Bool
  | .none => true
  | _ => false
def isDic : D → Bool
  | .dict _ => true
  | _ => false
def ofKey : Key → D
  | .inl i => .int i
  | .inr x => .str x
/-- a key stored -/
def putK (kvs : List (D × D)) (k v : D) : List (D × D) :=
  if (kvs.any fun p => PyData.eqv p.1 k) = true then kvs.map (fun p => if PyData.eqv p.1 k = true then (p.1, v) else p) else kvs ++ [(k, v)]
def pairsOf : List D → Option (List (D × D))
  | [] => some []
  | .tuple [k, v] :: r => if (keyOf k).isSome then (pairsOf r).map ((k, v) :: ·) else none
  | _ :: _ => none
def getK : List (D × D) → D → Option D
  | [], _ => none
  | (k', v) :: r, k => if PyData.eqv k' k then some v else getK r k
/-! data that is shown: small numbers, signs of unicode, no dicts -/
mutual
def plainD : D → Bool
  | .none => true
  | .bool _ => true
  | .int i => decide (i.natAbs < 10 ^ 60)
  | .str x => PyData.strOk x
  | .list xs => plainL xs
  | .tuple xs => plainL xs
  | .dict _ => false
def plainL : List D → Bool
  | [] => true
  | x :: xs => plainD x && plainL xs
end
def reprOk (d : D) : Bool := plainD d && decide (d.depth ≤ 64) && decide (d.bulk ≤ 250000)
def bltD (b : Blt) (xs : List D) : Option RV :=
  match b with
  | .len => match xs with
    | [.list ds] => some (.val (.int ds.length))
    | [.tuple ds] => some (.val (.int ds.length))
    | [.str x] => if x.length ≤ sizeLine then some (.val (.int x.length)) else none
    | _ => none
  | .abs => match xs with | [.int i] => some (.val (.int (if i < 0 then -i else i))) | _ => none
  | .max => match xs with | [.int i, .int j] => some (.val (.int (if j > i then j else i))) | _ => none
  | .min => match xs with | [.int i, .int j] => some (.val (.int (if j < i then j else i))) | _ => none
  | .sum => match xs with | [.list ds] => (intsOf ds).map fun ns => .val (.int ns.sum) | _ => none
  | .all => match xs with | [.list ds] => (bolsOf ds).map fun bs => .val (.bool (bs.all id)) | _ => none
  | .any => match xs with | [.list ds] => (bolsOf ds).map fun bs => .val (.bool (bs.any id)) | _ => none
  | .int => match xs with
    | [.int i] => some (.val (.int i))
    | [.bool b] => some (.val (.int (if b then 1 else 0)))
    | _ => none
  | .divmod => match xs with
    | [.int i, .int j] => if 0 < j ∧ j < 1073741824 then some (.val (.tuple [.int (i / j), .int (i % j)])) else none
    | _ => none
  | .list => match xs with
    | [.list ds] => some (.own (.list ds))
    | [.tuple ds] => some (.own (.list ds))
    | _ => none
  | .tuple => match xs with
    | [.list ds] => some (.val (.tuple ds))
    | [.tuple ds] => some (.val (.tuple ds))
    | _ => none
  | .dict => match xs with
    | [.list ds] => (pairsOf ds).map fun ps => .own (.dict (ps.foldl (fun m p => putK m p.1 p.2) []))
    | _ => none
  | .repr => match xs with | [d] => if reprOk d then some (.val (.str d.shown)) else none | _ => none
def tyD : D → String
  | .none => "NoneType"
  | .bool _ => "bool"
  | .int _ => "int"
  | .str _ => "str"
  | .list _ => "list"
  | .tuple _ => "tuple"
  | .dict _ => "dict"
def isiD (x : D) (tys : List String) : Bool := tys.any fun t => tyD x == t || (tyD x == "bool" && t == "int")

/-- x[k] = v -/
def setD (k v : D) : D → Option D
  | .list ds => match k with
    | .int z => (ixN ds.length z).map fun j => .list (ds.set j v)
    | _ => none
  | .dict kvs => if (keyOf k).isSome ∧ kvs.length < sizeLine then some (.dict (putK kvs k v)) else none
  | _ => none
/-- x.append(e), x.extend(e) -/
def mutD (m : Mut) (e : D) : D → Option D
  | .list ds => match m with
    | .append => if ds.length < sizeLine then some (.list (ds ++ [e])) else none
    | .extend => match e with
      | .list es => if ds.length + es.length ≤ sizeLine then some (.list (ds ++ es)) else none
      | _ => none
  | _ => none

/-! ### targets -/
mutual
def putP : Pat → D → Env → Option Env
  | .nm i, d, ρ => putS ρ i (.val d)
  | .ixs i k, d, ρ => chgS ρ i fun x => match x with
    | .list ds => (ixN ds.length k).map fun j => .list (ds.set j d)
    | _ => none
  | .tup ps, d, ρ => match d with
    | .tuple ds => putPs ps ds ρ
    | _ => none
def putPs : List Pat → List D → Env → Option Env
  | [], [], ρ => some ρ
  | p :: ps, d :: ds, ρ => (putP p d ρ).bind fun ρ' => putPs ps ds ρ'
  | _, _, _ => none
end
/-- the target of an assignment's value -/
def putV (p : Pat) (r : RV) (ρ : Env) : Option Env :=
  match p with
  | .nm i => putS ρ i r
  | p => putP p r.d ρ

/-! ### loops -/
def compL (turn : D → Env → Option (Option D × Env)) : List D → Env → List D → Option (List D × Env)
  | [], ρ, acc => some (acc, ρ)
  | d :: ds, ρ, acc => match turn d ρ with
    | some (some x, ρ') => compL turn ds ρ' (acc ++ [x])
    | some (none, ρ') => compL turn ds ρ' acc
    | none => none
def enumD : Nat → List D → List D
  | _, [] => []
  | n, x :: r => .tuple [.int n, x] :: enumD (n + 1) r
def zipD : List D → List D → List D
  | x :: r, y :: t => .tuple [x, y] :: zipD r t
  | _, _ => []
def rangeD : Int → Nat → List D
  | _, 0 => []
  | lo, n + 1 => .int lo :: rangeD (lo + 1) n
def itemsOf : D → Option (List D)
  | .list ds => if ds.length ≤ sizeLine then some ds else none
  | .tuple ds => if ds.length ≤ sizeLine then some ds else none
  | _ => none
def listOf : D → Option (List D)
  | .list ds => if ds.length ≤ sizeLine then some ds else none
  | _ => none

/-! ### calls -/
def argOut : List AV → Env → List (RA × Option Nat)
  | _, _ => []
/-- the changed lists, back into the caller's slots -/
def backIo (ρ : Env) : List Nat → List D → Option Env
  | [], [] => some ρ
  | i :: is, d :: ds => match getS ρ i with
    | .own _ => backIo (ρ.set i (.own d)) is ds
    | .io _ => backIo (ρ.set i (.io d)) is ds
    | _ => none
  | _, _ => none
inductive PA' where | val (d : D) | io (i : Nat)
def resArgs (ρ : Env) : List PA' → Option (List AV)
  | [] => some []
  | .val d :: r => (resArgs ρ r).map (.val d :: ·)
  | .io i :: r => match getS ρ i with
    | .own d => (resArgs ρ r).map (.io d :: ·)
    | .io d => (resArgs ρ r).map (.io d :: ·)
    | _ => none
def iosOf : List PA' → List Nat
  | [] => []
  | .val _ :: r => iosOf r
  | .io i :: r => i :: iosOf r
def callD (Φ : Fn) (f : Nat) (as : List PA') (ρ : Env) : Option (RV × Env) :=
  if (iosOf as).Nodup then
    match resArgs ρ as with
    | some avs => match Φ f avs with
      | some (x, outs) => (backIo ρ (iosOf as) outs).map fun ρ' => (x, ρ')
      | none => none
    | none => none
  else none
def permute (l : List PA') (pm : List Nat) : Option (List PA') := pm.mapM fun i => l[i]?

/-! ### what the words are worth -/
section
variable (Φ : Fn)
mutual
def evE : RE → Env → Option (RV × Env)
  | .c d, ρ => some (.val d, ρ)
  | .g _ d, ρ => some (.val d, ρ)
  | .v i, ρ => takeS ρ i
  | .bin o a b, ρ => (evP a ρ).bind fun p => (evP b p.2).bind fun q => (p.1.res q.2).bind fun x => (q.1.res q.2).bind fun y => (binD o x y).map fun r => (r, q.2)
  | .neg a, ρ => (evE a ρ).bind fun p => match p.1.d with | .int i => some (.val (.int (-i)), p.2) | _ => none
  | .cmp o a b, ρ => (evP a ρ).bind fun p => (evP b p.2).bind fun q => (p.1.res q.2).bind fun x => (q.1.res q.2).bind fun y => (cmpD o x y).map fun r => (.val (.bool r), q.2)
  | .isN a, ρ => (evP a ρ).bind fun p => (p.1.res p.2).map fun x => (.val (.bool (isNone x)), p.2)
  | .notN a, ρ => (evP a ρ).bind fun p => (p.1.res p.2).map fun x => (.val (.bool (!isNone x)), p.2)
  | .and a b, ρ => (evE a ρ).bind fun p => match p.1.d with | .bool true => evE b p.2 | .bool false => some (.val (.bool false), p.2) | _ => none
  | .or a b, ρ => (evE a ρ).bind fun p => match p.1.d with | .bool false => evE b p.2 | .bool true => some (.val (.bool true), p.2) | _ => none
  | .nt a, ρ => (evE a ρ).bind fun p => match p.1.d with | .bool b => some (.val (.bool !b), p.2) | _ => none
  | .ite t a b, ρ => (evT t ρ).bind fun p => if p.1 then evE a p.2 else evE b p.2
  | .tup es, ρ => (evL es ρ).bind fun p => if p.1.length ≤ sizeLine then some (.val (.tuple p.1), p.2) else none
  | .lst es, ρ => (evL es ρ).bind fun p => if p.1.length ≤ sizeLine then some (.own (.list p.1), p.2) else none
  | .dct0, ρ => some (.own (.dict []), ρ)
  | .ix a i, ρ => (evP a ρ).bind fun p => (evE i p.2).bind fun q => (p.1.res q.2).bind fun x => (ixD x q.1.d).map fun r => (.val r, q.2)
  | .sl a lo hi, ρ => (evP a ρ).bind fun p => (evO lo p.2).bind fun l => (evO hi l.2).bind fun h => (p.1.res h.2).bind fun x => (slD x l.1 h.1).map fun r => (r, h.2)
  | .call f _ es, ρ => (evA es ρ).bind fun p => callD Φ f p.1 p.2
  | .callK f _ es _ ws pm, ρ => (evA es ρ).bind fun p => (evL ws p.2).bind fun q => (permute (p.1 ++ q.1.map .val) pm).bind fun as => callD Φ f as q.2
  | .blt b es, ρ => (evPs es ρ).bind fun p => (p.1.mapM (PV.res p.2)).bind fun xs => (bltD b xs).map fun r => (r, p.2)
  | .isi a tys, ρ => (evP a ρ).bind fun p => (p.1.res p.2).map fun x => (.val (.bool (isiD x tys)), p.2)
  | .get2 a k e, ρ => (evP a ρ).bind fun p => if ((p.1.res p.2).map isDic).getD false then (evE k p.2).bind fun q => (evE e q.2).bind fun r => (p.1.res r.2).bind fun x => match x with
    | .dict kvs => if (keyOf q.1.d).isSome then some (.val ((getK kvs q.1.d).getD r.1.d), r.2) else none
    | _ => none
    else none
  | .lc elt tg it ifs vs, ρ => (evI it ρ).bind fun p => (hideS p.2 vs).bind fun ρ1 =>
      (compL (fun d ρ2 => (putP tg d (wipeS ρ2 vs)).bind fun ρ3 => (evTo ifs ρ3).bind fun t => if t.1 then (evE elt t.2).map fun y => (some y.1.d, y.2) else some (none, t.2)) p.1 ρ1 []).map
        fun r => (.own (.list r.1), backS ρ1 r.2 vs)
def evT : RT → Env → Option (Bool × Env)
  | .tr e, ρ => (evP e ρ).bind fun p => (p.1.res p.2).bind fun x => (truD x).map fun b => (b, p.2)
  | .cmp o a b, ρ => (evP a ρ).bind fun p => (evP b p.2).bind fun q => (p.1.res q.2).bind fun x => (q.1.res q.2).bind fun y => (cmpD o x y).map fun r => (r, q.2)
  | .isN a, ρ => (evP a ρ).bind fun p => (p.1.res p.2).map fun x => (isNone x, p.2)
  | .notN a, ρ => (evP a ρ).bind fun p => (p.1.res p.2).map fun x => (!isNone x, p.2)
  | .and a b, ρ => (evT a ρ).bind fun p => if p.1 then evT b p.2 else some (false, p.2)
  | .or a b, ρ => (evT a ρ).bind fun p => if p.1 then some (true, p.2) else evT b p.2
  | .nt a, ρ => (evT a ρ).map fun p => (!p.1, p.2)
def evTo : Option RT → Env → Option (Bool × Env)
  | none, ρ => some (true, ρ)
  | some t, ρ => evT t ρ
def evP : RP → Env → Option (PV × Env)
  | .slot i, ρ => (peekS ρ i).map fun p => (p, ρ)
  | .ex e, ρ => (evE e ρ).map fun p => (.val p.1.d, p.2)
def evPs : List RP → Env → Option (List PV × Env)
  | [], ρ => some ([], ρ)
  | e :: es, ρ => (evP e ρ).bind fun p => (evPs es p.2).map fun q => (p.1 :: q.1, q.2)
def evL : List RE → Env → Option (List D × Env)
  | [], ρ => some ([], ρ)
  | e :: es, ρ => (evE e ρ).bind fun p => (evL es p.2).map fun q => (p.1.d :: q.1, q.2)
def evA : List RA → Env → Option (List PA' × Env)
  | [], ρ => some ([], ρ)
  | .e e :: es, ρ => (evE e ρ).bind fun p => (evA es p.2).map fun q => (.val p.1.d :: q.1, q.2)
  | .io i :: es, ρ => match getS ρ i with
    | .own _ => (evA es ρ).map fun q => (.io i :: q.1, q.2)
    | .io _ => (evA es ρ).map fun q => (.io i :: q.1, q.2)
    | _ => none
def evO : RO → Env → Option (Option Int × Env)
  | .no, ρ => some (none, ρ)
  | .e e, ρ => (evE e ρ).bind fun p => match p.1.d with | .int i => some (some i, p.2) | _ => none
def evI : RI → Env → Option (List D × Env)
  | .seq e, ρ => (evE e ρ).bind fun p => (itemsOf p.1.d).map fun xs => (xs, p.2)
  | .rng1 e, ρ => (evE e ρ).bind fun p => match p.1.d with | .int j => if j ≤ 16777216 ∧ -(2 ^ 62) ≤ j then some (rangeD 0 j.toNat, p.2) else none | _ => none
  | .rng2 a b, ρ => (evE a ρ).bind fun p => (evE b p.2).bind fun q => match p.1.d, q.1.d with
    | .int i, .int j => if -(2 ^ 61) ≤ i ∧ i < 2 ^ 61 ∧ -(2 ^ 61) ≤ j ∧ j < 2 ^ 61 ∧ j - i ≤ 16777216 then some (rangeD i (j - i).toNat, q.2) else none
    | _, _ => none
  | .enum e, ρ => (evE e ρ).bind fun p => (listOf p.1.d).map fun xs => (enumD 0 xs, p.2)
  | .zip a b, ρ => (evE a ρ).bind fun p => (evE b p.2).bind fun q => (listOf p.1.d).bind fun xs => (listOf q.1.d).map fun ys => (zipD xs ys, q.2)
end

inductive Out where | nx (ρ : Env) | ret (r : RV) (ρ : Env) | brk (ρ : Env) | ct (ρ : Env)
def forL (tg : Pat) (body : Env → Option Out) : List D → Env → Option Out
  | [], ρ => some (.nx ρ)
  | d :: ds, ρ => match putP tg d ρ with
    | some ρ' => match body ρ' with
      | some (.nx ρ2) => forL tg body ds ρ2
      | some (.ct ρ2) => forL tg body ds ρ2
      | some (.brk ρ2) => some (.nx ρ2)
      | some (.ret r ρ2) => some (.ret r ρ2)
      | none => none
    | none => none
def whileL (test : Env → Option (Bool × Env)) (body : Env → Option Out) : Nat → Env → Option Out
  | 0, _ => none
  | n + 1, ρ => match test ρ with
    | some (false, ρ') => some (.nx ρ')
    | some (true, ρ') => match body ρ' with
      | some (.nx ρ2) => whileL test body n ρ2
      | some (.ct ρ2) => whileL test body n ρ2
      | some (.brk ρ2) => some (.nx ρ2)
      | some (.ret r ρ2) => some (.ret r ρ2)
      | none => none
    | none => none
/-- several values, each new list still its own -/
def evR : List RE → Env → Option (List RV × Env)
  | [], ρ => some ([], ρ)
  | e :: es, ρ => (evE Φ e ρ).bind fun p => (evR es p.2).map fun q => (p.1 :: q.1, q.2)
def putN : List Nat → List RV → Env → Option Env
  | [], [], ρ => some ρ
  | i :: is, r :: rs, ρ => (putS ρ i r).bind fun ρ' => putN is rs ρ'
  | _, _, _ => none
variable (w : Nat)
mutual
def evS : RS → Env → Option Out
  | .asg p e, ρ => (evE Φ e ρ).bind fun q => (putV p q.1 q.2).map .nx
  | .par is es, ρ => (evR Φ es ρ).bind fun q => (putN is q.1 q.2).map .nx
  | .setIx i k e, ρ => if heldS ρ i then (evE Φ e ρ).bind fun q => (evE Φ k q.2).bind fun r => (chgS r.2 i (setD r.1.d q.1.d)).map .nx else none
  | .ex e, ρ => (evE Φ e ρ).map fun q => .nx q.2
  | .mut m i e, ρ => if lstS ρ i then (evE Φ e ρ).bind fun q => (chgS q.2 i (mutD m q.1.d)).map .nx else none
  | .iF t a b, ρ => (evT Φ t ρ).bind fun p => if p.1 then evB a p.2 else evB b p.2
  | .for_ p it b, ρ => (evI Φ it ρ).bind fun q => forL p (fun ρ' => evB b ρ') q.1 q.2
  | .while_ t b, ρ => whileL (fun ρ' => evT Φ t ρ') (fun ρ' => evB b ρ') w ρ
  | .ret e, ρ => (evE Φ e ρ).map fun q => .ret q.1 q.2
  | .retS i, ρ => match getS ρ i with
    | .val d => some (.ret (.val d) ρ)
    | .own d => some (.ret (.own d) (ρ.set i .un))
    | _ => none
  | .retN, ρ => some (.ret (.val .none) ρ)
  | .pass, ρ => some (.nx ρ)
  | .ct, ρ => some (.ct ρ)
  | .brk, ρ => some (.brk ρ)
  | .bad, _ => none
def evB : List RS → Env → Option Out
  | [], ρ => some (.nx ρ)
  | s :: r, ρ => match evS s ρ with
    | some (.nx ρ') => evB r ρ'
    | some o => some o
    | none => none
end
end

/-! ### defs -/
structure Df where
  name : String
  ps : Nat
  ns : Nat
  body : List RS
def startS (ns : Nat) (as : List AV) : Env := (as.map fun a => match a with | .val d => SD.val d | .io d => SD.io d) ++ List.replicate (ns - as.length) .un
def outsOf : List AV → Nat → Env → Option (List D)
  | [], _, _ => some []
  | .val _ :: r, i, ρ => outsOf r (i + 1) ρ
  | .io _ :: r, i, ρ => match getS ρ i with
    | .io d => (outsOf r (i + 1) ρ).map (d :: ·)
    | _ => none
def runD (Φ : Fn) (w : Nat) (df : Df) (as : List AV) : Option (RV × List D) :=
  if as.length = df.ps then
    match evB Φ w df.body (startS df.ns as) with
    | some (.nx ρ) => (outsOf as 0 ρ).map fun o => (.val .none, o)
    | some (.ret r ρ) => (outsOf as 0 ρ).map fun o => (r, o)
    | _ => none
  else none
def callF (T : List Df) (w : Nat) : Nat → Fn
  | 0 => fun _ _ => none
  | n + 1 => fun f as => match T[f]? with
    | some df => runD (callF T w n) w df as
    | none => none
end PL

/-! PL2: how pure data stand in the hand layer's heap. -/
namespace PL
open PySem PySem.Spec PyProof.Rows L2
abbrev SV := L2.St

section
variable (K : PySem.W.Frag)
mutual
def Rep (H : Hp) : D → V → Prop
  | .none, v => v = .non
  | .bool b, v => v = .bl b
  | .int i, v => v = .int i
  | .str x, v => v = .str x
  | .list ds, v => ∃ a vs, v = .ref a ∧ H a = some (.lst vs) ∧ RepL H ds vs
  | .tuple ds, v => ∃ a vs, v = .ref a ∧ SqT K H a vs ∧ RepL H ds vs
  | .dict kvs, v => ∃ a ks, v = .ref a ∧ H a = some (.dK ks) ∧ RepK H kvs ks
def RepL (H : Hp) : List D → List V → Prop
  | [], vs => vs = []
  | d :: ds, vs => ∃ v r, vs = v :: r ∧ Rep H d v ∧ RepL H ds r
def RepK (H : Hp) : List (D × D) → List (Key × V) → Prop
  | [], ks => ks = []
  | (k, d) :: r, ks => ∃ q v t, ks = (q, v) :: t ∧ k = ofKey q ∧ Rep H d v ∧ RepK H r t
end
/-- a list or dict that one holder alone has; what is in it never changes -/
def Own (Hf H : Hp) (a : Addr) : D → Prop
  | .list ds => Hf a = none ∧ ∃ vs, H a = some (.lst vs) ∧ RepL K Hf ds vs
  | .dict kvs => Hf a = none ∧ ∃ ks, H a = some (.dK ks) ∧ RepK K Hf kvs ks
  | _ => False
/-- a thing that may be read at its top -/
def Pk (Hf H : Hp) : D → V → Prop
  | .list ds, v => ∃ a vs, v = .ref a ∧ H a = some (.lst vs) ∧ RepL K Hf ds vs
  | .dict kvs, v => ∃ a ks, v = .ref a ∧ H a = some (.dK ks) ∧ RepK K Hf kvs ks
  | d, v => Rep K Hf d v
end

section
variable {K : PySem.W.Frag} {H H' Hf Hf' : Hp}
theorem sqT_mono (e : Same H H') {a : Addr} {xs : List V} (h : SqT K H a xs) : SqT K H' a xs := by
  rcases h with (h | ⟨o, h⟩) | h
  · exact .inl (.inl (e _ _ h))
  · exact .inl (.inr ⟨o, e _ _ h⟩)
  · exact .inr h
mutual
theorem Rep.mono (e : Same H H') : ∀ (d : D) (v : V), Rep K H d v → Rep K H' d v
  | .none, _, h => by simpa [Rep] using h
  | .bool _, _, h => by simpa [Rep] using h
  | .int _, _, h => by simpa [Rep] using h
  | .str _, _, h => by simpa [Rep] using h
  | .list ds, v, h => by
    simp only [Rep] at h ⊢
    obtain ⟨a, vs, e1, e2, h⟩ := h
    exact ⟨a, vs, e1, e _ _ e2, RepL.mono e ds vs h⟩
  | .tuple ds, v, h => by
    simp only [Rep] at h ⊢
    obtain ⟨a, vs, e1, e2, h⟩ := h
    exact ⟨a, vs, e1, sqT_mono e e2, RepL.mono e ds vs h⟩
  | .dict kvs, v, h => by
    simp only [Rep] at h ⊢
    obtain ⟨a, vs, e1, e2, h⟩ := h
    exact ⟨a, vs, e1, e _ _ e2, RepK.mono e kvs vs h⟩
theorem RepL.mono (e : Same H H') : ∀ (ds : List D) (vs : List V), RepL K H ds vs → RepL K H' ds vs
  | [], _, h => by simpa [RepL] using h
  | d :: ds, vs, h => by
    simp only [RepL] at h ⊢
    obtain ⟨v, r, e1, h1, h2⟩ := h
    exact ⟨v, r, e1, Rep.mono e d v h1, RepL.mono e ds r h2⟩
theorem RepK.mono (e : Same H H') : ∀ (kvs : List (D × D)) (ks : List (Key × V)), RepK K H kvs ks → RepK K H' kvs ks
  | [], _, h => by simpa [RepK] using h
  | (k, d) :: r, ks, h => by
    simp only [RepK] at h ⊢
    obtain ⟨q, v, t, e1, e2, h1, h2⟩ := h
    exact ⟨q, v, t, e1, e2, Rep.mono e d v h1, RepK.mono e r t h2⟩
end
theorem RepL.len : ∀ {ds : List D} {vs : List V}, RepL K H ds vs → ds.length = vs.length
  | [], _, h => by simp only [RepL] at h; subst h; rfl
  | d :: ds, vs, h => by
    simp only [RepL] at h
    obtain ⟨v, r, rfl, _, h2⟩ := h
    simp [RepL.len h2]
theorem RepK.len : ∀ {ds : List (D × D)} {vs : List (Key × V)}, RepK K H ds vs → ds.length = vs.length
  | [], _, h => by simp only [RepK] at h; subst h; rfl
  | (k, d) :: ds, vs, h => by
    simp only [RepK] at h
    obtain ⟨q, v, r, rfl, _, _, h2⟩ := h
    simp [RepK.len h2]
theorem RepL.get : ∀ {ds : List D} {vs : List V} {i : Nat} {d : D}, RepL K H ds vs → ds[i]? = some d → ∃ v, vs[i]? = some v ∧ Rep K H d v
  | [], _, _, _, _, e => by simp at e
  | d :: ds, vs, 0, d', h, e => by
    simp only [RepL] at h
    obtain ⟨v, r, rfl, h1, _⟩ := h
    simp at e; subst e
    exact ⟨v, rfl, h1⟩
  | d :: ds, vs, i + 1, d', h, e => by
    simp only [RepL] at h
    obtain ⟨v, r, rfl, _, h2⟩ := h
    obtain ⟨w, e1, h3⟩ := RepL.get (i := i) h2 (by simpa using e)
    exact ⟨w, by simpa using e1, h3⟩
theorem RepL.append : ∀ {ds es : List D} {vs ws : List V}, RepL K H ds vs → RepL K H es ws → RepL K H (ds ++ es) (vs ++ ws)
  | [], _, _, _, h, g => by simp only [RepL] at h; subst h; simpa using g
  | d :: ds, es, vs, ws, h, g => by
    simp only [RepL] at h
    obtain ⟨v, r, rfl, h1, h2⟩ := h
    simp only [List.cons_append, RepL]
    exact ⟨v, r ++ ws, rfl, h1, RepL.append h2 g⟩
theorem RepL.nil : RepL K H [] [] := by simp only [RepL]
theorem RepL.cons {d : D} {ds : List D} {v : V} {vs : List V} (h : Rep K H d v) (g : RepL K H ds vs) : RepL K H (d :: ds) (v :: vs) := by
  simp only [RepL]
  exact ⟨v, vs, rfl, h, g⟩
theorem RepL.one {d : D} {v : V} (h : Rep K H d v) : RepL K H [d] [v] := .cons h .nil
theorem RepL.set {d : D} {v : V} (h : Rep K H d v) : ∀ {ds : List D} {vs : List V} (j : Nat), RepL K H ds vs → RepL K H (ds.set j d) (vs.set j v)
  | [], _, _, g => by simp only [RepL] at g; subst g; simp [RepL]
  | e :: ds, vs, 0, g => by
    simp only [RepL] at g
    obtain ⟨w, r, rfl, _, h2⟩ := g
    exact .cons h h2
  | e :: ds, vs, j + 1, g => by
    simp only [RepL] at g
    obtain ⟨w, r, rfl, h1, h2⟩ := g
    exact .cons h1 (RepL.set h j h2)
theorem RepL.take : ∀ {ds : List D} {vs : List V} (n : Nat), RepL K H ds vs → RepL K H (ds.take n) (vs.take n)
  | [], _, n, g => by simp only [RepL] at g; subst g; simp [RepL]
  | e :: ds, vs, 0, g => by simp [RepL]
  | e :: ds, vs, n + 1, g => by
    simp only [RepL] at g
    obtain ⟨w, r, rfl, h1, h2⟩ := g
    exact .cons h1 (RepL.take n h2)
theorem RepL.drop : ∀ {ds : List D} {vs : List V} (n : Nat), RepL K H ds vs → RepL K H (ds.drop n) (vs.drop n)
  | [], _, n, g => by simp only [RepL] at g; subst g; simp [RepL]
  | e :: ds, vs, 0, g => by simpa using g
  | e :: ds, vs, n + 1, g => by
    simp only [RepL] at g
    obtain ⟨w, r, rfl, h1, h2⟩ := g
    simpa using RepL.drop n h2
theorem RepL.rep {ds : List D} {vs : List V} (h : RepL K H ds vs) : ∀ n, RepL K H (List.replicate n ds).flatten (List.replicate n vs).flatten
  | 0 => by simp [RepL]
  | n + 1 => by
    rw [List.replicate_succ, List.replicate_succ, List.flatten_cons, List.flatten_cons]
    exact h.append (RepL.rep h n)
/-! ### what a Pk gives -/
theorem Pk.rep (e : Same Hf H) : ∀ {d : D} {v : V}, Pk K Hf H d v → Rep K H d v
  | .list ds, v, h => by
    obtain ⟨a, vs, e1, e2, h⟩ := h
    simp only [Rep]
    exact ⟨a, vs, e1, e2, RepL.mono e _ _ h⟩
  | .dict kvs, v, h => by
    obtain ⟨a, vs, e1, e2, h⟩ := h
    simp only [Rep]
    exact ⟨a, vs, e1, e2, RepK.mono e _ _ h⟩
  | .none, v, h => Rep.mono e _ _ h
  | .bool _, v, h => Rep.mono e _ _ h
  | .int _, v, h => Rep.mono e _ _ h
  | .str _, v, h => Rep.mono e _ _ h
  | .tuple _, v, h => Rep.mono e _ _ h
theorem Rep.pk (e : Same Hf H) : ∀ {d : D} {v : V}, Rep K Hf d v → Pk K Hf H d v
  | .list ds, v, h => by
    simp only [Rep] at h
    obtain ⟨a, vs, e1, e2, h⟩ := h
    exact ⟨a, vs, e1, e _ _ e2, h⟩
  | .dict kvs, v, h => by
    simp only [Rep] at h
    obtain ⟨a, vs, e1, e2, h⟩ := h
    exact ⟨a, vs, e1, e _ _ e2, h⟩
  | .none, v, h => h
  | .bool _, v, h => h
  | .int _, v, h => h
  | .str _, v, h => h
  | .tuple _, v, h => h
theorem Own.pk {a : Addr} : ∀ {d : D}, Own K Hf H a d → Pk K Hf H d (.ref a)
  | .list ds, ⟨_, vs, e, h⟩ => ⟨a, vs, rfl, e, h⟩
  | .dict ds, ⟨_, vs, e, h⟩ => ⟨a, vs, rfl, e, h⟩
  | .none, h => h.elim
  | .bool _, h => h.elim
  | .int _, h => h.elim
  | .str _, h => h.elim
  | .tuple _, h => h.elim
theorem Own.off {a : Addr} : ∀ {d : D}, Own K Hf H a d → Hf a = none ∧ ∃ o, H a = some o
  | .list ds, ⟨n, vs, e, h⟩ => ⟨n, _, e⟩
  | .dict ds, ⟨n, vs, e, h⟩ => ⟨n, _, e⟩
  | .none, h => h.elim
  | .bool _, h => h.elim
  | .int _, h => h.elim
  | .str _, h => h.elim
  | .tuple _, h => h.elim
theorem Own.mono {a : Addr} (e : Same Hf Hf') (n : Hf' a = none) (k : ∀ o, H a = some o → H' a = some o) : ∀ {d : D}, Own K Hf H a d → Own K Hf' H' a d
  | .list ds, ⟨_, vs, e1, h⟩ => ⟨n, vs, k _ e1, RepL.mono e _ _ h⟩
  | .dict ds, ⟨_, vs, e1, h⟩ => ⟨n, vs, k _ e1, RepK.mono e _ _ h⟩
  | .none, h => h.elim
  | .bool _, h => h.elim
  | .int _, h => h.elim
  | .str _, h => h.elim
  | .tuple _, h => h.elim
theorem same_upd {Hf : Hp} {a : Addr} {o : HO} (n : Hf a = none) : Same Hf (upd Hf a o) := fun b u q => by
  rw [upd_ne (ne_of_none q n)]
  exact q
/-- from now on it never changes -/
theorem Own.frz {a : Addr} {o : HO} (e1 : H a = some o) : ∀ {d : D}, Own K Hf H a d → Same Hf (upd Hf a o) ∧ Rep K (upd Hf a o) d (.ref a)
  | .list ds, ⟨n, vs, e, h⟩ => by
    have s : Same Hf (upd Hf a o) := same_upd n
    rw [e1] at e; cases e
    simp only [Rep]
    exact ⟨s, a, vs, rfl, upd_same, RepL.mono s _ _ h⟩
  | .dict ds, ⟨n, vs, e, h⟩ => by
    have s : Same Hf (upd Hf a o) := same_upd n
    rw [e1] at e; cases e
    simp only [Rep]
    exact ⟨s, a, vs, rfl, upd_same, RepK.mono s _ _ h⟩
  | .none, h => h.elim
  | .bool _, h => h.elim
  | .int _, h => h.elim
  | .str _, h => h.elim
  | .tuple _, h => h.elim
end

/-! ### the state -/
structure Yx where
  K : PySem.W.Frag
  F0 : Hp
  H0 : Hp
  I0 : List (Nat × Addr)
def Held (ρ : Env) (i : Nat) : Prop := ∃ d, ρ[i]? = some (SD.own d) ∨ ρ[i]? = some (SD.io d)
structure ER (Y : Yx) (ρ : Env) (τ : List (D × Addr)) (σ : SV) (H Hf : Hp) : Prop where
  sub : Same Hf H
  base : Same Y.F0 Hf
  keep : ∀ b o, Y.H0 b = some o → b ∉ Y.I0.map (·.2) → H b = some o
  new : ∀ b o, Hf b = some o → (∃ u, Y.F0 b = some u) ∨ Y.H0 b = none
  len : ρ.length = σ.length
  val : ∀ (i : Nat) (d : D), ρ[i]? = some (.val d) → ∃ v, σ[i]? = some (some v) ∧ Rep Y.K Hf d v
  own : ∀ (i : Nat) (d : D), ρ[i]? = some (.own d) → ∃ a, σ[i]? = some (some (.ref a)) ∧ Own Y.K Hf H a d ∧ Y.H0 a = none
  io : ∀ (i : Nat) (d : D), ρ[i]? = some (.io d) → ∃ a, σ[i]? = some (some (.ref a)) ∧ Own Y.K Hf H a d ∧ (i, a) ∈ Y.I0
  iob : ∀ p ∈ Y.I0, ∃ d, ρ[p.1]? = some (.io d) ∧ σ[p.1]? = some (some (.ref p.2))
  ap : ∀ (i j : Nat) (a : Addr), Held ρ i → Held ρ j → σ[i]? = some (some (.ref a)) → σ[j]? = some (some (.ref a)) → i = j
  tmp : ∀ t ∈ τ, Own Y.K Hf H t.2 t.1 ∧ Y.H0 t.2 = none
  tnd : (τ.map (·.2)).Nodup
  tap : ∀ (i : Nat) (a : Addr), Held ρ i → σ[i]? = some (some (.ref a)) → a ∉ τ.map (·.2)
def VR (Y : Yx) : RV → V → Env → List (D × Addr) → SV → Hp → Hp → Prop
  | .val d, v, ρ, τ, σ, H, Hf => ER Y ρ τ σ H Hf ∧ Rep Y.K Hf d v
  | .own d, v, ρ, τ, σ, H, Hf => ∃ a, v = .ref a ∧ ER Y ρ ((d, a) :: τ) σ H Hf

theorem getS_some {ρ : Env} {i : Nat} {x : SD} (h : getS ρ i = x) (n : x ≠ .un) : ρ[i]? = some x := by
  unfold getS at h
  rw [List.getD_eq_getElem?_getD] at h
  cases e : ρ[i]? with
  | none => rw [e] at h; exact absurd h.symm n
  | some y => rw [e] at h; simp at h; rw [h]
theorem getS_of {ρ : Env} {i : Nat} {x : SD} (h : ρ[i]? = some x) : getS ρ i = x := by
  unfold getS
  rw [List.getD_eq_getElem?_getD, h]
  rfl

section
variable {Y : Yx} {ρ : Env} {τ : List (D × Addr)} {σ : SV} {H Hf : Hp}
theorem ER.held (E : ER Y ρ τ σ H Hf) {i : Nat} (h : Held ρ i) : ∃ a d, σ[i]? = some (some (.ref a)) ∧ Own Y.K Hf H a d := by
  obtain ⟨d, h | h⟩ := h
  · obtain ⟨a, e, o, _⟩ := E.own i d h
    exact ⟨a, d, e, o⟩
  · obtain ⟨a, e, o, _⟩ := E.io i d h
    exact ⟨a, d, e, o⟩
theorem ER.io_there (E : ER Y ρ τ σ H Hf) {b : Addr} (h : b ∈ Y.I0.map (·.2)) : ∃ o, H b = some o := by
  obtain ⟨p, hp, rfl⟩ := List.mem_map.mp h
  obtain ⟨d, e1, e2⟩ := E.iob p hp
  obtain ⟨a, e3, o, _⟩ := E.io _ _ e1
  rw [e2] at e3; cases e3
  exact o.off.2
theorem ER.fresh (E : ER Y ρ τ σ H Hf) {p : Addr} (n : H p = none) : Y.H0 p = none := by
  cases e : Y.H0 p with
  | none => rfl
  | some o =>
    by_cases hb : p ∈ Y.I0.map (·.2)
    · obtain ⟨u, q⟩ := E.io_there hb
      rw [n] at q; cases q
    · have := E.keep p o e hb
      rw [n] at this; cases this
theorem ER.freshF (E : ER Y ρ τ σ H Hf) {p : Addr} (n : H p = none) : Hf p = none := E.sub.free n
/-- a change of the heaps that keeps all that is held -/
theorem ER.heaps (E : ER Y ρ τ σ H Hf) {H' Hf' : Hp} (s1 : Same Hf Hf') (s2 : Same Hf' H') (k : ∀ b o, H b = some o → H' b = some o) (nw : ∀ b o, Hf' b = some o → Hf b = some o ∨ H b = none) : ER Y ρ τ σ H' Hf' := by
  have off : ∀ {a : Addr} {d : D}, Own Y.K Hf H a d → Own Y.K Hf' H' a d := fun {a d} o => by
    obtain ⟨n, u, q⟩ := o.off
    refine o.mono s1 ?_ (fun o' h => k _ _ h)
    cases e : Hf' a with
    | none => rfl
    | some w =>
      rcases nw a w e with z | z
      · rw [n] at z; cases z
      · rw [q] at z; cases z
  refine ⟨s2, E.base.trans s1, fun b o h hb => k _ _ (E.keep b o h hb), fun b o h => ?_, E.len, fun i d h => ?_, fun i d h => ?_, fun i d h => ?_, E.iob, E.ap, fun t ht => ⟨off (E.tmp t ht).1, (E.tmp t ht).2⟩, E.tnd, E.tap⟩
  · rcases nw b o h with z | z
    · exact E.new b o z
    · exact .inr (E.fresh z)
  · obtain ⟨v, e, r⟩ := E.val i d h
    exact ⟨v, e, r.mono s1⟩
  · obtain ⟨a, e, o, z⟩ := E.own i d h
    exact ⟨a, e, off o, z⟩
  · obtain ⟨a, e, o, z⟩ := E.io i d h
    exact ⟨a, e, off o, z⟩
/-- a new thing that never changes -/
theorem ER.grow (E : ER Y ρ τ σ H Hf) {p : Addr} {o : HO} (n : H p = none) : ER Y ρ τ σ (upd H p o) (upd Hf p o) := by
  refine E.heaps (same_upd (E.freshF n)) (fun b u h => ?_) (fun b u h => ?_) (fun b u h => ?_)
  · by_cases e : b = p
    · subst e; rw [upd_same] at h ⊢; exact h
    · rw [upd_ne e] at h ⊢; exact E.sub b u h
  · rw [upd_ne (ne_of_none h n)]; exact h
  · by_cases e : b = p
    · subst e; exact .inr n
    · rw [upd_ne e] at h; exact .inl h
/-- a new list or dict, held by nobody yet -/
theorem ER.lay (E : ER Y ρ τ σ H Hf) {p : Addr} {o : HO} {d : D} (n : H p = none) (w : Own Y.K Hf (upd H p o) p d) : ER Y ρ ((d, p) :: τ) σ (upd H p o) Hf := by
  have E1 : ER Y ρ τ σ (upd H p o) Hf := E.heaps (.refl _) (fun b u h => by rw [upd_ne (ne_of_none (E.sub b u h) n)]; exact E.sub b u h) (fun b u h => by rw [upd_ne (ne_of_none h n)]; exact h) (fun b u h => .inl h)
  refine ⟨E1.sub, E1.base, E1.keep, E1.new, E1.len, E1.val, E1.own, E1.io, E1.iob, E1.ap, fun t ht => ?_, ?_, fun i a hi e => ?_⟩
  · rcases List.mem_cons.mp ht with rfl | ht
    · exact ⟨w, E.fresh n⟩
    · exact E1.tmp t ht
  · refine List.nodup_cons.mpr ⟨fun hm => ?_, E.tnd⟩
    obtain ⟨t, ht, e⟩ := List.mem_map.mp hm
    obtain ⟨_, u, q⟩ := (E.tmp t ht).1.off
    rw [e, n] at q; cases q
  · rw [List.map_cons, List.mem_cons]
    rintro (z | z)
    · obtain ⟨a', d', e', o'⟩ := E.held hi
      rw [e] at e'; cases e'
      obtain ⟨_, u, q⟩ := o'.off
      rw [z, n] at q; cases q
    · exact E.tap i a hi e z
/-- the newest one never changes from now on -/
theorem ER.frz {d : D} {a : Addr} (E : ER Y ρ ((d, a) :: τ) σ H Hf) : ∃ Hf', Same Hf Hf' ∧ ER Y ρ τ σ H Hf' ∧ Rep Y.K Hf' d (.ref a) := by
  obtain ⟨w, z⟩ := E.tmp (d, a) (List.mem_cons_self ..)
  have w : Own Y.K Hf H a d := w
  have z : Y.H0 a = none := z
  obtain ⟨n, o, q⟩ := w.off
  obtain ⟨s, r⟩ := w.frz q
  have off : ∀ {b : Addr} {e : D}, b ≠ a → Own Y.K Hf H b e → Own Y.K (upd Hf a o) H b e := fun {b e} hb w => w.mono s (by rw [upd_ne hb]; exact w.off.1) fun _ h => h
  have nd := E.tnd
  rw [List.map_cons] at nd
  have nd1 := (List.nodup_cons.mp nd).1
  refine ⟨upd Hf a o, s, ⟨fun b u h => ?_, E.base.trans s, E.keep, fun b u h => ?_, E.len, fun i e h => ?_, fun i e h => ?_, fun i e h => ?_, E.iob, E.ap, fun t ht => ?_, (List.nodup_cons.mp nd).2, fun i b hi e hm => ?_⟩, r⟩
  · by_cases e : b = a
    · subst e; rw [upd_same] at h; cases h; exact q
    · rw [upd_ne e] at h; exact E.sub b u h
  · by_cases e : b = a
    · subst e; exact .inr z
    · rw [upd_ne e] at h; exact E.new b u h
  · obtain ⟨v, e1, r1⟩ := E.val i e h
    exact ⟨v, e1, r1.mono s⟩
  · obtain ⟨b, e1, w1, z1⟩ := E.own i e h
    exact ⟨b, e1, off (fun eb => E.tap i b ⟨e, .inl h⟩ e1 (by rw [eb]; exact List.mem_cons_self ..)) w1, z1⟩
  · obtain ⟨b, e1, w1, z1⟩ := E.io i e h
    exact ⟨b, e1, off (fun eb => E.tap i b ⟨e, .inr h⟩ e1 (by rw [eb]; exact List.mem_cons_self ..)) w1, z1⟩
  · obtain ⟨w1, z1⟩ := E.tmp t (List.mem_cons_of_mem _ ht)
    exact ⟨off (fun eb => nd1 (List.mem_map.mpr ⟨t, ht, eb⟩)) w1, z1⟩
  · exact E.tap i b hi e (List.mem_cons_of_mem _ hm)
theorem VR.frz {x : RV} {v : V} (h : VR Y x v ρ τ σ H Hf) : ∃ Hf', Same Hf Hf' ∧ ER Y ρ τ σ H Hf' ∧ Rep Y.K Hf' x.d v := by
  cases x with
  | val d => exact ⟨Hf, .refl _, h.1, h.2⟩
  | own d =>
    obtain ⟨a, rfl, E⟩ := h
    exact E.frz
theorem held_set {i : Nat} {x : SD} (hx : ∀ d, x ≠ .own d ∧ x ≠ .io d) {j : Nat} (h : Held (ρ.set i x) j) : j ≠ i ∧ Held ρ j := by
  obtain ⟨d, h⟩ := h
  by_cases e : i = j
  · subst e
    exfalso
    rcases h with h | h <;>
    · rw [List.getElem?_set] at h
      simp only [if_true] at h
      split at h
      · cases h; first | exact (hx _).1 rfl | exact (hx _).2 rfl
      · cases h
  · refine ⟨fun z => e z.symm, d, ?_⟩
    rw [List.getElem?_set_ne e] at h
    exact h
/-- a slot's own thing never changes from now on -/
theorem ER.take (E : ER Y ρ τ σ H Hf) {i : Nat} {d : D} (h : ρ[i]? = some (.own d)) : ∃ Hf' a, Same Hf Hf' ∧ ER Y (ρ.set i (.val d)) τ σ H Hf' ∧ σ[i]? = some (some (.ref a)) ∧ Rep Y.K Hf' d (.ref a) := by
  obtain ⟨a, e0, w, z⟩ := E.own i d h
  obtain ⟨n, o, q⟩ := w.off
  obtain ⟨s, r⟩ := w.frz q
  have off : ∀ {b : Addr} {e : D}, b ≠ a → Own Y.K Hf H b e → Own Y.K (upd Hf a o) H b e := fun {b e} hb w => w.mono s (by rw [upd_ne hb]; exact w.off.1) fun _ h => h
  have hi : i < ρ.length := (List.getElem?_eq_some_iff.mp h).1
  have nh : ∀ {j}, Held (ρ.set i (.val d)) j → j ≠ i ∧ Held ρ j := fun h => held_set (fun _ => ⟨by simp, by simp⟩) h
  refine ⟨upd Hf a o, a, s, ⟨fun b u h => ?_, E.base.trans s, E.keep, fun b u h => ?_, by rw [List.length_set]; exact E.len, fun j e hj => ?_, fun j e hj => ?_, fun j e hj => ?_, fun p hp => ?_, fun j k b h1 h2 => E.ap j k b (nh h1).2 (nh h2).2, fun t ht => ?_, E.tnd, fun j b hj => E.tap j b (nh hj).2⟩, e0, r⟩
  · by_cases e : b = a
    · subst e; rw [upd_same] at h; cases h; exact q
    · rw [upd_ne e] at h; exact E.sub b u h
  · by_cases e : b = a
    · subst e; exact .inr z
    · rw [upd_ne e] at h; exact E.new b u h
  · by_cases e : i = j
    · subst e
      rw [List.getElem?_set_self hi] at hj; cases hj
      exact ⟨_, e0, r⟩
    · rw [List.getElem?_set_ne e] at hj
      obtain ⟨v, e1, r1⟩ := E.val j _ hj
      exact ⟨v, e1, r1.mono s⟩
  · by_cases eq : i = j
    · subst eq; rw [List.getElem?_set_self hi] at hj; cases hj
    · rw [List.getElem?_set_ne eq] at hj
      obtain ⟨b, e1, w1, z1⟩ := E.own j e hj
      refine ⟨b, e1, off (fun eb => ?_) w1, z1⟩
      subst eb
      exact eq (E.ap i j _ ⟨_, .inl h⟩ ⟨_, .inl hj⟩ e0 e1)
  · by_cases eq : i = j
    · subst eq; rw [List.getElem?_set_self hi] at hj; cases hj
    · rw [List.getElem?_set_ne eq] at hj
      obtain ⟨b, e1, w1, z1⟩ := E.io j e hj
      refine ⟨b, e1, off (fun eb => ?_) w1, z1⟩
      subst eb
      exact eq (E.ap i j _ ⟨_, .inl h⟩ ⟨_, .inr hj⟩ e0 e1)
  · obtain ⟨e, e1, e2⟩ := E.iob p hp
    by_cases eq : i = p.1
    · rw [← eq, h] at e1; cases e1
    · exact ⟨e, by rw [List.getElem?_set_ne eq]; exact e1, e2⟩
  · obtain ⟨w1, z1⟩ := E.tmp t ht
    refine ⟨off (fun eb => ?_) w1, z1⟩
    exact E.tap i a ⟨_, .inl h⟩ e0 (List.mem_map.mpr ⟨t, ht, eb⟩)
theorem takeS_ok {i : Nat} {x : RV} {ρ' : Env} (E : ER Y ρ τ σ H Hf) (h : takeS ρ i = some (x, ρ')) : ∃ v Hf', σ[i]? = some (some v) ∧ Same Hf Hf' ∧ VR Y x v ρ' τ σ H Hf' := by
  unfold takeS at h
  split at h
  · rename_i d e
    cases h
    obtain ⟨v, e1, r⟩ := E.val i d (getS_some e (by simp))
    exact ⟨v, Hf, e1, .refl _, E, r⟩
  · rename_i d e
    cases h
    obtain ⟨Hf', a, s, E', e1, r⟩ := E.take (getS_some e (by simp))
    exact ⟨.ref a, Hf', e1, s, E', r⟩
  · cases h
/-- what a peeked thing is -/
def PVR (Y : Yx) (σ : SV) (Hf : Hp) : PV → V → Prop
  | .val d, v => Rep Y.K Hf d v
  | .slot i, v => σ[i]? = some (some v)
theorem PVR.mono {p : PV} {v : V} {Hf' : Hp} (s : Same Hf Hf') (h : PVR Y σ Hf p v) : PVR Y σ Hf' p v := by
  cases p with
  | val d => exact Rep.mono s _ _ h
  | slot i => exact h
theorem PVR.res {p : PV} {v : V} {d : D} (E : ER Y ρ τ σ H Hf) (h : PVR Y σ Hf p v) (e : p.res ρ = some d) : Pk Y.K Hf H d v := by
  cases p with
  | val d' =>
    cases e
    exact Rep.pk E.sub h
  | slot i =>
    have h : σ[i]? = some (some v) := h
    unfold PV.res at e
    simp only at e
    split at e
    · rename_i d' e'
      cases e
      obtain ⟨a, e1, w, _⟩ := E.own i _ (getS_some e' (by simp))
      rw [h] at e1; cases e1
      exact w.pk
    · rename_i d' e'
      cases e
      obtain ⟨a, e1, w, _⟩ := E.io i _ (getS_some e' (by simp))
      rw [h] at e1; cases e1
      exact w.pk
    · rename_i d' e'
      cases e
      obtain ⟨v', e1, r⟩ := E.val i _ (getS_some e' (by simp))
      rw [h] at e1; cases e1
      exact Rep.pk E.sub r
    · cases e
theorem peekS_ok {i : Nat} {p : PV} (E : ER Y ρ τ σ H Hf) (h : peekS ρ i = some p) : ∃ v, σ[i]? = some (some v) ∧ PVR Y σ Hf p v := by
  unfold peekS at h
  split at h
  · rename_i d e
    cases h
    obtain ⟨v, e1, r⟩ := E.val i d (getS_some e (by simp))
    exact ⟨v, e1, r⟩
  · rename_i d e
    cases h
    obtain ⟨a, e1, _⟩ := E.own i d (getS_some e (by simp))
    exact ⟨_, e1, e1⟩
  · rename_i d e
    cases h
    obtain ⟨a, e1, _⟩ := E.io i d (getS_some e (by simp))
    exact ⟨_, e1, e1⟩
  · cases h
end
end PL

/-! PL3: slots stored, changed, hidden; the operators by their rules. -/
namespace PL
open PySem PySem.Spec PyProof.Rows L2
section
variable {Y : Yx} {ρ : Env} {τ : List (D × Addr)} {σ : SV} {H Hf : Hp}

theorem held_ne {i j : Nat} {x : SD} (hj : j ≠ i) : Held (ρ.set i x) j ↔ Held ρ j := by
  unfold Held
  rw [List.getElem?_set_ne (Ne.symm hj)]
/-- a slot that is not the caller's is stored: an unchanging thing -/
theorem ER.putV (E : ER Y ρ τ σ H Hf) {i : Nat} (hi : i < ρ.length) (ni : ∀ d, ρ[i]? ≠ some (.io d)) {d : D} {v : V} (r : Rep Y.K Hf d v) : ER Y (ρ.set i (.val d)) τ (σ.set i (some v)) H Hf := by
  have his : i < σ.length := by rw [← E.len]; exact hi
  have nh : ∀ {j}, Held (ρ.set i (.val d)) j → j ≠ i ∧ Held ρ j := fun h => held_set (fun _ => ⟨by simp, by simp⟩) h
  refine ⟨E.sub, E.base, E.keep, E.new, by rw [List.length_set, List.length_set]; exact E.len, fun j e hj => ?_, fun j e hj => ?_, fun j e hj => ?_, fun p hp => ?_, fun j k b h1 h2 e1 e2 => ?_, E.tmp, E.tnd, fun j b hj e => ?_⟩
  · by_cases eq : i = j
    · subst eq
      rw [List.getElem?_set_self hi] at hj; cases hj
      exact ⟨v, by rw [List.getElem?_set_self his], r⟩
    · rw [List.getElem?_set_ne eq] at hj ⊢
      exact E.val j e hj
  · by_cases eq : i = j
    · subst eq
      rw [List.getElem?_set_self hi] at hj; cases hj
    · rw [List.getElem?_set_ne eq] at hj ⊢
      exact E.own j e hj
  · by_cases eq : i = j
    · subst eq
      rw [List.getElem?_set_self hi] at hj; cases hj
    · rw [List.getElem?_set_ne eq] at hj ⊢
      exact E.io j e hj
  · obtain ⟨e, e1, e2⟩ := E.iob p hp
    by_cases eq : i = p.1
    · rw [← eq] at e1
      exact absurd e1 (ni e)
    · exact ⟨e, by rw [List.getElem?_set_ne eq]; exact e1, by rw [List.getElem?_set_ne eq]; exact e2⟩
  · obtain ⟨n1, h1⟩ := nh h1
    obtain ⟨n2, h2⟩ := nh h2
    rw [List.getElem?_set_ne (Ne.symm n1)] at e1
    rw [List.getElem?_set_ne (Ne.symm n2)] at e2
    exact E.ap j k b h1 h2 e1 e2
  · obtain ⟨n1, h1⟩ := nh hj
    rw [List.getElem?_set_ne (Ne.symm n1)] at e
    exact E.tap j b h1 e
/-- a slot forgotten -/
theorem ER.unset (E : ER Y ρ τ σ H Hf) (i : Nat) (ni : ∀ d, ρ[i]? ≠ some (.io d)) : ER Y (ρ.set i .un) τ (σ.set i none) H Hf := by
  have nh : ∀ {j}, Held (ρ.set i .un) j → j ≠ i ∧ Held ρ j := fun h => held_set (fun _ => ⟨by simp, by simp⟩) h
  have un : ∀ {x : SD} {j : Nat}, x ≠ .un → (ρ.set i .un)[j]? = some x → j ≠ i ∧ ρ[j]? = some x := fun {x j} hx h => by
    by_cases eq : i = j
    · subst eq
      rw [List.getElem?_set] at h
      simp only [if_true] at h
      split at h
      · cases h; exact absurd rfl hx
      · cases h
    · rw [List.getElem?_set_ne eq] at h
      exact ⟨Ne.symm eq, h⟩
  refine ⟨E.sub, E.base, E.keep, E.new, by rw [List.length_set, List.length_set]; exact E.len, fun j e hj => ?_, fun j e hj => ?_, fun j e hj => ?_, fun p hp => ?_, fun j k b h1 h2 e1 e2 => ?_, E.tmp, E.tnd, fun j b hj e => ?_⟩
  · obtain ⟨n, hj⟩ := un (by simp) hj
    rw [List.getElem?_set_ne (Ne.symm n)]
    exact E.val j e hj
  · obtain ⟨n, hj⟩ := un (by simp) hj
    rw [List.getElem?_set_ne (Ne.symm n)]
    exact E.own j e hj
  · obtain ⟨n, hj⟩ := un (by simp) hj
    rw [List.getElem?_set_ne (Ne.symm n)]
    exact E.io j e hj
  · obtain ⟨e, e1, e2⟩ := E.iob p hp
    by_cases eq : i = p.1
    · rw [← eq] at e1
      exact absurd e1 (ni e)
    · exact ⟨e, by rw [List.getElem?_set_ne eq]; exact e1, by rw [List.getElem?_set_ne eq]; exact e2⟩
  · obtain ⟨n1, h1⟩ := nh h1
    obtain ⟨n2, h2⟩ := nh h2
    rw [List.getElem?_set_ne (Ne.symm n1)] at e1
    rw [List.getElem?_set_ne (Ne.symm n2)] at e2
    exact E.ap j k b h1 h2 e1 e2
  · obtain ⟨n1, h1⟩ := nh hj
    rw [List.getElem?_set_ne (Ne.symm n1)] at e
    exact E.tap j b h1 e
/-- .. stored: the newest list or dict, from now on the slot's own -/
theorem ER.putO {d : D} {a : Addr} (E : ER Y ρ ((d, a) :: τ) σ H Hf) {i : Nat} (hi : i < ρ.length) (ni : ∀ d, ρ[i]? ≠ some (.io d)) : ER Y (ρ.set i (.own d)) τ (σ.set i (some (.ref a))) H Hf := by
  have his : i < σ.length := by rw [← E.len]; exact hi
  obtain ⟨w, z⟩ := E.tmp (d, a) (List.mem_cons_self ..)
  have nd := E.tnd
  rw [List.map_cons] at nd
  have nd1 := (List.nodup_cons.mp nd).1
  have na : ∀ {j}, j ≠ i → Held (ρ.set i (.own d)) j → (σ.set i (some (.ref a)))[j]? ≠ some (some (.ref a)) := fun {j} n h e => by
    rw [held_ne n] at h
    rw [List.getElem?_set_ne (Ne.symm n)] at e
    exact E.tap j a h e (List.mem_cons_self ..)
  refine ⟨E.sub, E.base, E.keep, E.new, by rw [List.length_set, List.length_set]; exact E.len, fun j e hj => ?_, fun j e hj => ?_, fun j e hj => ?_, fun p hp => ?_, fun j k b h1 h2 e1 e2 => ?_, fun t ht => E.tmp t (List.mem_cons_of_mem _ ht), (List.nodup_cons.mp nd).2, fun j b hj e hm => ?_⟩
  · by_cases eq : i = j
    · subst eq
      rw [List.getElem?_set_self hi] at hj; cases hj
    · rw [List.getElem?_set_ne eq] at hj ⊢
      exact E.val j e hj
  · by_cases eq : i = j
    · subst eq
      rw [List.getElem?_set_self hi] at hj; cases hj
      exact ⟨a, by rw [List.getElem?_set_self his], w, z⟩
    · rw [List.getElem?_set_ne eq] at hj ⊢
      exact E.own j e hj
  · by_cases eq : i = j
    · subst eq
      rw [List.getElem?_set_self hi] at hj; cases hj
    · rw [List.getElem?_set_ne eq] at hj ⊢
      exact E.io j e hj
  · obtain ⟨e, e1, e2⟩ := E.iob p hp
    by_cases eq : i = p.1
    · rw [← eq] at e1
      exact absurd e1 (ni e)
    · exact ⟨e, by rw [List.getElem?_set_ne eq]; exact e1, by rw [List.getElem?_set_ne eq]; exact e2⟩
  · by_cases n1 : j = i
    · subst n1
      rw [List.getElem?_set_self his] at e1
      cases e1
      by_cases n2 : k = j
      · exact n2.symm
      · exact absurd e2 (na n2 h2)
    · by_cases n2 : k = i
      · subst n2
        rw [List.getElem?_set_self his] at e2
        cases e2
        exact absurd e1 (na n1 h1)
      · rw [held_ne n1] at h1
        rw [held_ne n2] at h2
        rw [List.getElem?_set_ne (Ne.symm n1)] at e1
        rw [List.getElem?_set_ne (Ne.symm n2)] at e2
        exact E.ap j k b h1 h2 e1 e2
  · by_cases n1 : j = i
    · subst n1
      rw [List.getElem?_set_self his] at e
      cases e
      exact nd1 hm
    · rw [held_ne n1] at hj
      rw [List.getElem?_set_ne (Ne.symm n1)] at e
      exact E.tap j b hj e (List.mem_cons_of_mem _ hm)
theorem putS_ok {i : Nat} {r : RV} {ρ' : Env} {v : V} (h : putS ρ i r = some ρ') (g : VR Y r v ρ τ σ H Hf) : ER Y ρ' τ (σ.set i (some v)) H Hf := by
  unfold putS at h
  split at h
  · cases h
  · rename_i hn
    split at h
    · rename_i hi
      cases h
      have ni : ∀ d, ρ[i]? ≠ some (.io d) := fun d e => hn d (getS_of e)
      cases r with
      | val d => exact g.1.putV hi ni g.2
      | own d =>
        obtain ⟨a, rfl, E⟩ := g
        exact E.putO hi ni
    · cases h
theorem putS_len {i : Nat} {r : RV} {ρ' : Env} (h : putS ρ i r = some ρ') : i < ρ.length := by
  unfold putS at h
  split at h
  · cases h
  · split at h
    · assumption
    · cases h
/-- a list or dict of a slot (its own, or the caller's) is changed -/
theorem ER.chg (E : ER Y ρ τ σ H Hf) {i : Nat} {a : Addr} {d d' : D} {o : HO} (e0 : σ[i]? = some (some (.ref a))) (w' : Own Y.K Hf (upd H a o) a d') :
    (ρ[i]? = some (.own d) → ER Y (ρ.set i (.own d')) τ σ (upd H a o) Hf) ∧ (ρ[i]? = some (.io d) → ER Y (ρ.set i (.io d')) τ σ (upd H a o) Hf) := by
  have nf : Hf a = none := w'.off.1
  have main : ∀ (x x' : SD), (x = .own d ∧ x' = .own d' ∨ x = .io d ∧ x' = .io d') → ρ[i]? = some x → ER Y (ρ.set i x') τ σ (upd H a o) Hf := fun x x' hx hρ => by
    have hi : i < ρ.length := (List.getElem?_eq_some_iff.mp hρ).1
    have hh : Held ρ i := ⟨d, by rcases hx with ⟨z, _⟩ | ⟨z, _⟩ <;> subst z; exact .inl hρ; exact .inr hρ⟩
    have h0 : Y.H0 a = none ∨ a ∈ Y.I0.map (·.2) := by
      rcases hx with ⟨z, _⟩ | ⟨z, _⟩ <;> subst z
      · obtain ⟨b, e1, _, z⟩ := E.own i d hρ
        rw [e0] at e1; cases e1
        exact .inl z
      · obtain ⟨b, e1, _, z⟩ := E.io i d hρ
        rw [e0] at e1; cases e1
        exact .inr (List.mem_map.mpr ⟨_, z, rfl⟩)
    have nh : ∀ {j}, Held (ρ.set i x') j → Held ρ j := fun {j} h => by
      by_cases e : j = i
      · subst e; exact hh
      · rw [held_ne e] at h; exact h
    have off : ∀ {b : Addr} {e : D}, b ≠ a → Own Y.K Hf H b e → Own Y.K Hf (upd H a o) b e := fun {b e} hb w => w.mono (.refl _) w.off.1 fun u h => by rw [upd_ne hb]; exact h
    refine ⟨fun b u h => ?_, E.base, fun b u h hb => ?_, E.new, by rw [List.length_set]; exact E.len, fun j e hj => ?_, fun j e hj => ?_, fun j e hj => ?_, fun p hp => ?_, fun j k b h1 h2 => E.ap j k b (nh h1) (nh h2), fun t ht => ?_, E.tnd, fun j b hj => E.tap j b (nh hj)⟩
    · rw [upd_ne (ne_of_none h nf)]; exact E.sub b u h
    · have hba : b ≠ a := fun e => by
        subst e
        rcases h0 with z | z
        · rw [h] at z; cases z
        · exact hb z
      rw [upd_ne hba]; exact E.keep b u h hb
    · by_cases eq : i = j
      · subst eq
        rw [List.getElem?_set_self hi] at hj
        rcases hx with ⟨_, z⟩ | ⟨_, z⟩ <;> subst z <;> cases hj
      · rw [List.getElem?_set_ne eq] at hj
        exact E.val j e hj
    · by_cases eq : i = j
      · subst eq
        rw [List.getElem?_set_self hi] at hj
        rcases hx with ⟨z0, z⟩ | ⟨z0, z⟩ <;> subst z <;> cases hj
        subst z0
        obtain ⟨b, e1, _, z⟩ := E.own i _ hρ
        rw [e0] at e1; cases e1
        exact ⟨a, e0, w', z⟩
      · rw [List.getElem?_set_ne eq] at hj
        obtain ⟨b, e1, w1, z1⟩ := E.own j e hj
        refine ⟨b, e1, off (fun eb => ?_) w1, z1⟩
        subst eb
        exact eq (E.ap i j _ hh ⟨_, .inl hj⟩ e0 e1)
    · by_cases eq : i = j
      · subst eq
        rw [List.getElem?_set_self hi] at hj
        rcases hx with ⟨z0, z⟩ | ⟨z0, z⟩ <;> subst z <;> cases hj
        subst z0
        obtain ⟨b, e1, _, z⟩ := E.io i _ hρ
        rw [e0] at e1; cases e1
        exact ⟨a, e0, w', z⟩
      · rw [List.getElem?_set_ne eq] at hj
        obtain ⟨b, e1, w1, z1⟩ := E.io j e hj
        refine ⟨b, e1, off (fun eb => ?_) w1, z1⟩
        subst eb
        exact eq (E.ap i j _ hh ⟨_, .inr hj⟩ e0 e1)
    · obtain ⟨e, e1, e2⟩ := E.iob p hp
      by_cases eq : i = p.1
      · rw [← eq] at e1 e2 ⊢
        rw [hρ] at e1
        rcases hx with ⟨z0, z⟩ | ⟨z0, z⟩ <;> subst z0 <;> cases e1
        subst z
        exact ⟨_, by rw [List.getElem?_set_self hi], e2⟩
      · exact ⟨e, by rw [List.getElem?_set_ne eq]; exact e1, e2⟩
    · obtain ⟨w1, z1⟩ := E.tmp t ht
      refine ⟨off (fun eb => ?_) w1, z1⟩
      exact E.tap i a hh e0 (List.mem_map.mpr ⟨t, ht, eb⟩)
  exact ⟨main _ _ (.inl ⟨rfl, rfl⟩), main _ _ (.inr ⟨rfl, rfl⟩)⟩
theorem chgS_ok {i : Nat} {f : D → Option D} {ρ' : Env} (E : ER Y ρ τ σ H Hf) (h : chgS ρ i f = some ρ') : ∃ a d d', σ[i]? = some (some (.ref a)) ∧ Own Y.K Hf H a d ∧ f d = some d' ∧
    ∀ o, Own Y.K Hf (upd H a o) a d' → ER Y ρ' τ σ (upd H a o) Hf := by
  unfold chgS at h
  split at h
  · rename_i d e
    cases q : f d with
    | none => rw [q] at h; cases h
    | some d' =>
      rw [q] at h
      cases h
      obtain ⟨a, e1, w, _⟩ := E.own i d (getS_some e (by simp))
      exact ⟨a, d, d', e1, w, q, fun o w' => (E.chg e1 w').1 (getS_some e (by simp))⟩
  · rename_i d e
    cases q : f d with
    | none => rw [q] at h; cases h
    | some d' =>
      rw [q] at h
      cases h
      obtain ⟨a, e1, w, _⟩ := E.io i d (getS_some e (by simp))
      exact ⟨a, d, d', e1, w, q, fun o w' => (E.chg e1 w').2 (getS_some e (by simp))⟩
  · cases h
/-- the newest list is changed -/
theorem ER.chgT {d d' : D} {a : Addr} {o : HO} (E : ER Y ρ ((d, a) :: τ) σ H Hf) (w' : Own Y.K Hf (upd H a o) a d') : ER Y ρ ((d', a) :: τ) σ (upd H a o) Hf := by
  obtain ⟨w, z⟩ := E.tmp (d, a) (List.mem_cons_self ..)
  have w : Own Y.K Hf H a d := w
  have z : Y.H0 a = none := z
  have nf : Hf a = none := w.off.1
  have off : ∀ {b : Addr} {e : D}, b ≠ a → Own Y.K Hf H b e → Own Y.K Hf (upd H a o) b e := fun {b e} hb w => w.mono (.refl _) w.off.1 fun u h => by rw [upd_ne hb]; exact h
  have nd := E.tnd
  rw [List.map_cons] at nd
  refine ⟨fun b u h => ?_, E.base, fun b u h hb => ?_, E.new, E.len, E.val, fun j e hj => ?_, fun j e hj => ?_, E.iob, E.ap, fun t ht => ?_, E.tnd, E.tap⟩
  · rw [upd_ne (ne_of_none h nf)]; exact E.sub b u h
  · rw [upd_ne (ne_of_none h z)]; exact E.keep b u h hb
  · obtain ⟨b, e1, w1, z1⟩ := E.own j e hj
    exact ⟨b, e1, off (fun eb => E.tap j b ⟨_, .inl hj⟩ e1 (by rw [eb]; exact List.mem_cons_self ..)) w1, z1⟩
  · obtain ⟨b, e1, w1, z1⟩ := E.io j e hj
    exact ⟨b, e1, off (fun eb => E.tap j b ⟨_, .inr hj⟩ e1 (by rw [eb]; exact List.mem_cons_self ..)) w1, z1⟩
  · rcases List.mem_cons.mp ht with rfl | ht
    · exact ⟨w', z⟩
    · obtain ⟨w1, z1⟩ := E.tmp t (List.mem_cons_of_mem _ ht)
      exact ⟨off (fun eb => (List.nodup_cons.mp nd).1 (List.mem_map.mpr ⟨t, ht, eb⟩)) w1, z1⟩
/-- the newest is let go -/
theorem ER.drop {t : D × Addr} (E : ER Y ρ (t :: τ) σ H Hf) : ER Y ρ τ σ H Hf := by
  have nd := E.tnd
  rw [List.map_cons] at nd
  exact ⟨E.sub, E.base, E.keep, E.new, E.len, E.val, E.own, E.io, E.iob, E.ap, fun t ht => E.tmp t (List.mem_cons_of_mem _ ht), (List.nodup_cons.mp nd).2, fun i a h e hm => E.tap i a h e (List.mem_cons_of_mem _ hm)⟩
end

/-! ### operators -/
section
variable {X : Cx} {Y : Yx}
def rBin (Y : Yx) (o : BOp) : R2 := fun x y H Q => ∃ (Hf : Hp) (ρ : Env) (τ : List (D × Addr)) (σ : SV) (d e : D) (r : RV), ER Y ρ τ σ H Hf ∧ Pk Y.K Hf H d x ∧ Pk Y.K Hf H e y ∧ binD o d e = some r ∧
  ∀ v H' Hf', Same Hf Hf' → VR Y r v ρ τ σ H' Hf' → Q v H'
def opOf : BOp → Operator
  | .add => .Add
  | .sub => .Sub
  | .mul => .Mult
  | .mod => .Mod
  | .fdiv => .FloorDiv
  | .pow => .Pow
theorem small64_iff {i : Int} : small64 i = true ↔ (-(2 ^ 64) < i ∧ i < 2 ^ 64) := by
  unfold small64
  rw [Bool.and_eq_true, decide_eq_true_iff, decide_eq_true_iff]
theorem pk_int {K : PySem.W.Frag} {Hf H : Hp} {i : Int} {v : V} (h : Pk K Hf H (.int i) v) : v = .int i := by simpa [Pk, Rep] using h
theorem pk_str {K : PySem.W.Frag} {Hf H : Hp} {i : Str} {v : V} (h : Pk K Hf H (.str i) v) : v = .str i := by simpa [Pk, Rep] using h
theorem pk_bool {K : PySem.W.Frag} {Hf H : Hp} {i : Bool} {v : V} (h : Pk K Hf H (.bool i) v) : v = .bl i := by simpa [Pk, Rep] using h
theorem pk_none {K : PySem.W.Frag} {Hf H : Hp} {v : V} (h : Pk K Hf H .none v) : v = .non := by simpa [Pk, Rep] using h
theorem pk_tup {K : PySem.W.Frag} {Hf H : Hp} {ds : List D} {v : V} (h : Pk K Hf H (.tuple ds) v) : ∃ a vs, v = .ref a ∧ SqT K Hf a vs ∧ RepL K Hf ds vs := by simpa [Pk, Rep] using h
theorem rep_int {K : PySem.W.Frag} {H : Hp} {i : Int} {v : V} (h : v = .int i) : Rep K H (.int i) v := by simpa [Rep] using h
theorem op_bin (o : BOp) : OpR X (binaryOp (opOf o)) (rBin { Y with K := X.K } o) := by
  intro pins s σ H x y v u Q I rx ry h
  obtain ⟨Hf, ρ, τ, σ', d, e, r, E, p1, p2, hb, q⟩ := h
  have bye : ∀ {d e : D}, binD o d e = none → binD o d e = some r → False := fun h1 h2 => by rw [h1] at h2; cases h2
  have vI : ∀ (i : Int), r = .val (.int i) → Q (.int i) H := fun i e1 => q _ _ _ (.refl _) (by rw [e1]; exact ⟨E, by simp [Rep]⟩)
  cases d with
  | int i =>
    cases e with
    | int j =>
      have e1 := pk_int p1
      have e2 := pk_int p2
      cases o with
      | add => cases hb; exact op_add pins s σ H x y v u Q I rx ry ⟨i, j, e1, e2, vI _ rfl⟩
      | sub => cases hb; exact op_sub pins s σ H x y v u Q I rx ry ⟨i, j, e1, e2, vI _ rfl⟩
      | mul =>
        simp only [binD] at hb
        split at hb
        · rename_i hc
          cases hb
          refine op_mul pins s σ H x y v u Q I rx ry ⟨i, j, e1, e2, ?_, vI _ rfl⟩
          rw [Bool.or_eq_true, small64_iff, small64_iff] at hc
          exact hc
        · cases hb
      | mod =>
        simp only [binD] at hb
        split at hb
        · rename_i hc
          cases hb
          exact op_mod pins s σ H x y v u Q I rx ry ⟨i, j, e1, e2, hc, vI _ rfl⟩
        · cases hb
      | fdiv =>
        simp only [binD] at hb
        split at hb
        · rename_i hc
          cases hb
          exact op_fdiv pins s σ H x y v u Q I rx ry ⟨i, j, e1, e2, hc, vI _ rfl⟩
        · cases hb
      | pow =>
        simp only [binD] at hb
        split at hb
        · rename_i hc
          cases hb
          exact op_pow pins s σ H x y v u Q I rx ry ⟨i, j, e1, e2, hc, vI _ rfl⟩
        · cases hb
    | none => cases o <;> cases hb
    | bool _ => cases o <;> cases hb
    | str _ => cases o <;> cases hb
    | list _ => cases o <;> cases hb
    | tuple _ => cases o <;> cases hb
    | dict _ => cases o <;> cases hb
  | str a =>
    cases e with
    | str b =>
      cases o with
      | add =>
        simp only [binD] at hb
        split at hb
        · rename_i hc
          cases hb
          exact op_add_str pins s σ H x y v u Q I rx ry ⟨a, b, pk_str p1, pk_str p2, hc, q _ _ _ (.refl _) ⟨E, by simp [Rep]⟩⟩
        · cases hb
      | sub => cases hb
      | mul => cases hb
      | mod => cases hb
      | fdiv => cases hb
      | pow => cases hb
    | none => cases o <;> cases hb
    | bool _ => cases o <;> cases hb
    | int _ => cases o <;> cases hb
    | list _ => cases o <;> cases hb
    | tuple _ => cases o <;> cases hb
    | dict _ => cases o <;> cases hb
  | list a =>
    obtain ⟨l, vs, e1, hl, rl⟩ := p1
    cases e with
    | list b =>
      obtain ⟨m, ws, e2, hm, rm⟩ := p2
      cases o with
      | add =>
        simp only [binD] at hb
        split at hb
        · rename_i hc
          cases hb
          refine op_cat pins s σ H x y v u Q I rx ry ⟨l, m, vs, ws, e1, e2, hl, hm, by rw [← rl.len, ← rm.len]; exact hc, fun p np => q _ _ Hf (.refl _) ⟨p, rfl, E.lay np ?_⟩⟩
          exact ⟨E.freshF np, _, upd_same, rl.append rm⟩
        · cases hb
      | sub => cases hb
      | mul => cases hb
      | mod => cases hb
      | fdiv => cases hb
      | pow => cases hb
    | int k =>
      have e2 := pk_int p2
      cases o with
      | mul =>
        simp only [binD] at hb
        split at hb
        · rename_i hc
          cases hb
          refine op_rep pins s σ H x y v u Q I rx ry ⟨l, k, vs, e1, e2, hl, by omega, by omega, by rw [← rl.len]; exact hc.2.2, fun p np => q _ _ Hf (.refl _) ⟨p, rfl, E.lay np ?_⟩⟩
          exact ⟨E.freshF np, _, upd_same, rl.rep _⟩
        · cases hb
      | add => cases hb
      | sub => cases hb
      | mod => cases hb
      | fdiv => cases hb
      | pow => cases hb
    | none => cases o <;> cases hb
    | bool _ => cases o <;> cases hb
    | str _ => cases o <;> cases hb
    | tuple _ => cases o <;> cases hb
    | dict _ => cases o <;> cases hb
  | tuple a =>
    obtain ⟨l, vs, e1, hl, rl⟩ := pk_tup p1
    cases e with
    | tuple b =>
      obtain ⟨m, ws, e2, hm, rm⟩ := pk_tup p2
      cases o with
      | add =>
        simp only [binD] at hb
        split at hb
        · rename_i hc
          cases hb
          have same : ∀ (p : Addr) (xs : List V), SqT X.K Hf p xs → RepL X.K Hf (a ++ b) xs → Q (.ref p) H := fun p xs h1 h2 => q _ _ Hf (.refl _) ⟨E, by simp only [Rep]; exact ⟨p, xs, rfl, h1, h2⟩⟩
          have ea : vs = [] → a = [] := fun z => List.eq_nil_of_length_eq_zero (by rw [rl.len, z]; rfl)
          have eb : ws = [] → b = [] := fun z => List.eq_nil_of_length_eq_zero (by rw [rm.len, z]; rfl)
          refine op_catA pins s σ H x y v u Q I rx ry ⟨l, m, vs, ws, e1, e2, sqT_mono E.sub hl, sqT_mono E.sub hm, by rw [← rl.len, ← rm.len]; exact hc, fun z => same m ws hm ?_, fun _ z => same l vs hl ?_, fun _ _ p np => q _ _ _ (same_upd (E.freshF np)) ⟨E.grow np, ?_⟩⟩
          · rw [ea z]; exact rm
          · rw [eb z, List.append_nil]; exact rl
          · simp only [Rep]
            exact ⟨p, _, rfl, .inl (.inl upd_same), RepL.mono (same_upd (E.freshF np)) _ _ (rl.append rm)⟩
        · cases hb
      | sub => cases hb
      | mul => cases hb
      | mod => cases hb
      | fdiv => cases hb
      | pow => cases hb
    | int k =>
      have e2 := pk_int p2
      cases o with
      | mul =>
        simp only [binD] at hb
        split at hb
        · rename_i hc
          cases hb
          obtain ⟨c1, c2, c3, c4⟩ := hc
          refine op_repT pins s σ H x y v u Q I rx ry ⟨l, k, vs, e1, e2, sqT_mono E.sub hl, ?_, c2, c3, by rw [← rl.len]; exact c4, fun p np => q _ _ _ (same_upd (E.freshF np)) ⟨E.grow np, ?_⟩⟩
          · intro z
            subst z
            have := rl.len
            cases a with
            | nil => exact c1 rfl
            | cons _ _ => cases this
          · simp only [Rep]
            exact ⟨p, _, rfl, .inl (.inl upd_same), RepL.mono (same_upd (E.freshF np)) _ _ (rl.rep _)⟩
        · cases hb
      | add => cases hb
      | sub => cases hb
      | mod => cases hb
      | fdiv => cases hb
      | pow => cases hb
    | none => cases o <;> cases hb
    | bool _ => cases o <;> cases hb
    | str _ => cases o <;> cases hb
    | list _ => cases o <;> cases hb
    | dict _ => cases o <;> cases hb
  | none => cases o <;> cases hb
  | bool _ => cases o <;> cases hb
  | dict _ => cases o <;> cases hb

/-! ### comparisons -/
mutual
theorem rep_dp {K : PySem.W.Frag} {H : Hp} : ∀ (d : D) (v : V), d.canLay0 = true → Rep K H d v → Dp K H v d
  | .none, v, _, h => by simp only [Rep] at h; subst h; exact .non
  | .bool _, v, _, h => by simp only [Rep] at h; subst h; exact .bl _
  | .int _, v, _, h => by simp only [Rep] at h; subst h; exact .int _
  | .str _, v, _, h => by simp only [Rep] at h; subst h; exact .str _
  | .list ds, v, c, h => by
    simp only [Rep] at h
    obtain ⟨a, vs, rfl, e, r⟩ := h
    exact .lst (.of e) (rep_dpL ds vs (by simpa [PyData.canLay0] using c) r)
  | .tuple ds, v, c, h => by
    simp only [Rep] at h
    obtain ⟨a, vs, rfl, e, r⟩ := h
    exact .tup e (rep_dpL ds vs (by simpa [PyData.canLay0] using c) r)
  | .dict _, _, c, _ => by simp [PyData.canLay0] at c
theorem rep_dpL {K : PySem.W.Frag} {H : Hp} : ∀ (ds : List D) (vs : List V), PyData.canLayAll0 ds = true → RepL K H ds vs → DpAll K H vs ds
  | [], vs, _, h => by simp only [RepL] at h; subst h; exact .nil
  | d :: ds, vs, c, h => by
    simp only [RepL] at h
    obtain ⟨v, r, rfl, h1, h2⟩ := h
    have c' : d.canLay0 = true ∧ PyData.canLayAll0 ds = true := by simpa [PyData.canLayAll0] using c
    exact .cons (rep_dp d v c'.1 h1) (rep_dpL ds r c'.2 h2)
end
theorem shaped_lay {d : D} (h : SeqAt.shaped d = true) : d.canLay0 = true := by
  have h' : (d.canLay0 && decide (d.depth ≤ 64)) = true := h
  exact (Bool.and_eq_true_iff.mp h').1
def cOf : COp → CmpOp
  | .eq => .Eq | .ne => .NotEq | .lt => .Lt | .le => .LtE | .gt => .Gt | .ge => .GtE | .mem => .In | .nmem => .NotIn
def rCmp (K : PySem.W.Frag) (o : COp) : R2 := fun x y H Q => ∃ (Hf : Hp) (d e : D) (b : Bool), Same Hf H ∧ Pk K Hf H d x ∧ Pk K Hf H e y ∧ cmpD o d e = some b ∧ Q (.bl b) H
theorem scal_eq {K : PySem.W.Frag} {Hf H : Hp} {d e : D} {x y : V} (p1 : Pk K Hf H d x) (p2 : Pk K Hf H e y) (h : scalD d e = true) : scal x y = true ∧ decide (x = y) = PyData.eqv d e := by
  cases d <;> cases e <;> simp only [scalD] at h <;> first
    | exact absurd h Bool.false_ne_true
    | (simp only [Pk, Rep] at p1 p2; subst p1 p2; refine ⟨rfl, ?_⟩; simp [PyData.eqv]; done)
    | (simp only [Pk, Rep] at p1 p2; subst p1 p2; refine ⟨rfl, ?_⟩; rw [dec_int]; simp [PyData.eqv]; done)
    | (simp only [Pk, Rep] at p1 p2; subst p1 p2; refine ⟨rfl, ?_⟩; rw [dec_str]; simp [PyData.eqv]; done)
    | (simp only [Pk, Rep] at p1 p2; subst p1 p2; refine ⟨rfl, ?_⟩; rw [dec_bl]; simp [PyData.eqv]; done)
theorem flat_ok {K : PySem.W.Frag} {H : Hp} {d : D} {v : V} (f : flat d = true) (r : Rep K H d v) : flatV v = true := by
  cases d <;> simp only [flat] at f <;> first | exact absurd f Bool.false_ne_true | (simp only [Rep] at r; subst r; rfl)
theorem flat_eqv {K : PySem.W.Frag} {H : Hp} {d e : D} {v w : V} (f : flat d = true) (g : flat e = true) (r : Rep K H d v) (q : Rep K H e w) : eqV v w = PyData.eqv d e := by
  cases d <;> cases e <;> simp only [flat] at f g <;> first
    | exact absurd f Bool.false_ne_true
    | exact absurd g Bool.false_ne_true
    | (simp only [Rep] at r q; subst r q; simp only [eqV, PyData.eqv])
theorem flats_ok {K : PySem.W.Frag} {H : Hp} : ∀ {ds : List D} {vs : List V}, ds.all flat = true → RepL K H ds vs → vs.all flatV = true
  | [], _, _, h => by simp only [RepL] at h; subst h; rfl
  | d :: ds, vs, f, h => by
    simp only [RepL] at h
    obtain ⟨v, r, rfl, h1, h2⟩ := h
    rw [List.all_cons, Bool.and_eq_true] at f
    rw [List.all_cons, flat_ok f.1 h1, flats_ok f.2 h2]; rfl
theorem inV_eq {K : PySem.W.Frag} {H : Hp} {d : D} {x : V} (g : flat d = true) (q : Rep K H d x) : ∀ {ds : List D} {vs : List V}, ds.all flat = true → RepL K H ds vs → inV x vs = ds.any fun y => PyData.eqv y d
  | [], _, _, h => by simp only [RepL] at h; subst h; rfl
  | e :: ds, vs, f, h => by
    simp only [RepL] at h
    obtain ⟨v, r, rfl, h1, h2⟩ := h
    rw [List.all_cons, Bool.and_eq_true] at f
    have ih := inV_eq g q f.2 h2
    unfold inV at ih ⊢
    rw [List.any_cons, List.any_cons, ih, flat_eqv f.1 g h1 q]
theorem op_cmpD (hu : X.A.units + 64 < cLine) (o : COp) : OpR X (compareOp (cOf o)) (rCmp X.K o) := by
  intro pins s σ H x y v u Q I rx ry h
  obtain ⟨Hf, d, e, b, sm, p1, p2, hb, q⟩ := h
  have mem : ∀ (ds : List D) (b : Bool), memD d ds = some b → ∀ (p : Addr) (xs : List V), RepL X.K Hf ds xs → flatV x = true ∧ xs.all flatV = true ∧ inV x xs = b := fun ds b h p xs r => by
    unfold memD at h
    split at h
    · rename_i hc
      rw [Bool.and_eq_true] at hc
      cases h
      have rx : Rep X.K Hf d x := by
        have h1 := hc.1
        cases d <;> simp only [flat] at h1 <;> first | exact absurd h1 Bool.false_ne_true | exact p1
      exact ⟨flat_ok hc.1 rx, flats_ok hc.2 r, inV_eq hc.1 rx hc.2 r⟩
    · cases h
  cases o with
  | eq =>
    simp only [cmpD, eqD] at hb
    split at hb
    · rename_i hc
      cases hb
      rw [Bool.or_eq_true] at hc
      rcases hc with hc | hc
      · obtain ⟨e1, e2⟩ := scal_eq p1 p2 hc
        exact op_eq pins s σ H x y v u Q I rx ry ⟨e1, by rw [e2]; exact q⟩
      · rw [Bool.and_eq_true] at hc
        exact op_eqD hu pins s σ H x y v u Q I rx ry ⟨d, e, rep_dp _ _ (shaped_lay hc.1) (p1.rep sm), rep_dp _ _ (shaped_lay hc.2) (p2.rep sm), hc.1, hc.2, q⟩
    · cases hb
  | ne =>
    simp only [cmpD, eqD] at hb
    split at hb
    · rename_i hc
      cases hb
      rw [Bool.or_eq_true] at hc
      rcases hc with hc | hc
      · obtain ⟨e1, e2⟩ := scal_eq p1 p2 hc
        exact op_ne pins s σ H x y v u Q I rx ry ⟨e1, by rw [e2]; exact q⟩
      · rw [Bool.and_eq_true] at hc
        exact op_neD hu pins s σ H x y v u Q I rx ry ⟨d, e, rep_dp _ _ (shaped_lay hc.1) (p1.rep sm), rep_dp _ _ (shaped_lay hc.2) (p2.rep sm), hc.1, hc.2, q⟩
    · cases hb
  | lt =>
    simp only [cmpD] at hb
    split at hb
    · cases hb
      exact op_lt pins s σ H x y v u Q I rx ry ⟨_, _, pk_int p1, pk_int p2, q⟩
    · cases hb
  | le =>
    simp only [cmpD] at hb
    split at hb
    · cases hb
      exact op_le pins s σ H x y v u Q I rx ry ⟨_, _, pk_int p1, pk_int p2, q⟩
    · cases hb
  | gt =>
    simp only [cmpD] at hb
    split at hb
    · cases hb
      exact op_gt pins s σ H x y v u Q I rx ry ⟨_, _, pk_int p1, pk_int p2, q⟩
    · cases hb
  | ge =>
    simp only [cmpD] at hb
    split at hb
    · cases hb
      exact op_ge pins s σ H x y v u Q I rx ry ⟨_, _, pk_int p1, pk_int p2, q⟩
    · cases hb
  | mem =>
    simp only [cmpD] at hb
    split at hb
    · rename_i ds
      obtain ⟨p, xs, e1, e2, r⟩ := p2
      obtain ⟨f1, f2, f3⟩ := mem ds b hb p xs r
      exact op_in_seq pins s σ H x y v u Q I rx ry ⟨p, xs, e1, .inl (.of e2), f1, f2, by rw [f3]; exact q⟩
    · rename_i ds
      obtain ⟨p, xs, e1, e2, r⟩ := pk_tup p2
      obtain ⟨f1, f2, f3⟩ := mem ds b hb p xs r
      exact op_in_seq pins s σ H x y v u Q I rx ry ⟨p, xs, e1, .inr (sqT_mono sm e2), f1, f2, by rw [f3]; exact q⟩
    · cases hb
  | nmem =>
    simp only [cmpD] at hb
    have neg : ∀ {z : Option Bool}, z.map (!·) = some b → ∃ c, z = some c ∧ b = !c := fun {z} h => by
      cases z with
      | none => cases h
      | some c => cases h; exact ⟨c, rfl, rfl⟩
    split at hb
    · rename_i ds
      obtain ⟨p, xs, e1, e2, r⟩ := p2
      obtain ⟨c, h1, h2⟩ := neg hb
      subst h2
      obtain ⟨f1, f2, f3⟩ := mem ds c h1 p xs r
      exact op_notIn_seq pins s σ H x y v u Q I rx ry ⟨p, xs, e1, .inl (.of e2), f1, f2, by rw [f3]; exact q⟩
    · rename_i ds
      obtain ⟨p, xs, e1, e2, r⟩ := pk_tup p2
      obtain ⟨c, h1, h2⟩ := neg hb
      subst h2
      obtain ⟨f1, f2, f3⟩ := mem ds c h1 p xs r
      exact op_notIn_seq pins s σ H x y v u Q I rx ry ⟨p, xs, e1, .inr (sqT_mono sm e2), f1, f2, by rw [f3]; exact q⟩
    · cases hb
end
end PL

/-! PL4: items, slices, built-in functions, isinstance, truth by their rules. -/
namespace PL
open PySem PySem.Spec PyProof.Rows L2
section
variable {K : PySem.W.Frag} {H Hf : Hp}
theorem RepL.atI {ds : List D} {vs : List V} {i : Int} {d : D} (r : RepL K H ds vs) (h : L2.atI ds i = some d) : ∃ v, L2.atI vs i = some v ∧ Rep K H d v := by
  unfold L2.atI at h ⊢
  rw [← r.len]
  cases e : ixN ds.length i with
  | none => rw [e] at h; cases h
  | some j =>
    rw [e] at h
    exact r.get h
theorem RepL.cut {ds : List D} {vs : List V} (r : RepL K H ds vs) (lo hi : Option Int) : RepL K H (cutD ds lo hi) (cutV vs lo hi) := by
  unfold cutD cutV
  rw [← r.len]
  exact (r.drop _).take _
def PkL (K : PySem.W.Frag) (Hf H : Hp) : List D → List V → Prop
  | [], vs => vs = []
  | d :: ds, vs => ∃ v r, vs = v :: r ∧ Pk K Hf H d v ∧ PkL K Hf H ds r
theorem PkL.one {d : D} {vs : List V} (h : PkL K Hf H [d] vs) : ∃ v, vs = [v] ∧ Pk K Hf H d v := by
  obtain ⟨v, r, rfl, h1, h2⟩ := h
  cases h2
  exact ⟨v, rfl, h1⟩
theorem PkL.two {d e : D} {vs : List V} (h : PkL K Hf H [d, e] vs) : ∃ v w, vs = [v, w] ∧ Pk K Hf H d v ∧ Pk K Hf H e w := by
  obtain ⟨v, r, rfl, h1, h2⟩ := h
  obtain ⟨w, rfl, h3⟩ := h2.one
  exact ⟨v, w, rfl, h1, h3⟩
theorem intsOf_ok : ∀ {ds : List D} {ns : List Int} {vs : List V}, intsOf ds = some ns → RepL K H ds vs → vs = ns.map V.int
  | [], ns, vs, h, r => by cases h; simpa [RepL] using r
  | d :: ds, ns, vs, h, r => by
    simp only [RepL] at r
    obtain ⟨v, t, rfl, h1, h2⟩ := r
    cases d <;> simp only [intsOf] at h <;> try cases h
    rename_i i
    cases e : intsOf ds with
    | none => rw [e] at h; cases h
    | some ms =>
      rw [e] at h
      cases h
      simp only [Rep] at h1
      rw [List.map_cons, h1, intsOf_ok e h2]
theorem bolsOf_ok : ∀ {ds : List D} {ns : List Bool} {vs : List V}, bolsOf ds = some ns → RepL K H ds vs → vs = ns.map V.bl
  | [], ns, vs, h, r => by cases h; simpa [RepL] using r
  | d :: ds, ns, vs, h, r => by
    simp only [RepL] at r
    obtain ⟨v, t, rfl, h1, h2⟩ := r
    cases d <;> simp only [bolsOf] at h <;> try cases h
    rename_i i
    cases e : bolsOf ds with
    | none => rw [e] at h; cases h
    | some ms =>
      rw [e] at h
      cases h
      simp only [Rep] at h1
      rw [List.map_cons, h1, bolsOf_ok e h2]
theorem keyOf_ok {d : D} {k : Key} (h : keyOf d = some k) : d = ofKey k := by
  cases d <;> simp only [keyOf] at h <;> first | (cases h; rfl) | cases h
theorem keyOf_rep {d : D} {k : Key} {v : V} (h : keyOf d = some k) (r : Rep K H d v) : v = kV k := by
  cases d <;> simp only [keyOf] at h <;> first | (cases h; simpa [Rep, kV] using r) | cases h
theorem key_eqv (k q : Key) : PyData.eqv (ofKey k) (ofKey q) = decide (k = q) := by
  cases k <;> cases q <;> simp [ofKey, PyData.eqv, Bool.beq_eq_decide_eq]
theorem getK_ok {kvs : List (D × D)} {ks : List (Key × V)} {k : Key} (r : RepK K H kvs ks) : (∀ d, getK kvs (ofKey k) = some d → ∃ v, valV ks k = some v ∧ Rep K H d v) ∧ (getK kvs (ofKey k) = none → valV ks k = none) := by
  induction kvs generalizing ks with
  | nil =>
    simp only [RepK] at r
    subst r
    exact ⟨fun d h => by simp [getK] at h, fun _ => rfl⟩
  | cons p t ih =>
    obtain ⟨a, d0⟩ := p
    simp only [RepK] at r
    obtain ⟨q, v, u, rfl, rfl, h1, h2⟩ := r
    obtain ⟨i1, i2⟩ := ih h2
    by_cases e : q = k
    · subst e
      have z : getK ((ofKey q, d0) :: t) (ofKey q) = some d0 := by simp [getK, key_eqv]
      rw [z]
      refine ⟨fun d h => ?_, fun h => by cases h⟩
      cases h
      exact ⟨v, valV_pos rfl, h1⟩
    · have z : getK ((ofKey q, d0) :: t) (ofKey k) = getK t (ofKey k) := by simp [getK, key_eqv, e]
      rw [z, valV_neg (by exact e)]
      exact ⟨i1, i2⟩
theorem keyN_ok {kvs : List (D × D)} {ks : List (Key × V)} (r : RepK K H kvs ks) (k : Key) : (getK kvs (ofKey k)).isSome = (ks.any fun kv => decide (kv.1 = k)) := by
  rw [valV_any]
  obtain ⟨h1, h2⟩ := getK_ok (k := k) r
  cases e : getK kvs (ofKey k) with
  | none => rw [h2 e]; rfl
  | some d =>
    obtain ⟨v, e', _⟩ := h1 d e
    rw [e']; rfl
theorem repK_keys {kvs : List (D × D)} {ks : List (Key × V)} (r : RepK K H kvs ks) : kvs.map (·.1) = ks.map fun p => ofKey p.1 := by
  induction kvs generalizing ks with
  | nil => simp only [RepK] at r; subst r; rfl
  | cons p t ih =>
    obtain ⟨a, d0⟩ := p
    simp only [RepK] at r
    obtain ⟨q, v, u, rfl, rfl, h1, h2⟩ := r
    simp [ih h2]
theorem RepK.append {kvs kvs' : List (D × D)} {ks ks' : List (Key × V)} (r : RepK K H kvs ks) (g : RepK K H kvs' ks') : RepK K H (kvs ++ kvs') (ks ++ ks') := by
  induction kvs generalizing ks with
  | nil => simp only [RepK] at r; subst r; exact g
  | cons p t ih =>
    obtain ⟨a, d0⟩ := p
    simp only [RepK] at r
    obtain ⟨q, v, u, rfl, rfl, h1, h2⟩ := r
    simp only [List.cons_append, RepK]
    exact ⟨q, v, _, rfl, rfl, h1, ih h2⟩
theorem RepK.any {kvs : List (D × D)} {ks : List (Key × V)} (r : RepK K H kvs ks) (k : Key) : (kvs.any fun p => PyData.eqv p.1 (ofKey k)) = ks.any fun kv => decide (kv.1 = k) := by
  induction kvs generalizing ks with
  | nil => simp only [RepK] at r; subst r; rfl
  | cons p t ih =>
    obtain ⟨a, d0⟩ := p
    simp only [RepK] at r
    obtain ⟨q, v, u, rfl, rfl, h1, h2⟩ := r
    rw [List.any_cons, List.any_cons, ih h2]
    show (PyData.eqv (ofKey q) (ofKey k) || _) = _
    rw [key_eqv]
theorem RepK.maps {kvs : List (D × D)} {ks : List (Key × V)} {k : Key} {d : D} {v : V} (r : RepK K H kvs ks) (g : Rep K H d v) :
    RepK K H (kvs.map fun p => if PyData.eqv p.1 (ofKey k) = true then (p.1, d) else p) (ks.map fun kv => if kv.1 = k then (kv.1, v) else kv) := by
  induction kvs generalizing ks with
  | nil => simp only [RepK] at r; subst r; simp [RepK]
  | cons p t ih =>
    obtain ⟨a, d0⟩ := p
    simp only [RepK] at r
    obtain ⟨q, w, u, rfl, rfl, h1, h2⟩ := r
    simp only [List.map_cons, key_eqv, decide_eq_true_iff]
    by_cases e : q = k
    · simp only [e, if_true, RepK]
      exact ⟨k, v, _, rfl, rfl, g, ih h2⟩
    · simp only [e, if_false, RepK]
      exact ⟨q, w, _, rfl, rfl, h1, ih h2⟩
theorem RepK.put {kvs : List (D × D)} {ks : List (Key × V)} {k : Key} {d : D} {v : V} (r : RepK K H kvs ks) (g : Rep K H d v) : RepK K H (putK kvs (ofKey k) d) (L2.putK ks k v) := by
  unfold putK L2.putK
  rw [r.any k]
  split
  · exact r.maps g
  · refine r.append ?_
    simp only [RepK]
    exact ⟨k, v, [], rfl, rfl, g, rfl⟩
theorem RepK.merge {more : List (D × D)} {mks : List (Key × V)} (m : RepK K H more mks) : ∀ {kvs : List (D × D)} {ks : List (Key × V)}, RepK K H kvs ks → RepK K H (more.foldl (fun m p => putK m p.1 p.2) kvs) (mergeK ks mks) := by
  induction more generalizing mks with
  | nil => intro kvs ks r; simp only [RepK] at m; subst m; exact r
  | cons p t ih =>
    intro kvs ks r
    obtain ⟨a, d0⟩ := p
    simp only [RepK] at m
    obtain ⟨q, w, u, rfl, rfl, h1, h2⟩ := m
    exact ih h2 (r.put h1)
theorem pairsOf_ok : ∀ {ds : List D} {ps : List (D × D)} {vs : List V}, pairsOf ds = some ps → RepL K H ds vs →
    ∃ (as : List Addr) (ks : List (Key × V)), vs = as.map V.ref ∧ Paired (fun p kv => SqT K H p [kV kv.1, kv.2]) as ks ∧ RepK K H ps ks
  | [], ps, vs, h, r => by
    cases h
    simp only [RepL] at r
    subst r
    exact ⟨[], [], rfl, .nil, by simp [RepK]⟩
  | d :: ds, ps, vs, h, r => by
    simp only [RepL] at r
    obtain ⟨v, t, rfl, h1, h2⟩ := r
    unfold pairsOf at h
    split at h
    · cases ‹_ :: _ = []›
    · rename_i k x r' e
      cases e
      split at h
      · rename_i hk
        obtain ⟨q, hq⟩ := Option.isSome_iff_exists.mp hk
        cases e2 : pairsOf ds with
        | none => rw [e2] at h; cases h
        | some qs =>
          rw [e2] at h
          cases h
          obtain ⟨as, ks, e3, e4, e5⟩ := pairsOf_ok e2 h2
          simp only [Rep] at h1
          obtain ⟨a, ws, rfl, hs, g⟩ := h1
          simp only [RepL] at g
          obtain ⟨v1, r1, rfl, g1, v2, r2, rfl, g2, rfl⟩ := g
          have ek := keyOf_rep hq g1
          subst ek
          refine ⟨a :: as, (q, v2) :: ks, by rw [e3]; rfl, .cons hs e4, ?_⟩
          simp only [RepK]
          exact ⟨q, v2, ks, rfl, keyOf_ok hq, g2, e5⟩
      · cases h
    · cases h
end

section
variable {X : Cx} {Y : Yx}
def rIxD (K : PySem.W.Frag) : R2 := fun x y H Q => ∃ (Hf : Hp) (d i r : D), Same Hf H ∧ Pk K Hf H d x ∧ Rep K Hf i y ∧ ixD d i = some r ∧ ∀ v, Rep K Hf r v → Q v H
theorem ix_D : IxR X (rIxD X.K) := by
  intro e1' e2' pins s σ H x y v u Q I rx ry h hsub
  obtain ⟨Hf, d, i, r, sm, p, q, e, g⟩ := h
  unfold ixD at e
  split at e
  · obtain ⟨a, vs, e1, e2, rl⟩ := p
    obtain ⟨w, e3, rw'⟩ := rl.atI e
    simp only [Rep] at q
    exact ix_list e1' e2' pins s σ H x y v u Q I rx ry ⟨a, vs, _, w, e1, q, .of e2, e3, g w rw'⟩ hsub
  · obtain ⟨a, vs, e1, e2, rl⟩ := pk_tup p
    obtain ⟨w, e3, rw'⟩ := rl.atI e
    simp only [Rep] at q
    exact ix_tup e1' e2' pins s σ H x y v u Q I rx ry ⟨a, vs, _, w, e1, q, sqT_mono sm e2, e3, g w rw'⟩ hsub
  · cases e
def rSlD (Y : Yx) : V → Option Int → Option Int → Hp → VK → Prop := fun x lo hi H Q => ∃ (Hf : Hp) (ρ : Env) (τ : List (D × Addr)) (σ : SV) (d : D) (r : RV), ER Y ρ τ σ H Hf ∧ Pk Y.K Hf H d x ∧ slD d lo hi = some r ∧
  ∀ v H' Hf', Same Hf Hf' → VR Y r v ρ τ σ H' Hf' → Q v H'
theorem sl_D : SlR X (rSlD { Y with K := X.K }) := by
  intro pins s σ H x v vl vu lo hi sl Q I rx hs pl pu h
  obtain ⟨Hf, ρ, τ, σ', d, r, E, p, e, g⟩ := h
  unfold slD at e
  split at e
  · cases e
    obtain ⟨a, vs, e1, e2, rl⟩ := p
    refine sl_list pins s σ H x v vl vu lo hi sl Q I rx hs pl pu ⟨a, vs, e1, .of e2, fun p np => g _ _ Hf (.refl _) ⟨p, rfl, E.lay np ⟨E.freshF np, _, upd_same, rl.cut lo hi⟩⟩⟩
  · rename_i ds
    cases e
    obtain ⟨a, vs, e1, e2, rl⟩ := pk_tup p
    refine sl_tupA pins s σ H x v vl vu lo hi sl Q I rx hs pl pu ⟨a, vs, e1, sqT_mono E.sub e2, fun hw => g _ _ Hf (.refl _) ⟨E, ?_⟩, fun _ p np => g _ _ _ (same_upd (E.freshF np)) ⟨E.grow np, ?_⟩⟩
    · have ec : cutD ds lo hi = ds := by
        unfold cutD
        rw [rl.len, hw.1, hw.2, List.drop_zero, Nat.sub_zero, ← rl.len, List.take_length]
      rw [ec]
      simp only [Rep]
      exact ⟨a, vs, rfl, e2, rl⟩
    · simp only [Rep]
      exact ⟨p, _, rfl, .inl (.inl upd_same), RepL.mono (same_upd (E.freshF np)) _ _ (rl.cut lo hi)⟩
  · cases e
/-- truth -/
theorem tru_D {Hf H : Hp} {d : D} {v : V} {b : Bool} (sm : Same Hf H) (p : Pk X.K Hf H d v) (e : truD d = some b) : TruV X.K v H b := by
  cases d with
  | none => cases e; rw [pk_none p]; rfl
  | bool c => cases e; rw [pk_bool p]; rfl
  | int i => cases e; rw [pk_int p]; rfl
  | str y =>
    simp only [truD] at e
    split at e
    · rename_i hc
      cases e
      rw [pk_str p]
      exact ⟨hc, rfl⟩
    · cases e
  | list ds =>
    cases e
    obtain ⟨a, vs, e1, e2, rl⟩ := p
    rw [e1]
    refine .inl ⟨vs, .of e2, ?_⟩
    have := rl.len
    cases ds <;> cases vs <;> first | rfl | cases this
  | tuple ds =>
    cases e
    obtain ⟨a, vs, e1, e2, rl⟩ := pk_tup p
    rw [e1]
    refine .inr (.inl ⟨vs, sqT_mono sm e2, ?_⟩)
    have := rl.len
    cases ds <;> cases vs <;> first | rfl | cases this
  | dict ds =>
    cases e
    obtain ⟨a, vs, e1, e2, rl⟩ := p
    rw [e1]
    refine .inr (.inr ⟨vs, e2, ?_⟩)
    have := rl.len
    cases ds <;> cases vs <;> first | rfl | cases this
/-- isinstance with built-in types -/
theorem tyX_D {Hf H : Hp} {d : D} {v : V} (sm : Same Hf H) (p : Pk X.K Hf H d v) : TyX X.K H v (.type (tyD d)) := by
  cases d with
  | none => rw [pk_none p]; exact .base .non
  | bool c => rw [pk_bool p]; exact .base (.bl _)
  | int i => rw [pk_int p]; exact .base (.int _)
  | str y => rw [pk_str p]; exact .base (.str _)
  | list ds =>
    obtain ⟨a, vs, e1, e2, rl⟩ := p
    rw [e1]; exact .base (.lst e2)
  | dict ds =>
    obtain ⟨a, vs, e1, e2, rl⟩ := p
    rw [e1]; exact .base (.dK e2)
  | tuple ds =>
    obtain ⟨a, vs, e1, e2, rl⟩ := pk_tup p
    rw [e1]
    rcases sqT_mono sm e2 with (h | ⟨o, h⟩) | ⟨o, its, n, h, hc, _⟩
    · exact .base (.tup h)
    · exact .fTuple h
    · exact .kTuple h hc
def tyOk (t : String) : Bool := t == "int" || t == "bool" || t == "str" || t == "list" || t == "tuple" || t == "dict"
theorem kit_D (d : D) {t : String} (h : tyOk t = true) : PySem.W.kitOne X.K (.type (tyD d)) (.type t) = some (isiD d [t]) := by
  have ht : t = "int" ∨ t = "bool" ∨ t = "str" ∨ t = "list" ∨ t = "tuple" ∨ t = "dict" := by
    unfold tyOk at h
    simp only [Bool.or_eq_true, beq_iff_eq] at h
    rcases h with ((((h | h) | h) | h) | h) | h <;> simp [h]
  refine kit_ty ?_
  rcases ht with rfl | rfl | rfl | rfl | rfl | rfl <;> cases d <;> (simp only [isiD, tyD]; decide +kernel)
theorem kitAny_D (d : D) : ∀ {ts : List String}, ts.all tyOk = true → PySem.W.kitAny X.K (.type (tyD d)) (ts.map Value.type) = some (isiD d ts)
  | [], _ => rfl
  | t :: ts, h => by
    rw [List.all_cons, Bool.and_eq_true] at h
    have ih := kitAny_D d h.2
    have k := kit_D (X := X) d h.1
    have e : isiD d (t :: ts) = (isiD d [t] || isiD d ts) := by simp [isiD]
    rw [List.map_cons, e]
    refine kitAny_cons k (fun hf => ?_) fun ht => ?_
    · rw [hf, Bool.false_or]; exact ih
    · rw [ht, Bool.true_or]
end
end PL

/-! PL5: the built-in functions by their rules, repr of data. -/
namespace PL
open PySem PySem.Spec PyProof.Rows L2
/-! ### what is shown -/
theorem log_small {n : Nat} (h : n < 10 ^ 60) : n.log2 < 1920 := by
  by_cases z : n = 0
  · subst z; decide
  · rw [Nat.log2_lt z]
    exact Nat.lt_of_lt_of_le h (by decide +kernel)
mutual
theorem plain_lay : ∀ d : D, plainD d = true → d.canLay0 = true
  | .none, _ => rfl
  | .bool _, _ => rfl
  | .int _, _ => rfl
  | .str x, h => by simpa [plainD, PyData.canLay0] using h
  | .list xs, h => by
    simp only [plainD] at h
    simp only [PyData.canLay0]
    exact plain_layL xs h
  | .tuple xs, h => by
    simp only [plainD] at h
    simp only [PyData.canLay0]
    exact plain_layL xs h
  | .dict _, h => by simp [plainD] at h
theorem plain_layL : ∀ xs : List D, plainL xs = true → PyData.canLayAll0 xs = true
  | [], _ => rfl
  | x :: xs, h => by
    simp only [plainL, Bool.and_eq_true] at h
    simp only [PyData.canLayAll0, Bool.and_eq_true]
    exact ⟨plain_lay x h.1, plain_layL xs h.2⟩
end
mutual
theorem plain_show : ∀ d : D, plainD d = true → d.showable = true
  | .none, _ => rfl
  | .bool _, _ => rfl
  | .int i, h => by
    simp only [plainD, decide_eq_true_iff] at h
    simp only [PyData.showable, decide_eq_true_iff]
    exact log_small h
  | .str x, _ => rfl
  | .list xs, h => by
    simp only [plainD] at h
    simp only [PyData.showable]
    exact plain_showL xs h
  | .tuple xs, h => by
    simp only [plainD] at h
    simp only [PyData.showable]
    exact plain_showL xs h
  | .dict _, h => by simp [plainD] at h
theorem plain_showL : ∀ xs : List D, plainL xs = true → PyData.showableAll xs = true
  | [], _ => rfl
  | x :: xs, h => by
    simp only [plainL, Bool.and_eq_true] at h
    simp only [PyData.showableAll, Bool.and_eq_true]
    exact ⟨plain_show x h.1, plain_showL xs h.2⟩
end
mutual
theorem plain_leaf : ∀ d : D, plainD d = true → d.leavesShort 64 = true
  | .none, _ => rfl
  | .bool _, _ => rfl
  | .int i, h => by
    simp only [plainD, decide_eq_true_iff] at h
    simp only [PyData.leavesShort, decide_eq_true_iff, PyData.shown]
    have := int_text_length_le10 (a := i) (k := 60) (by decide) h
    exact decide_eq_true (Nat.le_trans (show (Str.ofString (toString i)).length ≤ 61 by rw [PySem.ofString_length]; exact this) (by decide : 61 ≤ 64))
  | .str x, h => by
    simp only [plainD, PyData.strOk] at h
    simp only [PyData.leavesShort]
    rw [List.all_eq_true]
    intro c hc
    have := (Array.all_eq_true'.mp h) c (by simpa using hc)
    simp only [decide_eq_true_iff] at this ⊢
    exact Nat.lt_trans this (by decide)
  | .list xs, h => by
    simp only [plainD] at h
    simp only [PyData.leavesShort]
    exact plain_leafL xs h
  | .tuple xs, h => by
    simp only [plainD] at h
    simp only [PyData.leavesShort]
    exact plain_leafL xs h
  | .dict _, h => by simp [plainD] at h
theorem plain_leafL : ∀ xs : List D, plainL xs = true → PyData.leavesShortAll 64 xs = true
  | [], _ => rfl
  | x :: xs, h => by
    simp only [plainL, Bool.and_eq_true] at h
    simp only [PyData.leavesShortAll, Bool.and_eq_true]
    exact ⟨plain_leaf x h.1, plain_leafL xs h.2⟩
end
theorem reprOk_of {d : D} (h : reprOk d = true) : d.showable = true ∧ d.canLay0 = true ∧ d.depth ≤ 64 ∧ d.shown.length ≤ sizeLine := by
  simp only [reprOk, Bool.and_eq_true, decide_eq_true_iff] at h
  obtain ⟨⟨h1, h2⟩, h3⟩ := h
  refine ⟨plain_show d h1, plain_lay d h1, h2, ?_⟩
  have := PyData.shown_le_bulk 64 (by decide) d (plain_leaf d h1)
  rw [sizeLine_eq]
  omega
section
variable {X : Cx} {Y : Yx}
theorem call_repr (hg : X.A.guards = some []) (hu : X.A.units + 200 < cLine) : CallR X (.builtin "repr") (fun xs H Q => ∃ (d : D) (v : V), xs = [v] ∧ Rep X.K H d v ∧ reprOk d = true ∧ Q (.str d.shown) H) := by
  intro pins s σ H xs us Q I r h
  obtain ⟨d, v, rfl, rp, ok, q⟩ := h
  obtain ⟨u, rfl, ru⟩ := vals1 r
  obtain ⟨o1, o2, o3, o4⟩ := reprOk_of ok
  have big : ∀ a, u = .ref a → wpAny (model X.prog X.w) X.A (call (.builtin "repr") [u]) (EP X pins σ Q) X.xe s := fun a ea => by
    obtain ⟨as, rd⟩ := Dp.reads I d v u (rep_dp d v o2 rp) ru
    rw [ea] at rd ⊢
    exact repr_of_reads' rd o1 (PyData.noDict_hsm (PyData.hasDict_of_canLay d o2)) hg (by omega) (fun _ _ e => e) (fun h' t tk hk => ⟨.str d.shown, H, I.kept hk, ⟨t, rfl⟩, q⟩) o4
  cases d with
  | none =>
    simp only [Rep] at rp
    subst rp
    cases ru
    exact PySem.P.repr_of_none ⟨.str _, H, I.tok _, ⟨_, rfl⟩, q⟩
  | bool b =>
    simp only [Rep] at rp
    subst rp
    cases ru
    exact PySem.P.repr_of_bool ⟨.str _, H, I.tok _, ⟨_, rfl⟩, q⟩
  | int i =>
    simp only [Rep] at rp
    subst rp
    obtain ⟨t, rfl⟩ := ru
    exact PySem.P.repr_of_int (by simpa [PyData.showable] using o1) ⟨.str _, H, I.tok _, ⟨_, rfl⟩, q⟩
  | str x =>
    simp only [Rep] at rp
    subst rp
    obtain ⟨t, rfl⟩ := ru
    exact PySem.P.repr_of_str ⟨.str _, H, I.tok _, ⟨_, rfl⟩, q⟩ o4
  | list ds =>
    have rp' := rp
    simp only [Rep] at rp'
    obtain ⟨a, vs, rfl, _⟩ := rp'
    exact big a ru
  | tuple ds =>
    have rp' := rp
    simp only [Rep] at rp'
    obtain ⟨a, vs, rfl, _⟩ := rp'
    exact big a ru
  | dict _ => simp [reprOk, plainD] at ok
def rBlt (Y : Yx) (b : Blt) : List V → Hp → VK → Prop := fun xs H Q => ∃ (Hf : Hp) (ρ : Env) (τ : List (D × Addr)) (σ : SV) (ds : List D) (r : RV), ER Y ρ τ σ H Hf ∧ PkL Y.K Hf H ds xs ∧ bltD b ds = some r ∧
  ∀ v H' Hf', Same Hf Hf' → VR Y r v ρ τ σ H' Hf' → Q v H'
def bvOf : Blt → Value
  | .len => .builtin "len" | .abs => .builtin "abs" | .max => .builtin "max" | .min => .builtin "min" | .sum => .builtin "sum" | .all => .builtin "all" | .any => .builtin "any"
  | .divmod => .builtin "divmod" | .repr => .builtin "repr" | .int => .type "int" | .list => .type "list" | .tuple => .type "tuple" | .dict => .type "dict"
theorem map_some' {α β : Type} {f : α → β} {o : Option α} {b : β} (h : o.map f = some b) : ∃ a, o = some a ∧ f a = b := by
  cases o with
  | none => cases h
  | some a => cases h; exact ⟨a, rfl, rfl⟩
theorem call_D (hc : X.calm = true) (hg : X.A.guards = some []) (hu : X.A.units + 200 < cLine) (b : Blt) : CallR X (bvOf b) (rBlt { Y with K := X.K } b) := by
  intro pins s σ H xs us Q I rx h
  obtain ⟨Hf, ρ, τ, σ', ds, r, E, p, e, q⟩ := h
  have val : ∀ {d : D} {v : V}, r = .val d → Rep X.K Hf d v → Q v H := fun {d v} e1 rp => q _ _ Hf (.refl _) (by rw [e1]; exact ⟨E, rp⟩)
  cases b with
  | len =>
    simp only [bltD] at e
    split at e
    · obtain ⟨v, rfl, pk⟩ := p.one
      cases e
      obtain ⟨a, vs, e1, e2, rl⟩ := pk
      exact call_len_seq pins s σ H _ us Q I rx ⟨a, vs, by rw [e1], .inl (.of e2), val rfl (by simp [Rep, rl.len])⟩
    · obtain ⟨v, rfl, pk⟩ := p.one
      cases e
      obtain ⟨a, vs, e1, e2, rl⟩ := pk_tup pk
      exact call_len_seq pins s σ H _ us Q I rx ⟨a, vs, by rw [e1], .inr (sqT_mono E.sub e2), val rfl (by simp [Rep, rl.len])⟩
    · obtain ⟨v, rfl, pk⟩ := p.one
      split at e
      · rename_i hz
        cases e
        exact call_len_str pins s σ H _ us Q I rx ⟨_, by rw [pk_str pk], hz, val rfl (by simp [Rep])⟩
      · cases e
    · cases e
  | abs =>
    simp only [bltD] at e
    split at e
    · obtain ⟨v, rfl, pk⟩ := p.one
      cases e
      exact call_abs pins s σ H _ us Q I rx ⟨_, by rw [pk_int pk], val rfl (by simp [Rep])⟩
    · cases e
  | max =>
    simp only [bltD] at e
    split at e
    · obtain ⟨v, w, rfl, p1, p2⟩ := p.two
      cases e
      exact call_max2 hc pins s σ H _ us Q I rx ⟨_, _, by rw [pk_int p1, pk_int p2], val rfl (by simp [Rep])⟩
    · cases e
  | min =>
    simp only [bltD] at e
    split at e
    · obtain ⟨v, w, rfl, p1, p2⟩ := p.two
      cases e
      exact call_min2 hc pins s σ H _ us Q I rx ⟨_, _, by rw [pk_int p1, pk_int p2], val rfl (by simp [Rep])⟩
    · cases e
  | sum =>
    simp only [bltD] at e
    split at e
    · obtain ⟨v, rfl, pk⟩ := p.one
      obtain ⟨ns, e1, e2⟩ := map_some' e
      subst e2
      obtain ⟨a, vs, rfl, e3, rl⟩ := pk
      have ev := intsOf_ok e1 rl
      exact cr_sum hc pins s σ H _ us Q I rx ⟨a, ns, rfl, .of (by rw [e3, ev]), val rfl (by simp [Rep])⟩
    · cases e
  | all =>
    simp only [bltD] at e
    split at e
    · obtain ⟨v, rfl, pk⟩ := p.one
      obtain ⟨ns, e1, e2⟩ := map_some' e
      subst e2
      obtain ⟨a, vs, rfl, e3, rl⟩ := pk
      have ev := bolsOf_ok e1 rl
      exact cr_all hc pins s σ H _ us Q I rx ⟨a, ns, rfl, .of (by rw [e3, ev]), val rfl (by simp [Rep])⟩
    · cases e
  | any =>
    simp only [bltD] at e
    split at e
    · obtain ⟨v, rfl, pk⟩ := p.one
      obtain ⟨ns, e1, e2⟩ := map_some' e
      subst e2
      obtain ⟨a, vs, rfl, e3, rl⟩ := pk
      have ev := bolsOf_ok e1 rl
      exact cr_any hc pins s σ H _ us Q I rx ⟨a, ns, rfl, .of (by rw [e3, ev]), val rfl (by simp [Rep])⟩
    · cases e
  | int =>
    simp only [bltD] at e
    split at e
    · obtain ⟨v, rfl, pk⟩ := p.one
      cases e
      exact call_int1 pins s σ H _ us Q I rx (.inl ⟨_, by rw [pk_int pk], val rfl (by simp [Rep])⟩)
    · obtain ⟨v, rfl, pk⟩ := p.one
      cases e
      exact call_int1 pins s σ H _ us Q I rx (.inr ⟨_, by rw [pk_bool pk], val rfl (by simp [Rep])⟩)
    · cases e
  | divmod =>
    simp only [bltD] at e
    split at e
    · obtain ⟨v, w, rfl, p1, p2⟩ := p.two
      split at e
      · rename_i hz
        cases e
        refine call_divmod pins s σ H _ us Q I rx ⟨_, _, by rw [pk_int p1, pk_int p2], hz, fun a na => q _ _ _ (same_upd (E.freshF na)) ⟨E.grow na, ?_⟩⟩
        simp only [Rep]
        exact ⟨a, _, rfl, .inl (.inl upd_same), .cons (by simp [Rep]) (.one (by simp [Rep]))⟩
      · cases e
    · cases e
  | list =>
    simp only [bltD] at e
    split at e
    · obtain ⟨v, rfl, pk⟩ := p.one
      cases e
      obtain ⟨a, vs, rfl, e3, rl⟩ := pk
      exact call_list_of pins s σ H _ us Q I rx ⟨a, vs, rfl, .inl (.of e3), fun l nl => q _ _ Hf (.refl _) ⟨l, rfl, E.lay nl ⟨E.freshF nl, _, upd_same, rl⟩⟩⟩
    · obtain ⟨v, rfl, pk⟩ := p.one
      cases e
      obtain ⟨a, vs, rfl, e3, rl⟩ := pk_tup pk
      exact call_list_of pins s σ H _ us Q I rx ⟨a, vs, rfl, .inr (sqT_mono E.sub e3), fun l nl => q _ _ Hf (.refl _) ⟨l, rfl, E.lay nl ⟨E.freshF nl, _, upd_same, rl⟩⟩⟩
    · cases e
  | tuple =>
    simp only [bltD] at e
    split at e
    · obtain ⟨v, rfl, pk⟩ := p.one
      cases e
      obtain ⟨a, vs, rfl, e3, rl⟩ := pk
      refine call_tuple_of pins s σ H _ us Q I rx ⟨a, vs, rfl, .inl ⟨.of e3, fun l nl => q _ _ _ (same_upd (E.freshF nl)) ⟨E.grow nl, ?_⟩⟩⟩
      simp only [Rep]
      exact ⟨l, _, rfl, .inl (.inl upd_same), RepL.mono (same_upd (E.freshF nl)) _ _ rl⟩
    · obtain ⟨v, rfl, pk⟩ := p.one
      cases e
      obtain ⟨a, vs, rfl, e3, rl⟩ := pk_tup pk
      refine call_tuple_of pins s σ H _ us Q I rx ⟨a, vs, rfl, .inr ⟨sqT_mono E.sub e3, val rfl ?_⟩⟩
      simp only [Rep]
      exact ⟨a, vs, rfl, e3, rl⟩
    · cases e
  | dict =>
    simp only [bltD] at e
    split at e
    · obtain ⟨v, rfl, pk⟩ := p.one
      obtain ⟨ps, e1, e2⟩ := map_some' e
      subst e2
      obtain ⟨a, vs, rfl, e3, rl⟩ := pk
      obtain ⟨as, ks, ev, pr, rk⟩ := pairsOf_ok e1 rl
      refine call_dictP hc pins s σ H _ us Q I rx ⟨a, as, ks, rfl, .of (by rw [e3, ev]), Paired.mapP pr fun _ _ z => sqT_mono E.sub z, fun l nl => q _ _ Hf (.refl _) ⟨l, rfl, E.lay nl ⟨E.freshF nl, _, upd_same, ?_⟩⟩⟩
      exact RepK.merge rk (by simp [RepK])
    · cases e
  | repr =>
    simp only [bltD] at e
    split at e
    · obtain ⟨v, rfl, pk⟩ := p.one
      split at e
      · rename_i ok
        cases e
        exact call_repr hg hu pins s σ H _ us Q I rx ⟨_, v, rfl, pk.rep E.sub, ok, val rfl (by simp [Rep])⟩
      · cases e
    · cases e
end
end PL

/-! PL6: readings of the words, and one step for each word. -/
namespace PL
open PySem PySem.Spec PyProof.Rows L2
section
variable (Y : Yx) (Φ : Fn)
def tE (r : RE) : TE := fun σ H Q => ∃ (Hf : Hp) (ρ : Env) (τ : List (D × Addr)) (x : RV) (ρ' : Env), ER Y ρ τ σ H Hf ∧ evE Φ r ρ = some (x, ρ') ∧ ∀ v H' Hf', Same Hf Hf' → VR Y x v ρ' τ σ H' Hf' → Q v H'
/-- .. from now on unchanging -/
def tF (r : RE) : TE := fun σ H Q => ∃ (Hf : Hp) (ρ : Env) (τ : List (D × Addr)) (x : RV) (ρ' : Env), ER Y ρ τ σ H Hf ∧ evE Φ r ρ = some (x, ρ') ∧ ∀ v H' Hf', Same Hf Hf' → ER Y ρ' τ σ H' Hf' → Rep Y.K Hf' x.d v → Q v H'
def tP (r : RP) : TE := fun σ H Q => ∃ (Hf : Hp) (ρ : Env) (τ : List (D × Addr)) (p : PV) (ρ' : Env), ER Y ρ τ σ H Hf ∧ evP Φ r ρ = some (p, ρ') ∧ ∀ v H' Hf', Same Hf Hf' → ER Y ρ' τ σ H' Hf' → PVR Y σ Hf' p v → Q v H'
def tT (t : RT) : TT := fun σ H Q => ∃ (Hf : Hp) (ρ : Env) (τ : List (D × Addr)) (b : Bool) (ρ' : Env), ER Y ρ τ σ H Hf ∧ evT Φ t ρ = some (b, ρ') ∧ ∀ H' Hf', Same Hf Hf' → ER Y ρ' τ σ H' Hf' → Q b H'
def tTo (t : Option RT) : TT := fun σ H Q => ∃ (Hf : Hp) (ρ : Env) (τ : List (D × Addr)) (b : Bool) (ρ' : Env), ER Y ρ τ σ H Hf ∧ evTo Φ t ρ = some (b, ρ') ∧ ∀ H' Hf', Same Hf Hf' → ER Y ρ' τ σ H' Hf' → Q b H'
def tL (es : List RE) : TA := fun σ H Q => ∃ (Hf : Hp) (ρ : Env) (τ : List (D × Addr)) (ds : List D) (ρ' : Env), ER Y ρ τ σ H Hf ∧ evL Φ es ρ = some (ds, ρ') ∧ ∀ vs H' Hf', Same Hf Hf' → ER Y ρ' τ σ H' Hf' → RepL Y.K Hf' ds vs → Q vs H'
def PVRs (Y : Yx) (σ : SV) (Hf : Hp) : List PV → List V → Prop
  | [], vs => vs = []
  | p :: ps, vs => ∃ v r, vs = v :: r ∧ PVR Y σ Hf p v ∧ PVRs Y σ Hf ps r
def tPs (es : List RP) : TA := fun σ H Q => ∃ (Hf : Hp) (ρ : Env) (τ : List (D × Addr)) (ps : List PV) (ρ' : Env), ER Y ρ τ σ H Hf ∧ evPs Φ es ρ = some (ps, ρ') ∧ ∀ vs H' Hf', Same Hf Hf' → ER Y ρ' τ σ H' Hf' → PVRs Y σ Hf' ps vs → Q vs H'
/-- an argument: a thing, or the list of a slot -/
def AR (Y : Yx) (σ : SV) (Hf : Hp) : PA' → V → Prop
  | .val d, v => Rep Y.K Hf d v
  | .io i, v => σ[i]? = some (some v)
def ARs (Y : Yx) (σ : SV) (Hf : Hp) : List PA' → List V → Prop
  | [], vs => vs = []
  | p :: ps, vs => ∃ v r, vs = v :: r ∧ AR Y σ Hf p v ∧ ARs Y σ Hf ps r
def tAr (es : List RA) : TA := fun σ H Q => ∃ (Hf : Hp) (ρ : Env) (τ : List (D × Addr)) (ps : List PA') (ρ' : Env), ER Y ρ τ σ H Hf ∧ evA Φ es ρ = some (ps, ρ') ∧ ∀ vs H' Hf', Same Hf Hf' → ER Y ρ' τ σ H' Hf' → ARs Y σ Hf' ps vs → Q vs H'
def tOp' (o : RO) : TO := fun σ H Q => ∃ (Hf : Hp) (ρ : Env) (τ : List (D × Addr)) (i : Option Int) (ρ' : Env), ER Y ρ τ σ H Hf ∧ evO Φ o ρ = some (i, ρ') ∧ ∀ H' Hf', Same Hf Hf' → ER Y ρ' τ σ H' Hf' → Q i H'
end
theorem _root_.L2.PE.weak {X : Cx} {e : Expr} {t u : TE} (h : PE X e t) (w : ∀ σ H Q, u σ H Q → t σ H Q) : PE X e u := ⟨fun pins s σ H Q I q => h.run pins s σ H Q I (w σ H Q q)⟩
theorem _root_.L2.PT.weak {X : Cx} {e : Expr} {t u : TT} (h : PT X e t) (w : ∀ σ H Q, u σ H Q → t σ H Q) : PT X e u := ⟨fun pins s σ H Q I q => h.run pins s σ H Q I (w σ H Q q)⟩
theorem _root_.L2.PA.weak {X : Cx} {e : List Expr} {t u : TA} (h : PA X e t) (w : ∀ σ H Q, u σ H Q → t σ H Q) : PA X e u := ⟨fun pos pins s σ H Q I q => h.run pos pins s σ H Q I (w σ H Q q)⟩
theorem yk {Y : Yx} {K : PySem.W.Frag} (h : Y.K = K) : { Y with K := K } = Y := by subst h; rfl
theorem PVRs.mono {Y : Yx} {σ : SV} {Hf Hf' : Hp} (s : Same Hf Hf') : ∀ {ps : List PV} {vs : List V}, PVRs Y σ Hf ps vs → PVRs Y σ Hf' ps vs
  | [], _, h => h
  | p :: ps, _, ⟨v, r, e, h, g⟩ => ⟨v, r, e, h.mono s, PVRs.mono s g⟩
theorem AR.mono {Y : Yx} {σ : SV} {Hf Hf' : Hp} (s : Same Hf Hf') {p : PA'} {v : V} (h : AR Y σ Hf p v) : AR Y σ Hf' p v := by
  cases p with
  | val d => exact Rep.mono s _ _ h
  | io i => exact h
theorem ARs.mono {Y : Yx} {σ : SV} {Hf Hf' : Hp} (s : Same Hf Hf') : ∀ {ps : List PA'} {vs : List V}, ARs Y σ Hf ps vs → ARs Y σ Hf' ps vs
  | [], _, h => h
  | p :: ps, _, ⟨v, r, e, h, g⟩ => ⟨v, r, e, h.mono s, ARs.mono s g⟩
theorem PVRs.res {Y : Yx} {ρ : Env} {τ : List (D × Addr)} {σ : SV} {H Hf : Hp} (E : ER Y ρ τ σ H Hf) : ∀ {ps : List PV} {vs : List V} {ds : List D}, PVRs Y σ Hf ps vs → ps.mapM (PV.res ρ) = some ds → PkL Y.K Hf H ds vs
  | [], _, ds, h, e => by
    cases h
    have e' : some [] = some ds := e
    cases e'
    rfl
  | p :: ps, _, ds, ⟨v, r, rfl, h, g⟩, e => by
    rw [List.mapM_cons] at e
    cases e1 : p.res ρ with
    | none => rw [e1] at e; cases e
    | some d =>
      rw [e1] at e
      cases e2 : ps.mapM (PV.res ρ) with
      | none => rw [e2] at e; cases e
      | some t =>
        rw [e2] at e
        have e' : some (d :: t) = some ds := e
        cases e'
        exact ⟨v, r, rfl, h.res E e1, PVRs.res E g e2⟩

section
variable {X : Cx} {Y : Yx} {Φ : Fn} {pos : Pos}
theorem tE_F {e : Expr} {r : RE} (h : PE X e (tE Y Φ r)) : PE X e (tF Y Φ r) := h.weak fun σ H Q ⟨Hf, ρ, τ, x, ρ', E, ev, k⟩ => ⟨Hf, ρ, τ, x, ρ', E, ev, fun v H' Hf' s vr => by
  obtain ⟨Hf2, s2, E2, rp⟩ := vr.frz
  exact k v H' Hf2 (s.trans s2) E2 rp⟩
theorem st_c {e : Expr} {d : D} {v : V} (h : PE X e (tC v)) (r : ∀ K H, Rep K H d v) : PE X e (tE Y Φ (.c d)) := h.weak fun σ H Q ⟨Hf, ρ, τ, x, ρ', E, ev, k⟩ => by
  simp only [evE, Option.some.injEq, Prod.mk.injEq] at ev
  obtain ⟨rfl, rfl⟩ := ev
  exact k v H Hf (.refl _) ⟨E, r _ _⟩
theorem st_g {e : Expr} {d : D} {x : String} {v : V} (h : PE X e (tC v)) (r : ∀ H, Rep Y.K H d v) : PE X e (tE Y Φ (.g x d)) := h.weak fun σ H Q ⟨Hf, ρ, τ, x, ρ', E, ev, k⟩ => by
  simp only [evE, Option.some.injEq, Prod.mk.injEq] at ev
  obtain ⟨rfl, rfl⟩ := ev
  exact k v H Hf (.refl _) ⟨E, r _⟩
theorem st_v {e : Expr} {i : Nat} (h : PE X e (tVar i)) : PE X e (tE Y Φ (.v i)) := h.weak fun σ H Q ⟨Hf, ρ, τ, x, ρ', E, ev, k⟩ => by
  simp only [evE] at ev
  obtain ⟨v, Hf', e1, s, vr⟩ := takeS_ok E ev
  exact ⟨v, e1, k v H Hf' s vr⟩
theorem st_slot {e : Expr} {i : Nat} (h : PE X e (tVar i)) : PE X e (tP Y Φ (.slot i)) := h.weak fun σ H Q ⟨Hf, ρ, τ, x, ρ', E, ev, k⟩ => by
  simp only [evP, Option.map_eq_some_iff, Prod.mk.injEq] at ev
  obtain ⟨p, e1, rfl, rfl⟩ := ev
  obtain ⟨v, e2, r⟩ := peekS_ok E e1
  exact ⟨v, e2, k v H Hf (.refl _) E r⟩
theorem st_ex {e : Expr} {r : RE} (h : PE X e (tE Y Φ r)) : PE X e (tP Y Φ (.ex r)) := (tE_F h).weak fun σ H Q ⟨Hf, ρ, τ, x, ρ', E, ev, k⟩ => by
  simp only [evP, Option.map_eq_some_iff] at ev
  obtain ⟨⟨y, ρ1⟩, e1, e2⟩ := ev
  cases e2
  exact ⟨Hf, ρ, τ, y, ρ1, E, e1, fun v H' Hf' s E' r => k v H' Hf' s E' r⟩
theorem two_P {a b : RP} {σ : SV} {H : Hp} {R : V → V → Hp → Prop} {Hf : Hp} {ρ : Env} {τ : List (D × Addr)} {p q : PV × Env} {x y : D} (E : ER Y ρ τ σ H Hf) (ep : evP Φ a ρ = some p) (eq : evP Φ b p.2 = some q)
    (ex : p.1.res q.2 = some x) (ey : q.1.res q.2 = some y) (k : ∀ v w H' Hf', Same Hf Hf' → ER Y q.2 τ σ H' Hf' → Pk Y.K Hf' H' x v → Pk Y.K Hf' H' y w → R v w H') :
    tP Y Φ a σ H fun v H1 => tP Y Φ b σ H1 fun w H2 => R v w H2 :=
  ⟨Hf, ρ, τ, p.1, p.2, E, ep, fun v H1 Hf1 s1 E1 pv => ⟨Hf1, p.2, τ, q.1, q.2, E1, eq, fun w H2 Hf2 s2 E2 pw => k v w H2 Hf2 (s1.trans s2) E2 ((pv.mono s2).res E2 ex) (pw.res E2 ey)⟩⟩
theorem st_bin (hK : Y.K = X.K) {l r : Expr} {a b : RP} {o : BOp} (ha : PE X l (tP Y Φ a)) (hb : PE X r (tP Y Φ b)) : PE X (.BinOp l (opOf o) r pos) (tE Y Φ (.bin o a b)) := by
  have ho := op_bin (X := X) (Y := Y) o
  rw [yk hK] at ho
  refine (pe_op ho ha hb).weak fun σ H Q ⟨Hf, ρ, τ, x, ρ', E, ev, k⟩ => ?_
  simp only [evE, Option.bind_eq_some_iff, Option.map_eq_some_iff] at ev
  obtain ⟨p, ep, q, eq, x1, ex, y1, ey, z, ez, e3⟩ := ev
  cases e3
  exact two_P E ep eq ex ey fun v w H2 Hf2 s2 E2 pv pw => ⟨Hf2, _, τ, σ, x1, y1, x, E2, pv, pw, ez, fun u H3 Hf3 s3 vr => k u H3 Hf3 (s2.trans s3) vr⟩
theorem st_cmp (hK : Y.K = X.K) (hu : X.A.units + 64 < cLine) {l r : Expr} {a b : RP} {o : COp} (ha : PE X l (tP Y Φ a)) (hb : PE X r (tP Y Φ b)) (hm : behindInMarks (cOf o) r = false) : PE X (.Compare l [cOf o] [r] pos) (tE Y Φ (.cmp o a b)) := by
  refine (pe_cmpR (op_cmpD hu o) ha hb hm).weak fun σ H Q ⟨Hf, ρ, τ, x, ρ', E, ev, k⟩ => ?_
  simp only [evE, Option.bind_eq_some_iff, Option.map_eq_some_iff] at ev
  obtain ⟨p, ep, q, eq, x1, ex, y1, ey, z, ez, e3⟩ := ev
  cases e3
  exact two_P E ep eq ex ey fun v w H2 Hf2 s2 E2 pv pw => ⟨Hf2, x1, y1, z, E2.sub, hK ▸ pv, hK ▸ pw, ez, k _ H2 Hf2 s2 ⟨E2, by simp [Rep]⟩⟩
theorem st_cmpT (hK : Y.K = X.K) (hu : X.A.units + 64 < cLine) {l r : Expr} {a b : RP} {o : COp} (ha : PE X l (tP Y Φ a)) (hb : PE X r (tP Y Φ b)) (hm : behindInMarks (cOf o) r = false) : PT X (.Compare l [cOf o] [r] pos) (tT Y Φ (.cmp o a b)) := by
  refine (pt_cmpR (op_cmpD hu o) ha hb hm).weak fun σ H Q ⟨Hf, ρ, τ, x, ρ', E, ev, k⟩ => ?_
  simp only [evT, Option.bind_eq_some_iff, Option.map_eq_some_iff] at ev
  obtain ⟨p, ep, q, eq, x1, ex, y1, ey, z, ez, e3⟩ := ev
  cases e3
  exact two_P E ep eq ex ey fun v w H2 Hf2 s2 E2 pv pw => ⟨Hf2, x1, y1, x, E2.sub, hK ▸ pv, hK ▸ pw, ez, x, rfl, k H2 Hf2 s2 E2⟩
theorem pk_isN {K : PySem.W.Frag} {Hf H : Hp} {d : D} {v : V} (p : Pk K Hf H d v) : decide (v = .non) = isNone d := by
  cases d with
  | none => rw [pk_none p]; rfl
  | bool c => rw [pk_bool p]; rfl
  | int i => rw [pk_int p]; rfl
  | str y => rw [pk_str p]; rfl
  | list ds => obtain ⟨a, vs, e1, _⟩ := p; rw [e1]; rfl
  | dict ds => obtain ⟨a, vs, e1, _⟩ := p; rw [e1]; rfl
  | tuple ds => obtain ⟨a, vs, e1, _⟩ := pk_tup p; rw [e1]; rfl
theorem st_isN {l : Expr} {a : RP} {j pos'} (ha : PE X l (tP Y Φ a)) : PE X (.Compare l [.Is] [.Constant .none j pos'] pos) (tE Y Φ (.isN a)) := by
  refine (pe_cmp (pc_isN ha) rfl).weak fun σ H Q ⟨Hf, ρ, τ, x, ρ', E, ev, k⟩ => ?_
  simp only [evE, Option.bind_eq_some_iff, Option.map_eq_some_iff] at ev
  obtain ⟨p, ep, x1, ex, e3⟩ := ev
  cases e3
  exact ⟨Hf, ρ, τ, p.1, p.2, E, ep, fun v H1 Hf1 s1 E1 pv => k _ H1 Hf1 s1 ⟨E1, by rw [pk_isN (pv.res E1 ex)]; simp [Rep]⟩⟩
theorem st_notN {l : Expr} {a : RP} {j pos'} (ha : PE X l (tP Y Φ a)) : PE X (.Compare l [.IsNot] [.Constant .none j pos'] pos) (tE Y Φ (.notN a)) := by
  refine (pe_cmp (pc_notN ha) rfl).weak fun σ H Q ⟨Hf, ρ, τ, x, ρ', E, ev, k⟩ => ?_
  simp only [evE, Option.bind_eq_some_iff, Option.map_eq_some_iff] at ev
  obtain ⟨p, ep, x1, ex, e3⟩ := ev
  cases e3
  exact ⟨Hf, ρ, τ, p.1, p.2, E, ep, fun v H1 Hf1 s1 E1 pv => k _ H1 Hf1 s1 ⟨E1, by rw [pk_isN (pv.res E1 ex)]; simp [Rep]⟩⟩
theorem st_isNT {l : Expr} {a : RP} {j pos'} (ha : PE X l (tP Y Φ a)) : PT X (.Compare l [.Is] [.Constant .none j pos'] pos) (tT Y Φ (.isN a)) := by
  refine (pt_cmp (pc_isN ha) rfl).weak fun σ H Q ⟨Hf, ρ, τ, x, ρ', E, ev, k⟩ => ?_
  simp only [evT, Option.bind_eq_some_iff, Option.map_eq_some_iff] at ev
  obtain ⟨p, ep, x1, ex, e3⟩ := ev
  cases e3
  exact ⟨Hf, ρ, τ, p.1, p.2, E, ep, fun v H1 Hf1 s1 E1 pv => ⟨_, rfl, by rw [pk_isN (pv.res E1 ex)]; exact k H1 Hf1 s1 E1⟩⟩
theorem st_notNT {l : Expr} {a : RP} {j pos'} (ha : PE X l (tP Y Φ a)) : PT X (.Compare l [.IsNot] [.Constant .none j pos'] pos) (tT Y Φ (.notN a)) := by
  refine (pt_cmp (pc_notN ha) rfl).weak fun σ H Q ⟨Hf, ρ, τ, x, ρ', E, ev, k⟩ => ?_
  simp only [evT, Option.bind_eq_some_iff, Option.map_eq_some_iff] at ev
  obtain ⟨p, ep, x1, ex, e3⟩ := ev
  cases e3
  refine ⟨Hf, ρ, τ, p.1, p.2, E, ep, fun v H1 Hf1 s1 E1 pv => ⟨_, rfl, ?_⟩⟩
  rw [pk_isN (pv.res E1 ex)]
  exact k H1 Hf1 s1 E1
theorem st_neg {l : Expr} {a : RE} (ha : PE X l (tE Y Φ a)) : PE X (.UnaryOp .USub l pos) (tE Y Φ (.neg a)) := by
  refine (pe_un un_neg (tE_F ha)).weak fun σ H Q ⟨Hf, ρ, τ, x, ρ', E, ev, k⟩ => ?_
  simp only [evE, Option.bind_eq_some_iff] at ev
  obtain ⟨p, ep, e3⟩ := ev
  split at e3
  · rename_i i ei
    cases e3
    exact ⟨Hf, ρ, τ, p.1, p.2, E, ep, fun v H1 Hf1 s1 E1 rp => ⟨i, by rw [ei] at rp; simpa [Rep] using rp, k _ H1 Hf1 s1 ⟨E1, by simp [Rep]⟩⟩⟩
  · cases e3
theorem st_nt {l : Expr} {a : RE} (ha : PE X l (tE Y Φ a)) : PE X (.UnaryOp .Not l pos) (tE Y Φ (.nt a)) := by
  refine (pe_not (tE_F ha)).weak fun σ H Q ⟨Hf, ρ, τ, x, ρ', E, ev, k⟩ => ?_
  simp only [evE, Option.bind_eq_some_iff] at ev
  obtain ⟨p, ep, e3⟩ := ev
  split at e3
  · rename_i i ei
    cases e3
    exact ⟨Hf, ρ, τ, p.1, p.2, E, ep, fun v H1 Hf1 s1 E1 rp => ⟨i, by rw [ei] at rp; simpa [Rep] using rp, k _ H1 Hf1 s1 ⟨E1, by simp [Rep]⟩⟩⟩
  · cases e3
theorem st_and {l r : Expr} {rest : List Expr} {a b : RE} (ha : PE X l (tE Y Φ a)) (hb : PE X (.BoolOp .And (r :: rest) pos) (tE Y Φ b)) : PE X (.BoolOp .And (l :: r :: rest) pos) (tE Y Φ (.and a b)) := by
  refine (pe_and (tE_F ha) hb).weak fun σ H Q ⟨Hf, ρ, τ, x, ρ', E, ev, k⟩ => ?_
  simp only [evE, Option.bind_eq_some_iff] at ev
  obtain ⟨p, ep, e3⟩ := ev
  split at e3
  · rename_i ei
    exact ⟨Hf, ρ, τ, p.1, p.2, E, ep, fun v H1 Hf1 s1 E1 rp => ⟨true, by rw [ei] at rp; simpa [Rep] using rp, iteT ⟨Hf1, p.2, τ, x, ρ', E1, e3, fun v H' Hf' s2 vr => k v H' Hf' (s1.trans s2) vr⟩⟩⟩
  · rename_i ei
    cases e3
    exact ⟨Hf, ρ, τ, p.1, p.2, E, ep, fun v H1 Hf1 s1 E1 rp => ⟨false, by rw [ei] at rp; simpa [Rep] using rp, iteF (k _ H1 Hf1 s1 ⟨E1, by simp [Rep]⟩)⟩⟩
  · cases e3
theorem st_or {l r : Expr} {rest : List Expr} {a b : RE} (ha : PE X l (tE Y Φ a)) (hb : PE X (.BoolOp .Or (r :: rest) pos) (tE Y Φ b)) : PE X (.BoolOp .Or (l :: r :: rest) pos) (tE Y Φ (.or a b)) := by
  refine (pe_or (tE_F ha) hb).weak fun σ H Q ⟨Hf, ρ, τ, x, ρ', E, ev, k⟩ => ?_
  simp only [evE, Option.bind_eq_some_iff] at ev
  obtain ⟨p, ep, e3⟩ := ev
  split at e3
  · rename_i ei
    exact ⟨Hf, ρ, τ, p.1, p.2, E, ep, fun v H1 Hf1 s1 E1 rp => ⟨false, by rw [ei] at rp; simpa [Rep] using rp, iteF ⟨Hf1, p.2, τ, x, ρ', E1, e3, fun v H' Hf' s2 vr => k v H' Hf' (s1.trans s2) vr⟩⟩⟩
  · rename_i ei
    cases e3
    exact ⟨Hf, ρ, τ, p.1, p.2, E, ep, fun v H1 Hf1 s1 E1 rp => ⟨true, by rw [ei] at rp; simpa [Rep] using rp, iteT (k _ H1 Hf1 s1 ⟨E1, by simp [Rep]⟩)⟩⟩
  · cases e3
theorem st_ite {c l r : Expr} {t : RT} {a b : RE} (hc : PT X c (tT Y Φ t)) (ha : PE X l (tE Y Φ a)) (hb : PE X r (tE Y Φ b)) : PE X (.IfExp c l r pos) (tE Y Φ (.ite t a b)) := by
  refine (pe_ifExp hc ha hb).weak fun σ H Q ⟨Hf, ρ, τ, x, ρ', E, ev, k⟩ => ?_
  simp only [evE, Option.bind_eq_some_iff] at ev
  obtain ⟨p, ep, e3⟩ := ev
  refine ⟨Hf, ρ, τ, p.1, p.2, E, ep, fun H1 Hf1 s1 E1 => ?_⟩
  cases hp : p.1 with
  | true =>
    rw [hp, if_pos rfl] at e3
    exact iteT ⟨Hf1, p.2, τ, x, ρ', E1, e3, fun v H' Hf' s2 vr => k v H' Hf' (s1.trans s2) vr⟩
  | false =>
    rw [hp, if_neg Bool.false_ne_true] at e3
    exact iteF ⟨Hf1, p.2, τ, x, ρ', E1, e3, fun v H' Hf' s2 vr => k v H' Hf' (s1.trans s2) vr⟩
/-! lists of expressions -/
theorem st_nil : PA X [] (tL Y Φ []) := pa_nil.weak fun σ H Q ⟨Hf, ρ, τ, x, ρ', E, ev, k⟩ => by
  simp only [evL, Option.some.injEq, Prod.mk.injEq] at ev
  obtain ⟨rfl, rfl⟩ := ev
  exact k [] H Hf (.refl _) E .nil
theorem st_cons {e : Expr} {es : List Expr} {r : RE} {rs : List RE} (h : PE X e (tE Y Φ r)) (g : PA X es (tL Y Φ rs)) (hs : starEach (e :: es) X.env = (false, eval e X.env) :: starEach es X.env) : PA X (e :: es) (tL Y Φ (r :: rs)) :=
  (pa_cons (tE_F h) g hs).weak fun σ H Q ⟨Hf, ρ, τ, x, ρ', E, ev, k⟩ => by
    simp only [evL, Option.bind_eq_some_iff, Option.map_eq_some_iff] at ev
    obtain ⟨p, ep, q, eq, e3⟩ := ev
    cases e3
    exact ⟨Hf, ρ, τ, p.1, p.2, E, ep, fun v H1 Hf1 s1 E1 rp => ⟨Hf1, p.2, τ, q.1, q.2, E1, eq, fun vs H2 Hf2 s2 E2 rl => k _ H2 Hf2 (s1.trans s2) E2 (.cons (rp.mono s2) rl)⟩⟩
theorem st_pnil : PA X [] (tPs Y Φ []) := pa_nil.weak fun σ H Q ⟨Hf, ρ, τ, x, ρ', E, ev, k⟩ => by
  simp only [evPs, Option.some.injEq, Prod.mk.injEq] at ev
  obtain ⟨rfl, rfl⟩ := ev
  exact k [] H Hf (.refl _) E rfl
theorem st_pcons {e : Expr} {es : List Expr} {r : RP} {rs : List RP} (h : PE X e (tP Y Φ r)) (g : PA X es (tPs Y Φ rs)) (hs : starEach (e :: es) X.env = (false, eval e X.env) :: starEach es X.env) : PA X (e :: es) (tPs Y Φ (r :: rs)) :=
  (pa_cons h g hs).weak fun σ H Q ⟨Hf, ρ, τ, x, ρ', E, ev, k⟩ => by
    simp only [evPs, Option.bind_eq_some_iff, Option.map_eq_some_iff] at ev
    obtain ⟨p, ep, q, eq, e3⟩ := ev
    cases e3
    exact ⟨Hf, ρ, τ, p.1, p.2, E, ep, fun v H1 Hf1 s1 E1 rp => ⟨Hf1, p.2, τ, q.1, q.2, E1, eq, fun vs H2 Hf2 s2 E2 rl => k _ H2 Hf2 (s1.trans s2) E2 ⟨v, vs, rfl, rp.mono s2, rl⟩⟩⟩
theorem st_anil : PA X [] (tAr Y Φ []) := pa_nil.weak fun σ H Q ⟨Hf, ρ, τ, x, ρ', E, ev, k⟩ => by
  simp only [evA, Option.some.injEq, Prod.mk.injEq] at ev
  obtain ⟨rfl, rfl⟩ := ev
  exact k [] H Hf (.refl _) E rfl
theorem st_acons {e : Expr} {es : List Expr} {r : RE} {rs : List RA} (h : PE X e (tE Y Φ r)) (g : PA X es (tAr Y Φ rs)) (hs : starEach (e :: es) X.env = (false, eval e X.env) :: starEach es X.env) : PA X (e :: es) (tAr Y Φ (.e r :: rs)) :=
  (pa_cons (tE_F h) g hs).weak fun σ H Q ⟨Hf, ρ, τ, x, ρ', E, ev, k⟩ => by
    simp only [evA, Option.bind_eq_some_iff, Option.map_eq_some_iff] at ev
    obtain ⟨p, ep, q, eq, e3⟩ := ev
    cases e3
    exact ⟨Hf, ρ, τ, p.1, p.2, E, ep, fun v H1 Hf1 s1 E1 rp => ⟨Hf1, p.2, τ, q.1, q.2, E1, eq, fun vs H2 Hf2 s2 E2 rl => k _ H2 Hf2 (s1.trans s2) E2 ⟨v, vs, rfl, Rep.mono s2 _ _ rp, rl⟩⟩⟩
theorem st_aio {e : Expr} {es : List Expr} {i : Nat} {rs : List RA} (h : PE X e (tVar i)) (g : PA X es (tAr Y Φ rs)) (hs : starEach (e :: es) X.env = (false, eval e X.env) :: starEach es X.env) : PA X (e :: es) (tAr Y Φ (.io i :: rs)) :=
  (pa_cons h g hs).weak fun σ H Q ⟨Hf, ρ, τ, x, ρ', E, ev, k⟩ => by
    have go : ∀ a, σ[i]? = some (some (.ref a)) → ((evA Φ rs ρ).map fun q => (PA'.io i :: q.1, q.2)) = some (x, ρ') → tCons (tVar i) (tAr Y Φ rs) σ H Q := fun a ea e => by
      obtain ⟨q, eq, e3⟩ := Option.map_eq_some_iff.mp e
      cases e3
      exact ⟨.ref a, ea, ⟨Hf, ρ, τ, q.1, q.2, E, eq, fun vs H2 Hf2 s2 E2 rl => k _ H2 Hf2 s2 E2 ⟨_, vs, rfl, ea, rl⟩⟩⟩
    simp only [evA] at ev
    split at ev
    · rename_i d e
      obtain ⟨a, ea, _⟩ := E.own i d (getS_some e (by simp))
      exact go a ea ev
    · rename_i d e
      obtain ⟨a, ea, _⟩ := E.io i d (getS_some e (by simp))
      exact go a ea ev
    · cases ev
theorem st_tup {es : List Expr} {rs : List RE} {kk} (h : PA X es (tL Y Φ rs)) : PE X (.Tuple es kk pos) (tE Y Φ (.tup rs)) :=
  (pe_tup h).weak fun σ H Q ⟨Hf, ρ, τ, x, ρ', E, ev, k⟩ => by
    simp only [evE, Option.bind_eq_some_iff] at ev
    obtain ⟨p, ep, e3⟩ := ev
    split at e3
    · rename_i hz
      cases e3
      refine ⟨Hf, ρ, τ, p.1, p.2, E, ep, fun vs H1 Hf1 s1 E1 rl => ⟨by rw [← rl.len]; exact hz, fun a na => k _ _ _ (s1.trans (same_upd (E1.freshF na))) ⟨E1.grow na, ?_⟩⟩⟩
      simp only [Rep]
      exact ⟨a, vs, rfl, .inl (.inl upd_same), RepL.mono (same_upd (E1.freshF na)) _ _ rl⟩
    · cases e3
theorem st_lst {es : List Expr} {rs : List RE} (h : PA X es (tL Y Φ rs)) : PE X (.List es pos) (tE Y Φ (.lst rs)) :=
  (pe_lst h).weak fun σ H Q ⟨Hf, ρ, τ, x, ρ', E, ev, k⟩ => by
    simp only [evE, Option.bind_eq_some_iff] at ev
    obtain ⟨p, ep, e3⟩ := ev
    split at e3
    · rename_i hz
      cases e3
      exact ⟨Hf, ρ, τ, p.1, p.2, E, ep, fun vs H1 Hf1 s1 E1 rl => ⟨by rw [← rl.len]; exact hz, fun a na => k _ _ Hf1 s1 ⟨a, rfl, E1.lay na ⟨E1.freshF na, vs, upd_same, rl⟩⟩⟩⟩
    · cases e3
theorem st_dct0 : PE X (.Dict [] [] pos) (tE Y Φ .dct0) :=
  pe_dnewK.weak fun σ H Q ⟨Hf, ρ, τ, x, ρ', E, ev, k⟩ => by
    simp only [evE, Option.some.injEq, Prod.mk.injEq] at ev
    obtain ⟨rfl, rfl⟩ := ev
    intro a na
    exact k _ _ Hf (.refl _) ⟨a, rfl, E.lay na ⟨E.freshF na, [], upd_same, by simp [RepK]⟩⟩
theorem st_ix (hK : Y.K = X.K) {l r : Expr} {a : RP} {i : RE} (ha : PE X l (tP Y Φ a)) (hb : PE X r (tE Y Φ i)) (hs : PlainIx r) : PE X (.Subscript l r pos) (tE Y Φ (.ix a i)) :=
  (pe_ix ix_D ha (tE_F hb) hs).weak fun σ H Q ⟨Hf, ρ, τ, x, ρ', E, ev, k⟩ => by
    simp only [evE, Option.bind_eq_some_iff, Option.map_eq_some_iff] at ev
    obtain ⟨p, ep, q, eq, x1, ex, z, ez, e3⟩ := ev
    cases e3
    exact ⟨Hf, ρ, τ, p.1, p.2, E, ep, fun v H1 Hf1 s1 E1 pv => ⟨Hf1, p.2, τ, q.1, q.2, E1, eq, fun w H2 Hf2 s2 E2 rp => ⟨Hf2, x1, q.1.d, z, E2.sub, hK ▸ (pv.mono s2).res E2 ex, hK ▸ rp, ez, fun u ru => k u H2 Hf2 (s1.trans s2) ⟨E2, hK ▸ ru⟩⟩⟩⟩
theorem st_no : PO X none (tOp' Y Φ .no) := by
  refine ⟨fun pins s σ H Q I h => po_none.run pins s σ H Q I ?_⟩
  obtain ⟨Hf, ρ, τ, x, ρ', E, ev, k⟩ := h
  simp only [evO, Option.some.injEq, Prod.mk.injEq] at ev
  obtain ⟨rfl, rfl⟩ := ev
  exact k H Hf (.refl _) E
theorem st_some {e : Expr} {r : RE} (h : PE X e (tE Y Φ r)) : PO X (some e) (tOp' Y Φ (.e r)) := by
  refine ⟨fun pins s σ H Q I g => (po_some (tE_F h)).run pins s σ H Q I ?_⟩
  obtain ⟨Hf, ρ, τ, x, ρ', E, ev, k⟩ := g
  simp only [evO, Option.bind_eq_some_iff] at ev
  obtain ⟨p, ep, e3⟩ := ev
  split at e3
  · rename_i i ei
    cases e3
    exact ⟨Hf, ρ, τ, p.1, p.2, E, ep, fun v H1 Hf1 s1 E1 rp => ⟨i, by rw [ei] at rp; simpa [Rep] using rp, k H1 Hf1 s1 E1⟩⟩
  · cases e3
theorem st_sl (hK : Y.K = X.K) {l : Expr} {lo hi : Option Expr} {a : RP} {p q : RO} {p2 : Pos} (ha : PE X l (tP Y Φ a)) (h1 : PO X lo (tOp' Y Φ p)) (h2 : PO X hi (tOp' Y Φ q)) : PE X (.Subscript l (.Slice lo hi none p2) pos) (tE Y Φ (.sl a p q)) := by
  have ho := sl_D (X := X) (Y := Y)
  rw [yk hK] at ho
  refine (pe_slice ho ha h1 h2).weak fun σ H Q ⟨Hf, ρ, τ, x, ρ', E, ev, k⟩ => ?_
  simp only [evE, Option.bind_eq_some_iff, Option.map_eq_some_iff] at ev
  obtain ⟨p, ep, q, eq, r, er, x1, ex, z, ez, e3⟩ := ev
  cases e3
  exact ⟨Hf, ρ, τ, p.1, p.2, E, ep, fun v H1 Hf1 s1 E1 pv => ⟨Hf1, p.2, τ, q.1, q.2, E1, eq, fun H2 Hf2 s2 E2 => ⟨Hf2, q.2, τ, r.1, r.2, E2, er, fun H3 Hf3 s3 E3 =>
    ⟨Hf3, r.2, τ, σ, x1, x, E3, (pv.mono (s2.trans s3)).res E3 ex, ez, fun u H4 Hf4 s4 vr => k u H4 Hf4 (s1.trans (s2.trans (s3.trans s4))) vr⟩⟩⟩⟩
/-! tests -/
theorem st_tr (hK : Y.K = X.K) {e : Expr} {r : RP} (h : PE X e (tP Y Φ r)) (he : ∀ whole, isTrue e X.env whole = (do let v ← whole; standAt e.pos; holding [v] (truthy v))) : PT X e (tT Y Φ (.tr r)) :=
  (pt_truth h he).weak fun σ H Q ⟨Hf, ρ, τ, x, ρ', E, ev, k⟩ => by
    simp only [evT, Option.bind_eq_some_iff, Option.map_eq_some_iff] at ev
    obtain ⟨p, ep, x1, ex, b, eb, e3⟩ := ev
    cases e3
    exact ⟨Hf, ρ, τ, p.1, p.2, E, ep, fun v H1 Hf1 s1 E1 pv => ⟨x, tru_D E1.sub (hK ▸ pv.res E1 ex) eb, k H1 Hf1 s1 E1⟩⟩
theorem st_ntT {e : Expr} {t : RT} (h : PT X e (tT Y Φ t)) : PT X (.UnaryOp .Not e pos) (tT Y Φ (.nt t)) :=
  (pt_not h).weak fun σ H Q ⟨Hf, ρ, τ, x, ρ', E, ev, k⟩ => by
    simp only [evT, Option.map_eq_some_iff] at ev
    obtain ⟨p, ep, e3⟩ := ev
    cases e3
    exact ⟨Hf, ρ, τ, p.1, p.2, E, ep, fun H1 Hf1 s1 E1 => k H1 Hf1 s1 E1⟩
theorem st_andT {l r : Expr} {rest : List Expr} {a b : RT} (ha : PT X l (tT Y Φ a)) (hb : PW X (.BoolOp .And (r :: rest) pos) (tT Y Φ b)) : PW X (.BoolOp .And (l :: r :: rest) pos) (tT Y Φ (.and a b)) := by
  have w := pw_and ha hb
  refine ⟨fun wh pins s σ H Q I h => w.run wh pins s σ H Q I ?_⟩
  obtain ⟨Hf, ρ, τ, x, ρ', E, ev, k⟩ := h
  simp only [evT, Option.bind_eq_some_iff] at ev
  obtain ⟨p, ep, e3⟩ := ev
  refine ⟨Hf, ρ, τ, p.1, p.2, E, ep, fun H1 Hf1 s1 E1 => ?_⟩
  cases hp : p.1 with
  | true =>
    rw [hp, if_pos rfl] at e3
    exact iteT ⟨Hf1, p.2, τ, x, ρ', E1, e3, fun H' Hf' s2 vr => k H' Hf' (s1.trans s2) vr⟩
  | false =>
    rw [hp, if_neg Bool.false_ne_true] at e3
    cases e3
    exact iteF (k H1 Hf1 s1 E1)
theorem st_orT {l r : Expr} {rest : List Expr} {a b : RT} (ha : PT X l (tT Y Φ a)) (hb : PW X (.BoolOp .Or (r :: rest) pos) (tT Y Φ b)) : PW X (.BoolOp .Or (l :: r :: rest) pos) (tT Y Φ (.or a b)) := by
  have w := pw_or ha hb
  refine ⟨fun wh pins s σ H Q I h => w.run wh pins s σ H Q I ?_⟩
  obtain ⟨Hf, ρ, τ, x, ρ', E, ev, k⟩ := h
  simp only [evT, Option.bind_eq_some_iff] at ev
  obtain ⟨p, ep, e3⟩ := ev
  refine ⟨Hf, ρ, τ, p.1, p.2, E, ep, fun H1 Hf1 s1 E1 => ?_⟩
  cases hp : p.1 with
  | false =>
    rw [hp, if_neg Bool.false_ne_true] at e3
    exact iteF ⟨Hf1, p.2, τ, x, ρ', E1, e3, fun H' Hf' s2 vr => k H' Hf' (s1.trans s2) vr⟩
  | true =>
    rw [hp, if_pos rfl] at e3
    cases e3
    exact iteT (k H1 Hf1 s1 E1)
end
end PL

/-! PL7: calls: of the built-in functions, of the defs by their promises. -/
namespace PL
open PySem PySem.Spec PyProof.Rows L2
/-! ### arguments without stars -/
def noStar : Expr → Bool
  | .Starred _ _ => false
  | _ => true
theorem star_one {e : Expr} {es : List Expr} {env : PySem.Env} (h : noStar e = true) : starEach (e :: es) env = (false, eval e env) :: starEach es env := by
  cases e <;> first | rfl | exact absurd h Bool.false_ne_true
theorem star_any {pos : Pos} {env : PySem.Env} : ∀ {es : List Expr}, es.all noStar = true → (backTo pos (starEach es env)).any (·.1) = false
  | [], _ => rfl
  | e :: es, h => by
    rw [List.all_cons, Bool.and_eq_true] at h
    rw [star_one h.1]
    have ih := star_any (pos := pos) (env := env) h.2
    unfold backTo at ih ⊢
    rw [List.map_cons, List.any_cons, ih]
    rfl
/-! ### a def's promise -/
def ArgOk (K : PySem.W.Frag) (Hf H : Hp) : List AV → List V → Prop
  | [], vs => vs = []
  | .val d :: as, vs => ∃ v r, vs = v :: r ∧ Rep K Hf d v ∧ ArgOk K Hf H as r
  | .io d :: as, vs => ∃ a r, vs = .ref a :: r ∧ Own K Hf H a d ∧ ArgOk K Hf H as r
def ioAd : List AV → List V → List Addr
  | .val _ :: as, _ :: vs => ioAd as vs
  | .io _ :: as, .ref a :: vs => a :: ioAd as vs
  | _, _ => []
def OutOk (K : PySem.W.Frag) (Hf H : Hp) : List Addr → List D → Prop
  | [], ds => ds = []
  | a :: as, ds => ∃ d r, ds = d :: r ∧ Own K Hf H a d ∧ OutOk K Hf H as r
def ValOk (K : PySem.W.Frag) (Hf' H H' : Hp) : RV → V → Prop
  | .val d, v => Rep K Hf' d v
  | .own d, v => ∃ a, v = .ref a ∧ Own K Hf' H' a d ∧ H a = none
structure ExitOk (K : PySem.W.Frag) (Hf H : Hp) (ads : List Addr) (x : RV) (outs : List D) (v : V) (H' Hf' : Hp) : Prop where
  grow : Same Hf Hf'
  sub : Same Hf' H'
  keep : ∀ b o, H b = some o → b ∉ ads → H' b = some o
  new : ∀ b o, Hf' b = some o → Hf b = some o ∨ H b = none
  outs : OutOk K Hf' H' ads outs
  val : ValOk K Hf' H H' x v
def spOf (K : PySem.W.Frag) (Φ : Fn) (f : Nat) : Sp := fun vs H Q _ => ∃ (Hf : Hp) (as : List AV) (x : RV) (outs : List D), Same Hf H ∧ ArgOk K Hf H as vs ∧ (ioAd as vs).Nodup ∧ Φ f as = some (x, outs) ∧
  ∀ v H' Hf', ExitOk K Hf H (ioAd as vs) x outs v H' Hf' → Q v H'
structure FnG (P : Program) (w : World) (K : PySem.W.Frag) (mg : Str → Option Value) (base : Heap) (k : Nat) (f : Addr) (fd : FuncData) (ps : List Str) (sp : Sp) : Prop where
  len : ∀ vs H Q, sp vs H Q E0 → vs.length = ps.length
  run : ∀ (A : Around) (outer : List PySem.Env) (s : Shared) (H : Hp) (args : Args) (us : List Value) (vs : List V) (Q : VK), Room k A → A.guards = some [] → Env0 P w K mg base A outer s H →
    BindsTo s fd args (ps.zip us) → Vals vs us → sp vs H Q E0 → codeAny (model P w) A (.call (.ref f) args) (CR CX0 outer P w H s Q E0) s
section
variable {X : Cx} {k : Nat} {f : Addr} {fd : FuncData} {ps : List Str} {sp : Sp}
theorem run_G {pins : List (Addr × Obj)} {σ : SV} {H : Hp} {s : Shared} {Q : VK} {us us' : List Value} {kw : List (Str × Value)} {vs : List V} (F : FnG X.prog X.w X.K X.mg X.base k f fd ps sp) (hr : Room k X.A) (hg : X.A.guards = some [])
    (hb : BindsTo s fd ⟨us, kw⟩ (ps.zip us')) (I : Inv X pins σ H s) (r : Vals vs us') (h : sp vs H Q E0) : wpAny (model X.prog X.w) X.A (call (.ref f) us kw) (EP X pins σ Q) X.xe s := by
  have c := F.run X.A X.stack s H ⟨us, kw⟩ us' vs Q hr hg I.env0 hb r h
  refine wpAny_call (codeAny_mono c fun res s' q => ?_)
  match res, q with
  | .error e, q => exact False.elim q
  | .ok (.ret u), q => exact I.after q
end
/-- where a def of the table stands -/
structure FunAt (X : Cx) (Φ : Fn) (f : Nat) (x : Str) (np : Nat) : Prop where
  ex : ∃ (k : Nat) (a : Addr) (fd : FuncData) (ps : List Str), Room k X.A ∧ X.mg x = some (.ref a) ∧ PySem.W.keepIn X.K (.ref a) = true ∧ Binds X.K fd ps [] ∧ ps.length = np ∧
    FnG X.prog X.w X.K X.mg X.base k a fd ps (spOf X.K Φ f)
/-- .. called with keywords -/
structure KwAt (X : Cx) (Φ : Fn) (f : Nat) (x : Str) (n : Nat) (ks : List Str) (pm : List Nat) : Prop where
  ex : ∃ (k : Nat) (a : Addr) (fd : FuncData) (ps : List Str), Room k X.A ∧ X.mg x = some (.ref a) ∧ PySem.W.keepIn X.K (.ref a) = true ∧
    (∀ (s : Shared) (us ws : List Value), X.K.In s.heap → us.length = n → ws.length = ks.length → BindsTo s fd ⟨us, ks.zip ws⟩ (ps.zip (pm.filterMap fun i => (us ++ ws)[i]?))) ∧
    (∀ i ∈ pm, i < n + ks.length) ∧ FnG X.prog X.w X.K X.mg X.base k a fd ps (spOf X.K Φ f)

section
variable {Y : Yx} {ρ : Env} {τ : List (D × Addr)} {σ : SV} {H Hf : Hp}
theorem back_get : ∀ {is : List Nat} {ds : List D} {ρ ρ' : Env}, is.Nodup → backIo ρ is ds = some ρ' → ρ'.length = ρ.length ∧ (∀ j, j ∉ is → ρ'[j]? = ρ[j]?) ∧
    ∀ (n i : Nat), is[n]? = some i → ∃ d, ds[n]? = some d ∧ ((∃ e, ρ[i]? = some (.own e) ∧ ρ'[i]? = some (.own d)) ∨ ∃ e, ρ[i]? = some (.io e) ∧ ρ'[i]? = some (.io d))
  | [], ds, ρ, ρ', _, h => by
    cases ds with
    | nil => cases h; exact ⟨rfl, fun _ _ => rfl, fun n i e => by simp at e⟩
    | cons _ _ => cases h
  | i :: is, ds, ρ, ρ', nd, h => by
    cases ds with
    | nil => cases h
    | cons d ds =>
      obtain ⟨ni, nd'⟩ := List.nodup_cons.mp nd
      have main : ∀ (x x' : SD), ρ[i]? = some x → ((∃ e, x = .own e ∧ x' = .own d) ∨ ∃ e, x = .io e ∧ x' = .io d) → backIo (ρ.set i x') is ds = some ρ' → ρ'.length = ρ.length ∧ (∀ j, j ∉ i :: is → ρ'[j]? = ρ[j]?) ∧
          ∀ (n j : Nat), (i :: is)[n]? = some j → ∃ d', (d :: ds)[n]? = some d' ∧ ((∃ e, ρ[j]? = some (.own e) ∧ ρ'[j]? = some (.own d')) ∨ ∃ e, ρ[j]? = some (.io e) ∧ ρ'[j]? = some (.io d')) := fun x x' hx hxx h => by
        have hi : i < ρ.length := (List.getElem?_eq_some_iff.mp hx).1
        obtain ⟨l, o, b⟩ := back_get nd' h
        refine ⟨by rw [l, List.length_set], fun j hj => ?_, fun n j hn => ?_⟩
        · rw [List.mem_cons, not_or] at hj
          rw [o j hj.2, List.getElem?_set_ne (Ne.symm hj.1)]
        · cases n with
          | zero =>
            have e : i = j := Option.some.inj hn
            subst e
            have e2 : ρ'[i]? = some x' := by rw [o i ni, List.getElem?_set_self hi]
            refine ⟨d, rfl, ?_⟩
            rcases hxx with ⟨e, h1, h2⟩ | ⟨e, h1, h2⟩
            · exact .inl ⟨e, by rw [hx, h1], by rw [e2, h2]⟩
            · exact .inr ⟨e, by rw [hx, h1], by rw [e2, h2]⟩
          | succ n =>
            have hn' : is[n]? = some j := by simpa using hn
            have hji : i ≠ j := fun e => ni (by rw [e]; exact List.mem_of_getElem? hn')
            obtain ⟨d', e1, e2⟩ := b n j hn'
            rw [List.getElem?_set_ne hji] at e2
            exact ⟨d', by simpa using e1, e2⟩
      unfold backIo at h
      split at h
      · rename_i e he
        exact main _ _ (getS_some he (by simp)) (.inl ⟨e, rfl, rfl⟩) h
      · rename_i e he
        exact main _ _ (getS_some he (by simp)) (.inr ⟨e, rfl, rfl⟩) h
      · cases h
/-- behind a call -/
theorem ER.back (E : ER Y ρ τ σ H Hf) {is : List Nat} {ds : List D} {ads : List Addr} {ρ' : Env} {H' Hf' : Hp} (nd : is.Nodup) (h : backIo ρ is ds = some ρ') (ha : ∀ (n i : Nat), is[n]? = some i → ∃ a, ads[n]? = some a ∧ σ[i]? = some (some (.ref a)))
    (la : ads.length = is.length) (s1 : Same Hf Hf') (s2 : Same Hf' H') (kp : ∀ b o, H b = some o → b ∉ ads → H' b = some o) (nw : ∀ b o, Hf' b = some o → Hf b = some o ∨ H b = none) (ot : OutOk Y.K Hf' H' ads ds) : ER Y ρ' τ σ H' Hf' := by
  obtain ⟨l, oth, chg⟩ := back_get nd h
  have otn : ∀ {ads : List Addr} {ds : List D} {n : Nat} {a : Addr} {d : D}, OutOk Y.K Hf' H' ads ds → ads[n]? = some a → ds[n]? = some d → Own Y.K Hf' H' a d := by
    intro ads
    induction ads with
    | nil => intro ds n a d _ e; simp at e
    | cons b as ih =>
      intro ds n a d ok e1 e2
      obtain ⟨d0, r, rfl, w, ok'⟩ := ok
      cases n with
      | zero =>
        cases (Option.some.inj e1 : b = a)
        cases (Option.some.inj e2 : d0 = d)
        exact w
      | succ n => exact ih ok' (by simpa using e1) (by simpa using e2)
  -- the slots given: their lists
  have giv : ∀ {i : Nat}, i ∈ is → ∃ a d, a ∈ ads ∧ σ[i]? = some (some (.ref a)) ∧ Own Y.K Hf' H' a d ∧ ((∃ e, ρ[i]? = some (.own e) ∧ ρ'[i]? = some (.own d)) ∨ ∃ e, ρ[i]? = some (.io e) ∧ ρ'[i]? = some (.io d)) := fun {i} hi => by
    obtain ⟨n, hn⟩ := List.mem_iff_getElem?.mp hi
    obtain ⟨a, e1, e2⟩ := ha n i hn
    obtain ⟨d, e3, e4⟩ := chg n i hn
    exact ⟨a, d, List.mem_of_getElem? e1, e2, otn ot e1 e3, e4⟩
  have adn : ∀ {b : Addr}, b ∈ ads → ∃ i ∈ is, σ[i]? = some (some (.ref b)) ∧ Held ρ i := fun {b} hb => by
    obtain ⟨n, hn⟩ := List.mem_iff_getElem?.mp hb
    have hlt : n < is.length := by rw [← la]; exact (List.getElem?_eq_some_iff.mp hn).1
    obtain ⟨a, e1, e2⟩ := ha n is[n] (List.getElem?_eq_getElem hlt)
    rw [hn] at e1; cases e1
    obtain ⟨_, d, _, _, _, z⟩ := giv (List.getElem_mem hlt)
    refine ⟨is[n], List.getElem_mem hlt, e2, ?_⟩
    rcases z with ⟨e, z, _⟩ | ⟨e, z, _⟩
    · exact ⟨e, .inl z⟩
    · exact ⟨e, .inr z⟩
  have hh : ∀ {j}, Held ρ' j → Held ρ j := fun {j} h => by
    by_cases hj : j ∈ is
    · obtain ⟨_, d, _, _, _, z⟩ := giv hj
      rcases z with ⟨e, z, _⟩ | ⟨e, z, _⟩
      · exact ⟨e, .inl z⟩
      · exact ⟨e, .inr z⟩
    · obtain ⟨d, h⟩ := h
      rw [oth j hj] at h
      exact ⟨d, h⟩
  have off : ∀ {b : Addr} {e : D}, b ∉ ads → Own Y.K Hf H b e → Own Y.K Hf' H' b e := fun {b e} hb w => by
    obtain ⟨n, o, q⟩ := w.off
    refine w.mono s1 ?_ fun u h => kp b u h hb
    cases z : Hf' b with
    | none => rfl
    | some u =>
      rcases nw b u z with z | z
      · rw [n] at z; cases z
      · rw [q] at z; cases z
  have h0 : ∀ {b : Addr} {o : HO}, b ∈ ads → Y.H0 b = some o → b ∈ Y.I0.map (·.2) := fun {b o} hb ho => by
    obtain ⟨i, _, e, d, z⟩ := adn hb
    rcases z with z | z
    · obtain ⟨a, e1, _, n⟩ := E.own i d z
      rw [e] at e1; cases e1
      rw [ho] at n; cases n
    · obtain ⟨a, e1, _, n⟩ := E.io i d z
      rw [e] at e1; cases e1
      exact List.mem_map.mpr ⟨_, n, rfl⟩
  have nad : ∀ {i : Nat} {a : Addr}, i ∉ is → Held ρ i → σ[i]? = some (some (.ref a)) → a ∉ ads := fun {i a} hi hd e ha => by
    obtain ⟨j, hj, e2, hd2⟩ := adn ha
    exact hi (E.ap i j a hd hd2 e e2 ▸ hj)
  refine ⟨s2, E.base.trans s1, fun b o q hb => ?_, fun b o q => ?_, by rw [l]; exact E.len, fun i d q => ?_, fun i d q => ?_, fun i d q => ?_, fun p hp => ?_, fun i j a h1 h2 => E.ap i j a (hh h1) (hh h2), fun t ht => ?_, E.tnd, fun i a h1 => E.tap i a (hh h1)⟩
  · refine kp b o (E.keep b o q hb) fun ha => hb (h0 ha q)
  · rcases nw b o q with z | z
    · exact E.new b o z
    · exact .inr (E.fresh z)
  · by_cases hi : i ∈ is
    · obtain ⟨_, d', _, _, _, z⟩ := giv hi
      rcases z with ⟨e, _, z⟩ | ⟨e, _, z⟩ <;> rw [q] at z <;> cases z
    · rw [oth i hi] at q
      obtain ⟨v, e, r⟩ := E.val i d q
      exact ⟨v, e, r.mono s1⟩
  · by_cases hi : i ∈ is
    · obtain ⟨a, d', _, e1, w, z⟩ := giv hi
      rcases z with ⟨e, z0, z⟩ | ⟨e, z0, z⟩ <;> rw [q] at z <;> cases z
      obtain ⟨a', e2, _, n⟩ := E.own i e z0
      rw [e1] at e2; cases e2
      exact ⟨a, e1, w, n⟩
    · rw [oth i hi] at q
      obtain ⟨a, e, w, n⟩ := E.own i d q
      exact ⟨a, e, off (nad hi ⟨d, .inl q⟩ e) w, n⟩
  · by_cases hi : i ∈ is
    · obtain ⟨a, d', _, e1, w, z⟩ := giv hi
      rcases z with ⟨e, z0, z⟩ | ⟨e, z0, z⟩ <;> rw [q] at z <;> cases z
      obtain ⟨a', e2, _, n⟩ := E.io i e z0
      rw [e1] at e2; cases e2
      exact ⟨a, e1, w, n⟩
    · rw [oth i hi] at q
      obtain ⟨a, e, w, n⟩ := E.io i d q
      exact ⟨a, e, off (nad hi ⟨d, .inr q⟩ e) w, n⟩
  · obtain ⟨d, e1, e2⟩ := E.iob p hp
    by_cases hi : p.1 ∈ is
    · obtain ⟨a, d', _, _, _, z⟩ := giv hi
      rcases z with ⟨e, z0, z⟩ | ⟨e, z0, z⟩
      · rw [e1] at z0; cases z0
      · exact ⟨d', z, e2⟩
    · exact ⟨d, by rw [oth _ hi]; exact e1, e2⟩
  · obtain ⟨w, n⟩ := E.tmp t ht
    refine ⟨off (fun ha => ?_) w, n⟩
    obtain ⟨i, _, e, hd⟩ := adn ha
    exact E.tap i t.2 hd e (List.mem_map.mpr ⟨t, ht, rfl⟩)
/-- arguments as the callee wants them -/
theorem args_ok (E : ER Y ρ τ σ H Hf) : ∀ {ps : List PA'} {vs : List V} {as : List AV}, ARs Y σ Hf ps vs → resArgs ρ ps = some as → ArgOk Y.K Hf H as vs ∧ (ioAd as vs).length = (iosOf ps).length ∧
    (∀ (n i : Nat), (iosOf ps)[n]? = some i → ∃ a, (ioAd as vs)[n]? = some a ∧ σ[i]? = some (some (.ref a)) ∧ Held ρ i)
  | [], vs, as, h, e => by
    cases e
    have h : vs = [] := h
    subst h
    exact ⟨rfl, rfl, fun n i e => by simp [iosOf] at e⟩
  | .val d :: ps, vs, as, ⟨v, r, e0, h, g⟩, e => by
    subst e0
    unfold resArgs at e
    obtain ⟨as', e1, e2⟩ := map_some' e
    subst e2
    obtain ⟨a1, a2, a3⟩ := args_ok E g e1
    exact ⟨⟨v, r, rfl, h, a1⟩, by simpa [ioAd, iosOf] using a2, fun n i e => by simpa [ioAd] using a3 n i (by simpa [iosOf] using e)⟩
  | .io i :: ps, vs, as, ⟨v, r, e0, h, g⟩, e => by
    subst e0
    have h : σ[i]? = some (some v) := h
    have go : ∀ {d : D} {a : Addr}, σ[i]? = some (some (.ref a)) → Own Y.K Hf H a d → Held ρ i → (resArgs ρ ps).map (AV.io d :: ·) = some as → ArgOk Y.K Hf H as (v :: r) ∧ (ioAd as (v :: r)).length = (iosOf (PA'.io i :: ps)).length ∧
        (∀ (n j : Nat), (iosOf (PA'.io i :: ps))[n]? = some j → ∃ a, (ioAd as (v :: r))[n]? = some a ∧ σ[j]? = some (some (.ref a)) ∧ Held ρ j) := fun {d a} ea w hd q => by
      rw [h] at ea; cases ea
      obtain ⟨as', e1, e2⟩ := map_some' q
      subst e2
      obtain ⟨a1, a2, a3⟩ := args_ok E g e1
      refine ⟨⟨a, r, rfl, w, a1⟩, by simpa [ioAd, iosOf] using a2, fun n j e => ?_⟩
      cases n with
      | zero =>
        have e' : i = j := Option.some.inj e
        subst e'
        exact ⟨a, rfl, h, hd⟩
      | succ n => exact a3 n j (by simpa [iosOf] using e)
    unfold resArgs at e
    split at e
    · rename_i d e'
      obtain ⟨a, ea, w, _⟩ := E.own i d (getS_some e' (by simp))
      exact go ea w ⟨d, .inl (getS_some e' (by simp))⟩ e
    · rename_i d e'
      obtain ⟨a, ea, w, _⟩ := E.io i d (getS_some e' (by simp))
      exact go ea w ⟨d, .inr (getS_some e' (by simp))⟩ e
    · cases e
theorem call_ok {Φ : Fn} {f : Nat} {ps : List PA'} {vs : List V} {x : RV} {ρ' : Env} {Q : VK} (E : ER Y ρ τ σ H Hf) (h : ARs Y σ Hf ps vs) (e : callD Φ f ps ρ = some (x, ρ')) (k : ∀ v H' Hf', Same Hf Hf' → VR Y x v ρ' τ σ H' Hf' → Q v H') :
    spOf Y.K Φ f vs H Q E0 := by
  unfold callD at e
  split at e
  · rename_i nd
    split at e
    · rename_i as er
      split at e
      · rename_i y outs ef
        obtain ⟨ρ2, eb, e2⟩ := map_some' e
        cases e2
        obtain ⟨a1, a2, a3⟩ := args_ok E h er
        have nda : (ioAd as vs).Nodup := by
          refine List.pairwise_iff_getElem.mpr fun i j hi hj hij he => ?_
          have hi' : i < (iosOf ps).length := by rw [← a2]; exact hi
          have hj' : j < (iosOf ps).length := by rw [← a2]; exact hj
          obtain ⟨b, c1, c2, c3⟩ := a3 i _ (List.getElem?_eq_getElem hi')
          obtain ⟨b', c1', c2', c3'⟩ := a3 j _ (List.getElem?_eq_getElem hj')
          rw [List.getElem?_eq_getElem hi] at c1
          rw [List.getElem?_eq_getElem hj, ← he] at c1'
          cases c1
          cases c1'
          exact List.pairwise_iff_getElem.mp nd i j hi' hj' hij (E.ap _ _ _ c3 c3' c2 c2')
        refine ⟨Hf, as, x, outs, E.sub, a1, nda, ef, fun v H' Hf' ex => k v H' Hf' ex.grow ?_⟩
        have E2 : ER Y ρ' τ σ H' Hf' := E.back nd eb (fun n i q => by obtain ⟨a, c1, c2, _⟩ := a3 n i q; exact ⟨a, c1, c2⟩) a2 ex.grow ex.sub ex.keep ex.new ex.outs
        cases x with
        | val d => exact ⟨E2, ex.val⟩
        | own d =>
          obtain ⟨a, rfl, w, n⟩ := ex.val
          refine ⟨a, rfl, ⟨E2.sub, E2.base, E2.keep, E2.new, E2.len, E2.val, E2.own, E2.io, E2.iob, E2.ap, fun t ht => ?_, ?_, fun i b hd eq' hm => ?_⟩⟩
          · rcases List.mem_cons.mp ht with rfl | ht
            · exact ⟨w, E.fresh n⟩
            · exact E2.tmp t ht
          · refine List.nodup_cons.mpr ⟨fun hm => ?_, E2.tnd⟩
            obtain ⟨t, ht, et⟩ := List.mem_map.mp hm
            obtain ⟨_, o, q⟩ := (E.tmp t ht).1.off
            rw [et, n] at q; cases q
          · rcases List.mem_cons.mp hm with z | z
            · have z : b = a := z
              obtain ⟨l, oth, chg⟩ := back_get nd eb
              have hold : Held ρ i := by
                by_cases hi : i ∈ iosOf ps
                · obtain ⟨m, hm⟩ := List.mem_iff_getElem?.mp hi
                  exact (a3 m i hm).choose_spec.2.2
                · obtain ⟨d', hd⟩ := hd
                  rw [oth i hi] at hd
                  exact ⟨d', hd⟩
              obtain ⟨b', d', e4, w4⟩ := E.held hold
              rw [eq'] at e4; cases e4
              obtain ⟨_, o, q⟩ := w4.off
              rw [z, n] at q; cases q
            · exact E2.tap i b hd eq' z
      · cases e
    · cases e
  · cases e
end
end PL

/-! PL8: steps for calls, for targets, for what is walked. -/
namespace PL
open PySem PySem.Spec PyProof.Rows L2
section
variable {X : Cx} {Y : Yx} {Φ : Fn} {pos : Pos}
theorem st_blt (hK : Y.K = X.K) (hc : X.calm = true) (hgd : X.A.guards = some []) (hu : X.A.units + 200 < cLine) {b : Blt} {x : Str} {p : Pos} {e : Expr} {es : List Expr} {rs : List RP} (ha : PA X (e :: es) (tPs Y Φ rs)) (hg : Gl X x) (hm : X.mg x = none)
    (hv : bootBuiltins x = some (bvOf b)) (hn : x ≠ "__name__") (hdb : (x == ("__debug__" : Str)) = false) (hs : (e :: es).all noStar = true) : PE X (.Call (.Name x p) (e :: es) [] pos) (tE Y Φ (.blt b rs)) := by
  have hc' := call_D (X := X) (Y := Y) hc hgd hu b
  rw [yk hK] at hc'
  rw [List.all_cons, Bool.and_eq_true] at hs
  have main : PE X (.Call (.Name x p) (e :: es) [] pos) (tCB (rBlt Y b) (tPs Y Φ rs)) := by
    cases b <;> first
      | exact pe_callB hc' hg hm hv ha hn hdb (star_one hs.1) (star_any hs.2)
      | exact pe_callTy hc' hg hm hv ha hn hdb (star_one hs.1) (star_any hs.2)
  refine main.weak fun σ H Q ⟨Hf, ρ, τ, r, ρ', E, ev, k⟩ => ?_
  simp only [evE, Option.bind_eq_some_iff, Option.map_eq_some_iff] at ev
  obtain ⟨q, eq, ds, ed, z, ez, e3⟩ := ev
  cases e3
  exact ⟨Hf, ρ, τ, q.1, q.2, E, eq, fun vs H1 Hf1 s1 E1 pv => ⟨Hf1, q.2, τ, σ, ds, r, E1, pv.res E1 ed, ez, fun v H' Hf' s2 vr => k v H' Hf' (s1.trans s2) vr⟩⟩
/-- isinstance -/
theorem st_isi (hK : Y.K = X.K) {p : Pos} {e t : Expr} {a : RP} {n : String} (ha : PE X e (tP Y Φ a)) (ht : PE X t (tC (.ty n))) (ho : tyOk n = true) (hg : Gl X "isinstance") (hm : X.mg "isinstance" = none) (hs : noStar e = true) (hs2 : noStar t = true) :
    PE X (.Call (.Name "isinstance" p) [e, t] [] pos) (tE Y Φ (.isi a [n])) := by
  have hst : [t].all noStar = true := by rw [List.all_cons, hs2]; rfl
  refine (pe_callB call_isi hg hm (by decide +kernel) (pa_cons ha (pa_cons ht pa_nil (star_one hs2)) (star_one hs)) (by decide) (by decide) (star_one hs) (star_any hst)).weak fun σ H Q ⟨Hf, ρ, τ, r, ρ', E, ev, k⟩ => ?_
  simp only [evE, Option.bind_eq_some_iff, Option.map_eq_some_iff] at ev
  obtain ⟨q, eq, d, ed, e3⟩ := ev
  cases e3
  exact ⟨Hf, ρ, τ, q.1, q.2, E, eq, fun v H1 Hf1 s1 E1 pv => ⟨v, .ty n, _, _, _, rfl, .ty n, tyX_D E1.sub (hK ▸ pv.res E1 ed), kit_D d ho, k _ H1 Hf1 s1 ⟨E1, by simp [Rep]⟩⟩⟩
theorem clsv_all : ∀ tys : List String, Paired ClsV (tys.map V.ty) (tys.map Value.type)
  | [] => .nil
  | t :: ts => .cons (.ty t) (clsv_all ts)
theorem st_isiT (hK : Y.K = X.K) {p tp : Pos} {kk} {e : Expr} {ts : List Expr} {a : RP} {tys : List String} (ha : PE X e (tP Y Φ a)) (ht : PA X ts (fun _ H Q => Q (tys.map V.ty) H)) (ho : tys.all tyOk = true) (hz : tys.length ≤ sizeLine) (hg : Gl X "isinstance") (hm : X.mg "isinstance" = none)
    (hs : noStar e = true) : PE X (.Call (.Name "isinstance" p) [e, .Tuple ts kk tp] [] pos) (tE Y Φ (.isi a tys)) := by
  refine (pe_callB call_isiT hg hm (by decide +kernel) (pa_cons ha (pa_cons (pe_tup ht) pa_nil (star_one rfl)) (star_one hs)) (by decide) (by decide) (star_one hs) (star_any rfl)).weak fun σ H Q ⟨Hf, ρ, τ, r, ρ', E, ev, k⟩ => ?_
  simp only [evE, Option.bind_eq_some_iff, Option.map_eq_some_iff] at ev
  obtain ⟨q, eq, d, ed, e3⟩ := ev
  cases e3
  refine ⟨Hf, ρ, τ, q.1, q.2, E, eq, fun v H1 Hf1 s1 E1 pv => ⟨by rw [List.length_map]; exact hz, fun b nb => ?_⟩⟩
  have E2 := E1.grow (o := .tup (tys.map V.ty)) nb
  have sm := same_upd (o := .tup (tys.map V.ty)) (E1.freshF nb)
  exact ⟨v, b, tys.map V.ty, _, _, _, rfl, upd_same, clsv_all tys, tyX_D E2.sub (hK ▸ (pv.mono sm).res E2 ed), kitAny_D d ho, k _ _ _ (s1.trans sm) ⟨E2, by simp [Rep]⟩⟩
theorem st_get2 (hu : X.A.units + 1 < cLine) {o e f : Expr} {apos cpos : Pos} {a : RP} {i j : RE} (ho : PE X o (tP Y Φ a)) (he : PE X e (tE Y Φ i)) (hf : PE X f (tE Y Φ j)) (m : M2 X o "get" apos e f cpos) : PE X (.Call (.Attribute o "get" apos) [e, f] [] cpos) (tE Y Φ (.get2 a i j)) := by
  refine (pe_dget2 hu ho (tE_F he) (tE_F hf) m).weak fun σ H Q ⟨Hf, ρ, τ, r, ρ', E, ev, k⟩ => ?_
  simp only [evE, Option.bind_eq_some_iff] at ev
  obtain ⟨p, ep, ev⟩ := ev
  split at ev
  · rename_i hd
    simp only [Option.bind_eq_some_iff] at ev
    obtain ⟨q, eq, r1, er, x, ex, ev⟩ := ev
    split at ev
    · rename_i kvs
      split at ev
      · rename_i hk
        cases ev
        obtain ⟨kk, ek⟩ := Option.isSome_iff_exists.mp hk
        refine ⟨Hf, ρ, τ, p.1, p.2, E, ep, fun v H1 Hf1 s1 E1 pv => ?_⟩
        cases e1 : p.1.res p.2 with
        | none => rw [e1] at hd; exact absurd hd Bool.false_ne_true
        | some d1 =>
          rw [e1] at hd
          have pk1 := pv.res E1 e1
          cases d1 <;> simp only [Option.map_some, Option.getD_some, isDic] at hd <;> try exact absurd hd Bool.false_ne_true
          obtain ⟨b, ks1, eb, hb, _⟩ := pk1
          subst eb
          refine ⟨b, rfl, .inl ⟨ks1, .inl hb⟩, ⟨Hf1, p.2, τ, q.1, q.2, E1, eq, fun w H2 Hf2 s2 E2 rw' => ⟨Hf2, q.2, τ, r1.1, r1.2, E2, er, fun z H3 Hf3 s3 E3 rz => ?_⟩⟩⟩
          obtain ⟨b', ks, eb', hb', rk⟩ := (pv.mono (s2.trans s3)).res E3 ex
          cases eb'
          have ew := keyOf_rep ek rw'
          have ed := keyOf_ok ek
          obtain ⟨g1, g2⟩ := getK_ok (k := kk) rk
          refine ⟨valV ks kk, by rw [ew]; exact .k hb', ?_⟩
          rw [ed] at k
          cases eg : getK kvs (ofKey kk) with
          | none =>
            rw [g2 eg]
            exact k z H3 Hf3 (s1.trans (s2.trans s3)) ⟨E3, by rw [eg]; exact rz⟩
          | some d2 =>
            obtain ⟨v2, ev2, rv2⟩ := g1 d2 eg
            rw [ev2]
            exact k v2 H3 Hf3 (s1.trans (s2.trans s3)) ⟨E3, by rw [eg]; exact rv2⟩
      · cases ev
    · cases ev
  · cases ev
/-- a call of a def, by places -/
theorem st_call (hK : Y.K = X.K) (hgd : X.A.guards = some []) {f : Nat} {xs : String} {x : Str} {p : Pos} {es : List Expr} {rs : List RA} (ha : PA X es (tAr Y Φ rs)) (hg : Gl X x) (F : FunAt X Φ f x es.length) (hdb : (x == ("__debug__" : Str)) = false) (hs : es.all noStar = true) (hrl : rs.length = es.length)
    : PE X (.Call (.Name x p) es [] pos) (tE Y Φ (.call f xs rs)) := by
  obtain ⟨k, a, fd, ps, hr, hm, kp, hb, hl, G⟩ := F.ex
  refine ⟨fun pins s σ H Q I h => ?_⟩
  obtain ⟨Hf, ρ, τ, r, ρ', E, ev, kk⟩ := h
  simp only [evE, Option.bind_eq_some_iff] at ev
  obtain ⟨q, eq, e3⟩ := ev
  have args : tAr Y Φ rs σ H fun vs H1 => spOf Y.K Φ f vs H1 Q E0 := ⟨Hf, ρ, τ, q.1, q.2, E, eq, fun vs H1 Hf1 s1 E1 ar => call_ok E1 ar e3 fun v H' Hf' s2 vr => kk v H' Hf' (s1.trans s2) vr⟩
  rw [hK] at args
  have fin : ∀ (us : List Value) (s1 : Shared) (vs : List V) (H1 : Hp), Inv X pins σ H1 s1 → Vals vs us → spOf X.K Φ f vs H1 Q E0 → wpAny (model X.prog X.w) X.A (call (.ref a) us) (EP X pins σ Q) X.xe s1 := fun us s1 vs H1 I1 rv q1 => by
    have hlen : (us ++ []).length = ps.length := by rw [List.append_nil, ← rv.length]; exact G.len vs H1 Q q1
    exact run_G G hr hgd (hb s1 us I1.kIn hlen) I1 (by rw [List.append_nil]; exact rv) q1
  refine wpAny_Call_Name_kw (ld_glob I hg hm ?_ hdb)
  cases es with
  | nil =>
    exact PySem.W.callWith_K0 I.kIn kp (by
      obtain ⟨Hf, ρ, τ, ps', ρ1, E, ev, k1⟩ := args
      cases rs with
      | nil =>
        simp only [evA, Option.some.injEq, Prod.mk.injEq] at ev
        obtain ⟨rfl, rfl⟩ := ev
        exact fin [] s [] H I .nil (k1 [] H Hf (.refl _) E rfl)
      | cons r rs => cases hrl)
  | cons e es =>
    rw [List.all_cons, Bool.and_eq_true] at hs
    exact PySem.W.callWith_K (h₀ := X.base) I.ok.mod.kin kp (thn (ha.run pos pins s σ H _ I args) fun us s1 ⟨vs, H1, I1, rv, q1⟩ => ⟨I1.kIn, fin us s1 vs H1 I1 rv q1⟩) (star_one hs.1) (star_any hs.2)

/-! ### calls with keywords -/
theorem st_knil : PK X [] (tL Y Φ []) := ⟨fun p pins s σ H Q I ⟨Hf, ρ, τ, x, ρ', E, ev, k⟩ => pk_nil.run p pins s σ H Q I (by
  simp only [evL, Option.some.injEq, Prod.mk.injEq] at ev
  obtain ⟨rfl, rfl⟩ := ev
  exact k [] H Hf (.refl _) E .nil)⟩
theorem st_kcons {nm : Option Str} {kpos : Pos} {e : Expr} {kws : List Keyword} {r : RE} {rs : List RE} (h : PE X e (tE Y Φ r)) (g : PK X kws (tL Y Φ rs)) : PK X (⟨nm, e, kpos⟩ :: kws) (tL Y Φ (r :: rs)) :=
  ⟨fun p pins s σ H Q I ⟨Hf, ρ, τ, x, ρ', E, ev, k⟩ => (pk_cons (tE_F h) g).run p pins s σ H Q I (by
    simp only [evL, Option.bind_eq_some_iff, Option.map_eq_some_iff] at ev
    obtain ⟨p, ep, q, eq, e3⟩ := ev
    cases e3
    exact ⟨Hf, ρ, τ, p.1, p.2, E, ep, fun v H1 Hf1 s1 E1 rp => ⟨Hf1, p.2, τ, q.1, q.2, E1, eq, fun vs H2 Hf2 s2 E2 rl => k _ H2 Hf2 (s1.trans s2) E2 (.cons (rp.mono s2) rl)⟩⟩)⟩
def kwIs : List Str → List Keyword → Bool
  | [], [] => true
  | n :: ns, ⟨some m, _, _⟩ :: kws => m == n && kwIs ns kws
  | _, _ => false
theorem kw_facts {env : PySem.Env} : ∀ {ns : List Str} {kws : List Keyword}, kwIs ns kws = true →
    (backToKw pos (keywordEach kws env)).all (·.1.isSome) = true ∧ (backToKw pos (keywordEach kws env)).filterMap (·.1) = ns ∧ (backToKw pos (keywordEach kws env)).any (·.1.isNone) = false
  | [], [], _ => ⟨rfl, rfl, rfl⟩
  | n :: ns, ⟨some m, v, p⟩ :: kws, h => by
    simp only [kwIs, Bool.and_eq_true, beq_iff_eq] at h
    obtain ⟨h1, h2⟩ := h
    obtain ⟨a, b, c⟩ := kw_facts (env := env) h2
    subst h1
    unfold backToKw at a b c ⊢
    refine ⟨?_, ?_, ?_⟩
    · simp only [keywordEach, List.map_cons, List.all_cons, Option.isSome_some, Bool.true_and]
      exact a
    · simp only [keywordEach, List.map_cons, List.filterMap_cons]
      rw [b]
    · simp only [keywordEach, List.map_cons, List.any_cons, Option.isNone_some, Bool.false_or]
      exact c
  | [], _ :: _, h => by cases h
  | _ :: _, [], h => by cases h
  | _ :: _, ⟨none, _, _⟩ :: _, h => by cases h
theorem ARs.append {Hf : Hp} {σ : SV} : ∀ {ps qs : List PA'} {vs ws : List V}, ARs Y σ Hf ps vs → ARs Y σ Hf qs ws → ARs Y σ Hf (ps ++ qs) (vs ++ ws)
  | [], _, _, _, h, g => by
    have h : _ = [] := h
    subst h
    exact g
  | p :: ps, qs, _, ws, ⟨v, r, e, h, t⟩, g => by
    subst e
    exact ⟨v, r ++ ws, rfl, h, ARs.append t g⟩
theorem ARs.vals {Hf : Hp} {σ : SV} : ∀ {ds : List D} {vs : List V}, RepL Y.K Hf ds vs → ARs Y σ Hf (ds.map .val) vs
  | [], vs, h => by
    simp only [RepL] at h
    exact h
  | d :: ds, vs, h => by
    simp only [RepL] at h
    obtain ⟨v, r, rfl, h1, h2⟩ := h
    exact ⟨v, r, rfl, h1, ARs.vals h2⟩
theorem ARs.get {Hf : Hp} {σ : SV} : ∀ {ps : List PA'} {vs : List V} {i : Nat} {p : PA'}, ARs Y σ Hf ps vs → ps[i]? = some p → ∃ v, vs[i]? = some v ∧ AR Y σ Hf p v
  | [], _, _, _, _, e => by simp at e
  | q :: ps, _, 0, p, ⟨v, r, e0, h, _⟩, e => by
    subst e0
    cases (Option.some.inj e : q = p)
    exact ⟨v, rfl, h⟩
  | q :: ps, _, i + 1, p, ⟨v, r, e0, _, t⟩, e => by
    subst e0
    obtain ⟨w, e1, h⟩ := ARs.get (i := i) t (by simpa using e)
    exact ⟨w, by simpa using e1, h⟩
theorem ARs.perm {Hf : Hp} {σ : SV} {ps : List PA'} {vs : List V} (h : ARs Y σ Hf ps vs) : ∀ {pm : List Nat} {qs : List PA'}, permute ps pm = some qs → ARs Y σ Hf qs (pm.filterMap fun i => vs[i]?)
  | [], qs, e => by
    have e : some [] = some qs := e
    cases e
    rfl
  | i :: pm, qs, e => by
    unfold permute at e
    rw [List.mapM_cons] at e
    cases e1 : ps[i]? with
    | none => rw [e1] at e; cases e
    | some p =>
      rw [e1] at e
      cases e2 : pm.mapM (fun i => ps[i]?) with
      | none => rw [e2] at e; cases e
      | some t =>
        rw [e2] at e
        have e : some (p :: t) = some qs := e
        cases e
        obtain ⟨v, ev, r⟩ := h.get e1
        rw [List.filterMap_cons, ev]
        exact ⟨v, _, rfl, r, ARs.perm h e2⟩
theorem vals_perm {vs : List V} {us : List Value} (r : Vals vs us) : ∀ pm : List Nat, Vals (pm.filterMap fun i => vs[i]?) (pm.filterMap fun i => us[i]?)
  | [] => .nil
  | i :: pm => by
    rw [List.filterMap_cons, List.filterMap_cons]
    cases e : vs[i]? with
    | none => rw [r.none_of e]; exact vals_perm r pm
    | some v =>
      obtain ⟨u, eu, ru⟩ := r.get e
      rw [eu]
      exact .cons ru (vals_perm r pm)
theorem st_callK (hK : Y.K = X.K) (hgd : X.A.guards = some []) {f : Nat} {xs : String} {x : Str} {p : Pos} {es : List Expr} {rs : List RA} {kws : List Keyword} {ks : List String} {ws : List RE} {pm : List Nat} (ha : PA X es (tAr Y Φ rs)) (hk : PK X kws (tL Y Φ ws)) (hg : Gl X x)
    (F : KwAt X Φ f x es.length (ks.map Str.ofString) pm) (hdb : (x == ("__debug__" : Str)) = false) (hs : es.all noStar = true) (hrl : rs.length = es.length) (hkw : kwIs (ks.map Str.ofString) kws = true) (hwl : ws.length = ks.length) :
    PE X (.Call (.Name x p) es kws pos) (tE Y Φ (.callK f xs rs ks ws pm)) := by
  obtain ⟨k, a, fd, ps, hr, hm, kp, hb, hpm, G⟩ := F.ex
  refine ⟨fun pins s σ H Q I h => ?_⟩
  obtain ⟨Hf, ρ, τ, r, ρ', E, ev, kk⟩ := h
  simp only [evE, Option.bind_eq_some_iff] at ev
  obtain ⟨q, eq, w, ew, as, eas, e3⟩ := ev
  have args : tAr Y Φ rs σ H fun vs H1 => vs.length = es.length ∧ tL Y Φ ws σ H1 fun zs H2 => zs.length = ks.length ∧ spOf X.K Φ f (pm.filterMap fun i => (vs ++ zs)[i]?) H2 Q E0 := ⟨Hf, ρ, τ, q.1, q.2, E, eq, fun vs H1 Hf1 s1 E1 ar => ⟨?_, ⟨Hf1, q.2, τ, w.1, w.2, E1, ew, fun zs H2 Hf2 s2 E2 rl => ⟨?_, ?_⟩⟩⟩⟩
  · obtain ⟨b1, b2, b3⟩ := kw_facts (pos := pos) (env := X.env) hkw
    have fin : ∀ (us ws' : List Value) (s1 : Shared) (vs zs : List V) (H1 : Hp), Inv X pins σ H1 s1 → Vals vs us → Vals zs ws' → vs.length = es.length → zs.length = ks.length → spOf X.K Φ f (pm.filterMap fun i => (vs ++ zs)[i]?) H1 Q E0 →
        wpAny (model X.prog X.w) X.A (call (.ref a) us ((ks.map Str.ofString).zip ws')) (EP X pins σ Q) X.xe s1 := fun us ws' s1 vs zs H1 I1 rv rz l1 l2 q1 =>
      run_G G hr hgd (hb s1 us ws' I1.kIn (by rw [← rv.length]; exact l1) (by rw [← rz.length, List.length_map]; exact l2)) I1 (vals_perm (rv.append rz) pm) q1
    refine wpAny_Call_Name_kw (ld_glob I hg hm ?_ hdb)
    cases es with
    | nil =>
      cases rs with
      | cons _ _ => cases hrl
      | nil =>
        obtain ⟨Hf, ρ, τ, ps', ρ1, E, ev, k1⟩ := args
        simp only [evA, Option.some.injEq, Prod.mk.injEq] at ev
        obtain ⟨rfl, rfl⟩ := ev
        obtain ⟨l1, k2⟩ := k1 [] H Hf (.refl _) E rfl
        refine PySem.W.callWith_KW0 (h₀ := X.base) I.ok.mod.kin kp b1 (thn (hk.run pos pins s σ H _ I k2) fun ws' s2 ⟨zs, H2, I2, rz, l2, q2⟩ => ⟨I2.kIn, ?_⟩) (by rw [b3]; rfl)
        rw [b2]
        exact fin [] ws' s2 [] zs H2 I2 .nil rz l1 l2 q2
    | cons e es =>
      rw [List.all_cons, Bool.and_eq_true] at hs
      have hany : ((backTo pos (starEach (e :: es) X.env)).any (·.1) || (backToKw pos (keywordEach kws X.env)).any (·.1.isNone)) = false := by
        rw [b3, Bool.or_false]
        exact star_any (by rw [List.all_cons, hs.1, hs.2]; rfl)
      refine PySem.W.callWith_KW (h₀ := X.base) I.ok.mod.kin kp b1 (thn (ha.run pos pins s σ H _ I args) fun us s1 ⟨vs, H1, I1, rv, l1, q1⟩ => ?_) hany (star_one hs.1)
      refine thn (hk.run pos pins s1 σ H1 _ I1 q1) fun ws' s2 ⟨zs, H2, I2, rz, l2, q2⟩ => ⟨I2.kIn, ?_⟩
      rw [b2]
      exact fin us ws' s2 vs zs H2 I2 rv rz l1 l2 q2
  · have aln : ∀ {rs : List RA} {ρ : Env} {q : List PA' × Env}, evA Φ rs ρ = some q → q.1.length = rs.length := by
      intro rs
      induction rs with
      | nil => intro ρ q e; simp only [evA, Option.some.injEq] at e; subst e; rfl
      | cons r rs ih =>
        intro ρ q e
        cases r with
        | e r =>
          simp only [evA, Option.bind_eq_some_iff, Option.map_eq_some_iff] at e
          obtain ⟨p, _, q', eq', e3⟩ := e
          subst e3
          simp [ih eq']
        | io i =>
          simp only [evA] at e
          split at e
          · obtain ⟨q', e1, e2⟩ := map_some' e
            subst e2
            simp [ih e1]
          · obtain ⟨q', e1, e2⟩ := map_some' e
            subst e2
            simp [ih e1]
          · cases e
    have arl : ∀ {ps : List PA'} {vs : List V}, ARs Y σ Hf1 ps vs → vs.length = ps.length := by
      intro ps
      induction ps with
      | nil => intro vs h; have h : vs = [] := h; subst h; rfl
      | cons p ps ih => rintro vs ⟨v, r, rfl, _, t⟩; simp [ih t]
    rw [arl ar, aln eq, hrl]
  · have lln : ∀ {rs : List RE} {ρ : Env} {q : List D × Env}, evL Φ rs ρ = some q → q.1.length = rs.length := by
      intro rs
      induction rs with
      | nil => intro ρ q e; simp only [evL, Option.some.injEq] at e; subst e; rfl
      | cons r rs ih =>
        intro ρ q e
        simp only [evL, Option.bind_eq_some_iff, Option.map_eq_some_iff] at e
        obtain ⟨p, _, q', eq', e3⟩ := e
        subst e3
        simp [ih eq']
    rw [← rl.len, lln ew, hwl]
  · have := call_ok (Q := Q) E2 (((ar.mono s2).append (ARs.vals rl)).perm eas) e3 fun v H' Hf' s3 vr => kk v H' Hf' (s1.trans (s2.trans s3)) vr
    rw [hK] at this
    exact this
end
end PL

/-! PL9: what is walked, targets, comprehensions. -/
namespace PL
open PySem PySem.Spec PyProof.Rows L2
/-- an iterator gives just these things -/
def ItOk (K : PySem.W.Frag) (Hf : Hp) (J : It) (ds : List D) : Prop :=
  ∃ (G : Hp → Prop) (Yy : Nat → Hp → V → Hp → Prop), Walk J ds.length G Yy ∧ (∀ H, Same Hf H → G H) ∧
    ∀ (i : Nat) (H : Hp) (x : V) (H' Hf2 : Hp) (d : D), Same Hf Hf2 → Same Hf2 H → ds[i]? = some d → Yy i H x H' → (H' = H ∧ Rep K Hf2 d x) ∨ ∃ T o, H T = none ∧ H' = upd H T o ∧ Rep K (upd Hf2 T o) d x
def tI (Y : Yx) (Φ : Fn) (it : RI) : TI := fun σ H R => ∃ (Hf : Hp) (ρ : Env) (τ : List (D × Addr)) (ds : List D) (ρ' : Env), ER Y ρ τ σ H Hf ∧ evI Φ it ρ = some (ds, ρ') ∧ ∀ J H' Hf', Same Hf Hf' → ER Y ρ' τ σ H' Hf' → ItOk Y.K Hf' J ds → R J H'
theorem range_get : ∀ (lo : Int) (n i : Nat) (d : D), (rangeD lo n)[i]? = some d → d = .int (lo + i)
  | lo, 0, i, d, h => by simp [rangeD] at h
  | lo, n + 1, 0, d, h => by
    have h : PyData.int lo = d := Option.some.inj h
    rw [← h]
    simp
  | lo, n + 1, i + 1, d, h => by
    have h : (rangeD (lo + 1) n)[i]? = some d := by simpa [rangeD] using h
    rw [range_get (lo + 1) n i d h]
    congr 1
    omega
theorem range_len : ∀ (lo : Int) (n : Nat), (rangeD lo n).length = n
  | _, 0 => rfl
  | lo, n + 1 => by simp [rangeD, range_len (lo + 1) n]
theorem enum_len : ∀ (n : Nat) (xs : List D), (enumD n xs).length = xs.length
  | _, [] => rfl
  | n, x :: r => by simp [enumD, enum_len (n + 1) r]
theorem enum_get : ∀ (n : Nat) (xs : List D) (i : Nat) (d : D), (enumD n xs)[i]? = some d → ∃ x, xs[i]? = some x ∧ d = .tuple [.int (n + i : Nat), x]
  | _, [], i, d, h => by simp [enumD] at h
  | n, x :: r, 0, d, h => by
    have h : PyData.tuple [.int n, x] = d := Option.some.inj h
    exact ⟨x, rfl, by rw [← h]; simp⟩
  | n, x :: r, i + 1, d, h => by
    obtain ⟨y, e1, e2⟩ := enum_get (n + 1) r i d (by simpa [enumD] using h)
    refine ⟨y, by simpa using e1, ?_⟩
    rw [e2, show n + 1 + i = n + (i + 1) by omega]
theorem zip_len : ∀ (xs ys : List D), (zipD xs ys).length = min xs.length ys.length
  | [], ys => by simp [zipD]
  | x :: r, [] => by simp [zipD]
  | x :: r, y :: t => by simp [zipD, zip_len r t, Nat.succ_min_succ]
theorem zip_get : ∀ (xs ys : List D) (i : Nat) (d : D), (zipD xs ys)[i]? = some d → ∃ x y, xs[i]? = some x ∧ ys[i]? = some y ∧ d = .tuple [x, y]
  | [], ys, i, d, h => by simp [zipD] at h
  | x :: r, [], i, d, h => by simp [zipD] at h
  | x :: r, y :: t, 0, d, h => by
    have h : PyData.tuple [x, y] = d := Option.some.inj h
    exact ⟨x, y, rfl, rfl, h.symm⟩
  | x :: r, y :: t, i + 1, d, h => by
    obtain ⟨a, b, e1, e2, e3⟩ := zip_get r t i d (by simpa [zipD] using h)
    exact ⟨a, b, by simpa using e1, by simpa using e2, e3⟩
section
variable {K : PySem.W.Frag} {Hf : Hp}
theorem it_list {a : Addr} {vs : List V} {ds : List D} (h : Hf a = some (.lst vs)) (r : RepL K Hf ds vs) : ItOk K Hf (Itl K a) ds := by
  refine ⟨fun H => SqL K H a vs, YAt vs, r.len ▸ walk_list, fun H s => .of (s _ _ h), fun i H x H' Hf2 d s1 s2 e y => .inl ⟨y.1, ?_⟩⟩
  obtain ⟨v, e2, rv⟩ := r.get e
  rw [y.2] at e2; cases e2
  exact rv.mono s1
theorem it_tup {a : Addr} {vs : List V} {ds : List D} (h : SqT K Hf a vs) (r : RepL K Hf ds vs) : ItOk K Hf (Itt K a) ds := by
  refine ⟨fun H => SqT K H a vs, YAt vs, r.len ▸ walk_tup, fun H s => sqT_mono s h, fun i H x H' Hf2 d s1 s2 e y => .inl ⟨y.1, ?_⟩⟩
  obtain ⟨v, e2, rv⟩ := r.get e
  rw [y.2] at e2; cases e2
  exact rv.mono s1
theorem it_range {lo : Int} {n : Nat} : ItOk K Hf (Itr lo n) (rangeD lo n) := by
  refine ⟨fun _ => True, YFn fun i => .int (lo + i), by rw [range_len]; exact walk_range, fun _ _ => trivial, fun i H x H' Hf2 d s1 s2 e y => .inl ⟨y.1, ?_⟩⟩
  rw [range_get _ _ _ _ e, y.2]
  simp [Rep]
theorem pair_rep {x y : D} {v w : V} {T : Addr} {Hf2 H : Hp} (n : H T = none) (s : Same Hf2 H) (r1 : Rep K Hf2 x v) (r2 : Rep K Hf2 y w) : Rep K (upd Hf2 T (.tup [v, w])) (.tuple [x, y]) (.ref T) := by
  have sm := same_upd (o := .tup [v, w]) (s.free n)
  simp only [Rep]
  exact ⟨T, _, rfl, .inl (.inl upd_same), .cons (r1.mono sm) (.one (r2.mono sm))⟩
theorem it_enum {a : Addr} {vs : List V} {ds : List D} (h : Hf a = some (.lst vs)) (r : RepL K Hf ds vs) : ItOk K Hf (Ite K a) (enumD 0 ds) := by
  refine ⟨fun H => SqL K H a vs, YPair (fun i => some (.int (i : Nat))) (fun i => vs[i]?), by rw [enum_len, r.len]; exact walk_enum, fun H s => .of (s _ _ h), fun i H x H' Hf2 d s1 s2 e y => ?_⟩
  obtain ⟨T, v, w, rfl, nT, rfl, e1, e2⟩ := y
  obtain ⟨z, ez, rfl⟩ := enum_get _ _ _ _ e
  obtain ⟨u, eu, ru⟩ := r.get ez
  have e2 : vs[i]? = some w := e2
  rw [e2] at eu; cases eu
  have e1 : some (V.int (i : Nat)) = some v := e1
  cases e1
  exact .inr ⟨T, _, nT, rfl, pair_rep nT s2 (by simp [Rep]) (ru.mono s1)⟩
theorem it_zip {a b : Addr} {vs ws : List V} {ds es : List D} (h : Hf a = some (.lst vs)) (r : RepL K Hf ds vs) (h2 : Hf b = some (.lst ws)) (r2 : RepL K Hf es ws) : ItOk K Hf (Itz K a b) (zipD ds es) := by
  refine ⟨fun H => SqL K H a vs ∧ SqL K H b ws, YPair (fun i => vs[i]?) (fun i => ws[i]?), walk_zip (xs := vs) (ys := ws) (by rw [zip_len, r.len, r2.len]), fun H s => ⟨.of (s _ _ h), .of (s _ _ h2)⟩, fun i H x H' Hf2 d s1 s2 e y => ?_⟩
  obtain ⟨T, v, w, rfl, nT, rfl, e1, e2⟩ := y
  obtain ⟨z, t, ez, et, rfl⟩ := zip_get _ _ _ _ e
  obtain ⟨u, eu, ru⟩ := r.get ez
  obtain ⟨u', eu', ru'⟩ := r2.get et
  have e1 : vs[i]? = some v := e1
  have e2 : ws[i]? = some w := e2
  rw [e1] at eu; cases eu
  rw [e2] at eu'; cases eu'
  exact .inr ⟨T, _, nT, rfl, pair_rep nT s2 (ru.mono s1) (ru'.mono s1)⟩
end
section
variable {X : Cx} {Y : Yx} {Φ : Fn} {pos : Pos} {tg : Expr}
theorem PI_weak {e : Expr} {t u : TI} (h : PI X tg e t) (w : ∀ σ H Q, u σ H Q → t σ H Q) : PI X tg e u := ⟨fun pins s σ H Q I q => h.run pins s σ H Q I (w σ H Q q)⟩
theorem si_seq (hK : Y.K = X.K) {e : Expr} {r : RE} (h : PE X e (tE Y Φ r)) : PI X tg e (tI Y Φ (.seq r)) := by
  refine ⟨fun pins s σ H R I g => ?_⟩
  obtain ⟨Hf, ρ, τ, ds, ρ', E, ev, k⟩ := g
  simp only [evI, Option.bind_eq_some_iff, Option.map_eq_some_iff] at ev
  obtain ⟨p, ep, xs, ex, e3⟩ := ev
  cases e3
  unfold itemsOf at ex
  split at ex
  · rename_i ds' ed
    split at ex
    · cases ex
      refine (pi_list (tE_F h)).run pins s σ H R I ⟨Hf, ρ, τ, p.1, p.2, E, ep, fun v H1 Hf1 s1 E1 rp => ?_⟩
      rw [ed] at rp
      simp only [Rep] at rp
      obtain ⟨a, vs, rfl, ha, rl⟩ := rp
      exact ⟨a, rfl, ⟨vs, .of (E1.sub _ _ ha)⟩, k _ H1 Hf1 s1 E1 (hK ▸ it_list ha rl)⟩
    · cases ex
  · rename_i ds' ed
    split at ex
    · cases ex
      refine (pi_tup (tE_F h)).run pins s σ H R I ⟨Hf, ρ, τ, p.1, p.2, E, ep, fun v H1 Hf1 s1 E1 rp => ?_⟩
      rw [ed] at rp
      simp only [Rep] at rp
      obtain ⟨a, vs, rfl, ha, rl⟩ := rp
      exact ⟨a, rfl, ⟨vs, hK ▸ sqT_mono E1.sub ha⟩, k _ H1 Hf1 s1 E1 (hK ▸ it_tup ha rl)⟩
    · cases ex
  · cases ex
theorem si_rng1 {e : Expr} {r : RE} {p : Pos} (h : PE X e (tE Y Φ r)) (hg : Gl X "range") (hm : X.mg "range" = none) (hs : noStar e = true) : PI X tg (.Call (.Name "range" p) [e] [] pos) (tI Y Φ (.rng1 r)) := by
  refine PI_weak (pi_range1 hg hm (pa_cons (tE_F h) pa_nil (star_one hs)) (star_one hs)) fun σ H R ⟨Hf, ρ, τ, ds, ρ', E, ev, k⟩ => ?_
  simp only [evI, Option.bind_eq_some_iff] at ev
  obtain ⟨q, eq, e3⟩ := ev
  split at e3
  · rename_i j ej
    split at e3
    · rename_i hj
      cases e3
      refine ⟨Hf, ρ, τ, q.1, q.2, E, eq, fun v H1 Hf1 s1 E1 rp => ?_⟩
      rw [ej] at rp
      simp only [Rep] at rp
      exact ⟨j, by rw [rp], hj.2, by omega, k _ H1 Hf1 s1 E1 it_range⟩
    · cases e3
  · cases e3
theorem si_rng2 {e f : Expr} {r t : RE} {p : Pos} (h : PE X e (tE Y Φ r)) (h2 : PE X f (tE Y Φ t)) (hg : Gl X "range") (hm : X.mg "range" = none) (hs : noStar e = true) (hs2 : noStar f = true) : PI X tg (.Call (.Name "range" p) [e, f] [] pos) (tI Y Φ (.rng2 r t)) := by
  refine PI_weak (pi_range2 hg hm (pa_cons (tE_F h) (pa_cons (tE_F h2) pa_nil (star_one hs2)) (star_one hs)) (by rw [star_one hs, star_one hs2]; rfl) (star_one hs2)) fun σ H R ⟨Hf, ρ, τ, ds, ρ', E, ev, k⟩ => ?_
  simp only [evI, Option.bind_eq_some_iff] at ev
  obtain ⟨q, eq, q2, eq2, e3⟩ := ev
  split at e3
  · rename_i i j ei ej
    split at e3
    · rename_i hj
      cases e3
      refine ⟨Hf, ρ, τ, q.1, q.2, E, eq, fun v H1 Hf1 s1 E1 rp => ⟨Hf1, q.2, τ, q2.1, q2.2, E1, eq2, fun v2 H2 Hf2 s2 E2 rp2 => ?_⟩⟩
      rw [ei] at rp
      rw [ej] at rp2
      simp only [Rep] at rp rp2
      exact ⟨i, j, by rw [rp, rp2], by omega, k _ H2 Hf2 (s1.trans s2) E2 it_range⟩
    · cases e3
  · cases e3
theorem listOf_ok {d : D} {xs : List D} (h : listOf d = some xs) : d = .list xs := by
  unfold listOf at h
  split at h
  · split at h
    · cases h; rfl
    · cases h
  · cases h
theorem si_enum (hK : Y.K = X.K) {e : Expr} {r : RE} {p tpos : Pos} {elts : List Expr} {kk : Nat} (h : PE X e (tE Y Φ r)) (hg : Gl X "enumerate") (hm : X.mg "enumerate" = none) (hs : noStar e = true) : PI X (.Tuple elts kk tpos) (.Call (.Name "enumerate" p) [e] [] pos) (tI Y Φ (.enum r)) := by
  refine PI_weak (pi_enum hg hm (pa_cons (tE_F h) pa_nil (star_one hs)) (star_one hs)) fun σ H R ⟨Hf, ρ, τ, ds, ρ', E, ev, k⟩ => ?_
  simp only [evI, Option.bind_eq_some_iff, Option.map_eq_some_iff] at ev
  obtain ⟨q, eq, xs, ex, e3⟩ := ev
  cases e3
  have ed := listOf_ok ex
  refine ⟨Hf, ρ, τ, q.1, q.2, E, eq, fun v H1 Hf1 s1 E1 rp => ?_⟩
  rw [ed] at rp
  simp only [Rep] at rp
  obtain ⟨a, vs, rfl, ha, rl⟩ := rp
  exact ⟨a, vs, rfl, .of (E1.sub _ _ ha), k _ H1 Hf1 s1 E1 (hK ▸ it_enum ha rl)⟩
theorem si_zip (hK : Y.K = X.K) {e f : Expr} {r t : RE} {p tpos : Pos} {elts : List Expr} {kk : Nat} (h : PE X e (tE Y Φ r)) (h2 : PE X f (tE Y Φ t)) (hg : Gl X "zip") (hm : X.mg "zip" = none) (hs : noStar e = true) (hs2 : noStar f = true) :
    PI X (.Tuple elts kk tpos) (.Call (.Name "zip" p) [e, f] [] pos) (tI Y Φ (.zip r t)) := by
  refine PI_weak (pi_zip hg hm (pa_cons (tE_F h) (pa_cons (tE_F h2) pa_nil (star_one hs2)) (star_one hs)) (star_one hs) (star_any (by rw [List.all_cons, hs2]; rfl))) fun σ H R ⟨Hf, ρ, τ, ds, ρ', E, ev, k⟩ => ?_
  simp only [evI, Option.bind_eq_some_iff, Option.map_eq_some_iff] at ev
  obtain ⟨q, eq, q2, eq2, xs, ex, ys, ey, e3⟩ := ev
  cases e3
  have ed := listOf_ok ex
  have ed2 := listOf_ok ey
  refine ⟨Hf, ρ, τ, q.1, q.2, E, eq, fun v H1 Hf1 s1 E1 rp => ⟨Hf1, q.2, τ, q2.1, q2.2, E1, eq2, fun v2 H2 Hf2 s2 E2 rp2 => ?_⟩⟩
  rw [ed] at rp
  rw [ed2] at rp2
  simp only [Rep] at rp rp2
  obtain ⟨a, vs, rfl, ha, rl⟩ := rp
  obtain ⟨b, ws, rfl, hb, rl2⟩ := rp2
  exact ⟨a, b, vs, ws, rfl, .of (E2.sub _ _ (s2 _ _ ha)), .of (E2.sub _ _ hb), k _ H2 Hf2 (s1.trans s2) E2 (hK ▸ it_zip (s2 _ _ ha) (RepL.mono s2 _ _ rl) hb rl2)⟩
end
end PL

/-! PL10: targets, comprehensions. -/
namespace PL
open PySem PySem.Spec PyProof.Rows L2
mutual
def patIs : Pat → List Nat
  | .nm i => [i]
  | .ixs _ _ => []
  | .tup ps => patIsL ps
def patIsL : List Pat → List Nat
  | [] => []
  | p :: ps => patIs p ++ patIsL ps
end
def tG (Y : Yx) (p : Pat) : TG := fun v σ H Q => ∃ (Hf : Hp) (ρ : Env) (τ : List (D × Addr)) (d : D) (ρ' : Env), ER Y ρ τ σ H Hf ∧ Rep Y.K Hf d v ∧ putP p d ρ = some ρ' ∧
  ∀ σ' H', ER Y ρ' τ σ' H' Hf → σ'.length = σ.length → (∀ j : Nat, j ∉ patIs p → σ'[j]? = σ[j]?) → Q σ' H'
def tGs (Y : Yx) (ps : List Pat) : TGs := fun vs σ H Q => ∃ (Hf : Hp) (ρ : Env) (τ : List (D × Addr)) (ds : List D) (ρ' : Env), ER Y ρ τ σ H Hf ∧ RepL Y.K Hf ds vs ∧ putPs ps ds ρ = some ρ' ∧
  ∀ σ' H', ER Y ρ' τ σ' H' Hf → σ'.length = σ.length → (∀ j : Nat, j ∉ patIsL ps → σ'[j]? = σ[j]?) → Q σ' H'
theorem PG_weak {X : Cx} {e : Expr} {t u : TG} (h : PG X e t) (w : ∀ v σ H Q, u v σ H Q → t v σ H Q) : PG X e u := ⟨fun pins s σ H v x Q I r q => h.run pins s σ H v x Q I r (w v σ H Q q)⟩
theorem PGs_weak {X : Cx} {e : List Expr} {t u : TGs} (h : PGs X e t) (w : ∀ v σ H Q, u v σ H Q → t v σ H Q) : PGs X e u := ⟨fun pins s σ H v x Q I r q => h.run pins s σ H v x Q I r (w v σ H Q q)⟩
theorem asg_one {e : Expr} {es : List Expr} {env : PySem.Env} (h : noStar e = true) : assignEach (e :: es) env = (false, assign e env) :: assignEach es env := by
  cases e <;> first | rfl | exact absurd h Bool.false_ne_true
theorem asg_facts {env : PySem.Env} : ∀ {es : List Expr}, es.all noStar = true → (assignEach es env).length = es.length ∧ (assignEach es env).findIdx? (·.1) = none
  | [], _ => ⟨rfl, rfl⟩
  | e :: es, h => by
    rw [List.all_cons, Bool.and_eq_true] at h
    obtain ⟨a, b⟩ := asg_facts (env := env) h.2
    rw [asg_one h.1]
    refine ⟨by simp [a], ?_⟩
    rw [List.findIdx?_cons, b]
    rfl
section
variable {X : Cx} {Y : Yx} {Φ : Fn} {pos : Pos}
theorem sg_nm {e : Expr} {i : Nat} (h : PG X e (gName i)) : PG X e (tG Y (.nm i)) := PG_weak h fun v σ H Q ⟨Hf, ρ, τ, d, ρ', E, r, ep, k⟩ => by
  simp only [putP] at ep
  refine k _ H (putS_ok ep (show VR Y (.val d) v ρ τ σ H Hf from ⟨E, r⟩)) (by rw [List.length_set]) fun j hj => ?_
  simp only [patIs, List.mem_singleton] at hj
  rw [List.getElem?_set_ne (Ne.symm hj)]
theorem sg_ixs {o : Expr} {i : Nat} {k : Int} {j} {p : Pos} (h : PE X o (tVar i)) : PG X (.Subscript o (.Constant (.int k) j p) pos) (tG Y (.ixs i k)) :=
  PG_weak (pg_sub h pe_int set_list) fun v σ H Q ⟨Hf, ρ, τ, d, ρ', E, r, ep, kk⟩ => by
    simp only [putP] at ep
    obtain ⟨a, d0, d1, e0, w, ef, go⟩ := chgS_ok E ep
    refine ⟨.ref a, e0, ?_⟩
    cases d0 <;> simp only at ef <;> try cases ef
    rename_i ds
    obtain ⟨jj, ej, ed⟩ := map_some' ef
    subst ed
    obtain ⟨n, vs, hv, rl⟩ := w
    refine ⟨a, vs, k, jj, rfl, rfl, hv, by rw [← rl.len]; exact ej, kk σ _ (go _ ⟨n, _, upd_same, rl.set r _⟩) rfl fun _ _ => rfl⟩
theorem sg_nil : PGs X [] (tGs Y []) := PGs_weak pgs_nil fun v σ H Q ⟨Hf, ρ, τ, ds, ρ', E, r, ep, k⟩ => by
  cases ds with
  | cons _ _ => simp [putPs] at ep
  | nil =>
    simp only [putPs] at ep
    cases ep
    simp only [RepL] at r
    exact ⟨r, k σ H E rfl fun _ _ => rfl⟩
theorem sg_cons {e : Expr} {es : List Expr} {p : Pat} {ps : List Pat} (h : PG X e (tG Y p)) (g : PGs X es (tGs Y ps)) (hs : noStar e = true) : PGs X (e :: es) (tGs Y (p :: ps)) :=
  PGs_weak (pgs_cons h g (by rw [asg_one hs]; rfl)) fun vs σ H Q ⟨Hf, ρ, τ, ds, ρ', E, r, ep, k⟩ => by
    cases ds with
    | nil => simp [putPs] at ep
    | cons d ds =>
      simp only [putPs, Option.bind_eq_some_iff] at ep
      obtain ⟨ρ1, e1, e2⟩ := ep
      simp only [RepL] at r
      obtain ⟨v, vr, rfl, r1, r2⟩ := r
      refine ⟨v, vr, rfl, Hf, ρ, τ, d, ρ1, E, r1, e1, fun σ1 H1 E1 l1 o1 => ⟨Hf, ρ1, τ, ds, ρ', E1, r2, e2, fun σ2 H2 E2 l2 o2 => k σ2 H2 E2 (l2.trans l1) fun j hj => ?_⟩⟩
      simp only [patIsL, List.mem_append, not_or] at hj
      rw [o2 j hj.2, o1 j hj.1]
theorem sg_tup (hK : Y.K = X.K) (hc : X.calm = true) {es : List Expr} {kk : Nat} {ps : List Pat} (h : PGs X es (tGs Y ps)) (hs : es.all noStar = true) (hl : ps.length = es.length) : PG X (.Tuple es kk pos) (tG Y (.tup ps)) := by
  obtain ⟨f1, f2⟩ := asg_facts (env := X.env) hs
  refine PG_weak (pg_tup hc h f1 f2) fun v σ H Q ⟨Hf, ρ, τ, d, ρ', E, r, ep, k⟩ => ?_
  cases d <;> simp only [putP] at ep <;> try cases ep
  rename_i ds
  simp only [Rep] at r
  obtain ⟨a, vs, rfl, ha, rl⟩ := r
  have pl : ∀ {ps : List Pat} {ds : List D} {ρ ρ' : Env}, putPs ps ds ρ = some ρ' → ps.length = ds.length := by
    intro ps
    induction ps with
    | nil => intro ds ρ ρ' e; cases ds with
      | nil => rfl
      | cons _ _ => simp [putPs] at e
    | cons p ps ih => intro ds ρ ρ' e; cases ds with
      | nil => simp [putPs] at e
      | cons d ds =>
        simp only [putPs, Option.bind_eq_some_iff] at e
        obtain ⟨ρ1, _, e2⟩ := e
        simp [ih e2]
  exact ⟨a, vs, rfl, hK ▸ sqT_mono E.sub ha, by rw [← rl.len, ← pl ep, hl], Hf, ρ, τ, ds, ρ', E, rl, ep, fun σ' H' E' l o => k σ' H' E' l (by simpa [patIs] using o)⟩
end

/-! ### the slots of a block -/
section
variable {Y : Yx} {ρ : Env} {τ : List (D × Addr)} {σ : SV} {H Hf : Hp}
theorem hideS_ok : ∀ {vs : List Nat} {ρ ρ' : Env} {Hf : Hp}, ER Y ρ τ σ H Hf → hideS ρ vs = some ρ' → ∃ Hf', Same Hf Hf' ∧ ER Y ρ' τ σ H Hf' ∧ ρ'.length = ρ.length ∧
    (∀ j : Nat, (∀ d, ρ[j]? = some (.io d) → ρ'[j]? = some (.io d)) ∧ (∀ d, ρ[j]? = some (.val d) → ρ'[j]? = some (.val d))) ∧ ∀ i ∈ vs, (∀ d, ρ'[i]? ≠ some (.io d)) ∧ ∀ d, ρ'[i]? ≠ some (.own d)
  | [], ρ, ρ', Hf, E, h => by
    cases h
    exact ⟨Hf, .refl _, E, rfl, fun j => ⟨fun d e => e, fun d e => e⟩, fun i hi => absurd hi (by simp)⟩
  | i :: is, ρ, ρ', Hf, E, h => by
    unfold hideS at h
    split at h
    · cases h
    · rename_i d e
      have e0 := getS_some e (by simp)
      obtain ⟨Hf1, a, s1, E1, _, _⟩ := E.take e0
      obtain ⟨Hf2, s2, E2, l, k, o⟩ := hideS_ok E1 h
      have hi : i < ρ.length := (List.getElem?_eq_some_iff.mp e0).1
      have kk : ∀ j : Nat, (∀ d, ρ[j]? = some (.io d) → ρ'[j]? = some (.io d)) ∧ (∀ d, ρ[j]? = some (.val d) → ρ'[j]? = some (.val d)) := fun j => by
        by_cases ej : i = j
        · subst ej
          exact ⟨fun d' q => (by rw [e0] at q; cases q), fun d' q => (by rw [e0] at q; cases q)⟩
        · exact ⟨fun d' q => (k j).1 d' (by rw [List.getElem?_set_ne ej]; exact q), fun d' q => (k j).2 d' (by rw [List.getElem?_set_ne ej]; exact q)⟩
      refine ⟨Hf2, s1.trans s2, E2, by rw [l, List.length_set], kk, fun j hj => ?_⟩
      by_cases hm : j ∈ is
      · exact o j hm
      · have ej : j = i := by
          rcases List.mem_cons.mp hj with z | z
          · exact z
          · exact absurd z hm
        subst ej
        have := (k j).2 d (by rw [List.getElem?_set_self hi])
        exact ⟨fun d' q => (by rw [this] at q; cases q), fun d' q => (by rw [this] at q; cases q)⟩
    · rename_i hn1 hn2
      obtain ⟨Hf2, s2, E2, l, k, o⟩ := hideS_ok E h
      refine ⟨Hf2, s2, E2, l, k, fun j hj => ?_⟩
      by_cases hm : j ∈ is
      · exact o j hm
      · have ej : j = i := by
          rcases List.mem_cons.mp hj with z | z
          · exact z
          · exact absurd z hm
        subst ej
        have low : ∀ {vs : List Nat} {ρ ρ' : Env}, hideS ρ vs = some ρ' → j ∉ vs → ρ'[j]? = ρ[j]? := by
          intro vs
          induction vs with
          | nil => intro ρ ρ' h _; cases h; rfl
          | cons v vs ih =>
            intro ρ ρ' h hj
            rw [List.mem_cons, not_or] at hj
            unfold hideS at h
            split at h
            · cases h
            · rw [ih h hj.2, List.getElem?_set_ne (Ne.symm hj.1)]
            · exact ih h hj.2
        have q := low h hm
        exact ⟨fun d' z => hn1 d' (getS_of (q ▸ z)), fun d' z => hn2 d' (getS_of (q ▸ z))⟩
theorem wipeS_len (ρ : Env) : ∀ vs : List Nat, (wipeS ρ vs).length = ρ.length
  | [] => rfl
  | v :: vs => by unfold wipeS; rw [List.length_set, wipeS_len ρ vs]
theorem wipeS_out (ρ : Env) {i : Nat} : ∀ {vs : List Nat}, i ∉ vs → (wipeS ρ vs)[i]? = ρ[i]?
  | [], _ => rfl
  | v :: vs, h => by
    rw [List.mem_cons, not_or] at h
    unfold wipeS
    rw [List.getElem?_set_ne (Ne.symm h.1), wipeS_out ρ h.2]
theorem wipe_out' (σ : SV) {i : Nat} : ∀ {vs : List Nat}, i ∉ vs → (wipe σ vs)[i]? = σ[i]?
  | [], _ => rfl
  | v :: vs, h => by
    rw [List.mem_cons, not_or] at h
    unfold wipe
    rw [List.getElem?_set_ne (Ne.symm h.1), wipe_out' σ h.2]
theorem ER.wipe (E : ER Y ρ τ σ H Hf) : ∀ {vs : List Nat}, (∀ i ∈ vs, ∀ d, ρ[i]? ≠ some (.io d)) → ER Y (wipeS ρ vs) τ (L2.wipe σ vs) H Hf
  | [], _ => E
  | v :: vs, h => by
    have ih := ER.wipe E (vs := vs) fun i hi => h i (List.mem_cons_of_mem _ hi)
    unfold wipeS L2.wipe
    refine ih.unset v fun d q => ?_
    by_cases hm : v ∈ vs
    · have un : ∀ {vs : List Nat}, v ∈ vs → (wipeS ρ vs)[v]? = some (.io d) → False := by
        intro vs
        induction vs with
        | nil => intro z; simp at z
        | cons w ws ih2 =>
          intro z q
          unfold wipeS at q
          by_cases e : w = v
          · subst e
            rw [List.getElem?_set] at q
            simp only [if_true] at q
            split at q <;> cases q
          · rw [List.getElem?_set_ne e] at q
            rcases List.mem_cons.mp z with z | z
            · exact e z.symm
            · exact ih2 z q
      exact un hm q
    · rw [wipeS_out ρ hm] at q
      exact h v (List.mem_cons_self ..) d q
theorem wipe_eq {σ σ' : SV} {vs : List Nat} (l : σ'.length = σ.length) (h : ∀ j : Nat, j ∉ vs → σ'[j]? = σ[j]?) : L2.wipe σ' vs = L2.wipe σ vs := by
  refine List.ext_getElem? fun j => ?_
  by_cases hj : j ∈ vs
  · have un : ∀ {τ : SV} {ws : List Nat}, j ∈ ws → (L2.wipe τ ws)[j]? = if j < τ.length then some none else none := by
      intro τ ws
      induction ws with
      | nil => intro z; simp at z
      | cons w ws ih2 =>
        intro z
        unfold L2.wipe
        by_cases e : w = j
        · subst e
          rw [List.getElem?_set, wipe_length]
          simp
        · rw [List.getElem?_set_ne e]
          rcases List.mem_cons.mp z with z | z
          · exact absurd z.symm e
          · exact ih2 z
    rw [un hj, un hj, l]
  · rw [wipe_out' σ' hj, wipe_out' σ hj, h j hj]
theorem backS_out (old ρ : Env) {i : Nat} : ∀ {vs : List Nat}, i ∉ vs → (backS old ρ vs)[i]? = ρ[i]?
  | [], _ => rfl
  | v :: vs, h => by
    rw [List.mem_cons, not_or] at h
    unfold backS
    rw [List.getElem?_set_ne (Ne.symm h.1), backS_out old ρ h.2]
theorem backS_len (old ρ : Env) : ∀ vs : List Nat, (backS old ρ vs).length = ρ.length
  | [] => rfl
  | v :: vs => by unfold backS; rw [List.length_set, backS_len old ρ vs]
theorem backS_in (old ρ : Env) {i : Nat} (hi : i < ρ.length) : ∀ {vs : List Nat}, i ∈ vs → (backS old ρ vs)[i]? = some (getS old i)
  | [], h => by simp at h
  | v :: vs, h => by
    unfold backS
    by_cases e : v = i
    · subst e
      rw [List.getElem?_set_self (by rw [backS_len]; exact hi)]
    · rw [List.getElem?_set_ne e]
      rcases List.mem_cons.mp h with z | z
      · exact absurd z.symm e
      · exact backS_in old ρ hi z
/-- behind a block -/
theorem ER.unwipe {vs : List Nat} {old : Env} {Hf0 : Hp} {H0 : Hp} {τ0 : List (D × Addr)} (E0 : ER Y old τ0 σ H0 Hf0) (ho : ∀ i ∈ vs, (∀ d, old[i]? ≠ some (.io d)) ∧ ∀ d, old[i]? ≠ some (.own d)) (s : Same Hf0 Hf)
    (E : ER Y (wipeS ρ vs) τ (L2.wipe σ vs) H Hf) : ER Y (backS old ρ vs) τ σ H Hf := by
  have ln : ρ.length = σ.length := by have := E.len; rw [wipeS_len, wipe_length] at this; exact this
  have lo : old.length = ρ.length := by rw [ln]; exact E0.len
  have hn : ∀ {i : Nat} {x : SD}, i ∈ vs → (backS old ρ vs)[i]? = some x → (∀ d, x ≠ .io d ∧ x ≠ .own d) ∧ getS old i = x := fun {i x} hi q => by
    have hlt : i < ρ.length := by rw [← backS_len old ρ vs]; exact (List.getElem?_eq_some_iff.mp q).1
    rw [backS_in old ρ hlt hi] at q
    have e := Option.some.inj q
    refine ⟨fun d => ⟨fun z => ?_, fun z => ?_⟩, e⟩
    · rw [z] at e; exact (ho i hi).1 d (getS_some e (by simp))
    · rw [z] at e; exact (ho i hi).2 d (getS_some e (by simp))
  have out : ∀ {i : Nat}, i ∉ vs → (backS old ρ vs)[i]? = (wipeS ρ vs)[i]? := fun {i} hi => by rw [backS_out old ρ hi, wipeS_out ρ hi]
  have nh : ∀ {j}, Held (backS old ρ vs) j → j ∉ vs ∧ Held (wipeS ρ vs) j := fun {j} h => by
    obtain ⟨d, h⟩ := h
    by_cases hj : j ∈ vs
    · exfalso
      rcases h with h | h
      · exact ((hn hj h).1 d).2 rfl
      · exact ((hn hj h).1 d).1 rfl
    · refine ⟨hj, d, ?_⟩
      rw [out hj] at h
      exact h
  refine ⟨E.sub, E.base, E.keep, E.new, by rw [backS_len]; exact ln, fun i d q => ?_, fun i d q => ?_, fun i d q => ?_, fun p hp => ?_, fun i j a h1 h2 e1 e2 => ?_, E.tmp, E.tnd, fun i a h1 e1 => ?_⟩
  · by_cases hi : i ∈ vs
    · obtain ⟨v, e, r⟩ := E0.val i d (getS_some (hn hi q).2 (by simp))
      exact ⟨v, e, r.mono s⟩
    · rw [out hi] at q
      obtain ⟨v, e, r⟩ := E.val i d q
      rw [wipe_out' σ hi] at e
      exact ⟨v, e, r⟩
  · by_cases hi : i ∈ vs
    · exact absurd rfl ((hn hi q).1 d).2
    · rw [out hi] at q
      obtain ⟨v, e, r⟩ := E.own i d q
      rw [wipe_out' σ hi] at e
      exact ⟨v, e, r⟩
  · by_cases hi : i ∈ vs
    · exact absurd rfl ((hn hi q).1 d).1
    · rw [out hi] at q
      obtain ⟨v, e, r⟩ := E.io i d q
      rw [wipe_out' σ hi] at e
      exact ⟨v, e, r⟩
  · obtain ⟨d, e1, e2⟩ := E.iob p hp
    by_cases hi : p.1 ∈ vs
    · exfalso
      have un : ∀ {ws : List Nat}, p.1 ∈ ws → (wipeS ρ ws)[p.1]? = some (.io d) → False := by
        intro ws
        induction ws with
        | nil => intro z; simp at z
        | cons w ws ih2 =>
          intro z q
          unfold wipeS at q
          by_cases e : w = p.1
          · rw [e, List.getElem?_set] at q
            simp only [if_true] at q
            split at q <;> cases q
          · rw [List.getElem?_set_ne e] at q
            rcases List.mem_cons.mp z with z | z
            · exact e z.symm
            · exact ih2 z q
      exact un hi e1
    · rw [wipe_out' σ hi] at e2
      exact ⟨d, by rw [out hi]; exact e1, e2⟩
  · obtain ⟨n1, h1⟩ := nh h1
    obtain ⟨n2, h2⟩ := nh h2
    exact E.ap i j a h1 h2 (by rw [wipe_out' σ n1]; exact e1) (by rw [wipe_out' σ n2]; exact e2)
  · obtain ⟨n1, h1⟩ := nh h1
    exact E.tap i a h1 (by rw [wipe_out' σ n1]; exact e1)
end
end PL

/-! PL11: comprehensions. -/
namespace PL
open PySem PySem.Spec PyProof.Rows L2
def turnOf (Φ : Fn) (elt : RE) (tg : Pat) (ifs : Option RT) (vs : List Nat) : D → Env → Option (Option D × Env) := fun d ρ2 =>
  (putP tg d (wipeS ρ2 vs)).bind fun ρ3 => (evTo Φ ifs ρ3).bind fun t => if t.1 then (evE Φ elt t.2).map fun y => (some y.1.d, y.2) else some (none, t.2)
theorem wipe_wipe (σ : SV) (vs : List Nat) : L2.wipe (L2.wipe σ vs) vs = L2.wipe σ vs := wipe_eq (wipe_length σ vs) fun j hj => wipe_out' σ hj
theorem ER.ioS {Y : Yx} {ρ ρ' : Env} {τ τ' : List (D × Addr)} {σ σ' : SV} {H H' Hf Hf' : Hp} (E : ER Y ρ τ σ H Hf) (E' : ER Y ρ' τ' σ' H' Hf') {i : Nat} {d : D} (h : ρ'[i]? = some (.io d)) : ∃ e, ρ[i]? = some (.io e) := by
  obtain ⟨a, _, _, m⟩ := E'.io i d h
  obtain ⟨e, e1, _⟩ := E.iob _ m
  exact ⟨e, e1⟩
theorem evI_len {Φ : Fn} {it : RI} {ρ : Env} {q : List D × Env} (h : evI Φ it ρ = some q) : q.1.length ≤ sizeLine := by
  have lo : ∀ {d : D} {xs : List D}, listOf d = some xs → xs.length ≤ sizeLine := fun {d xs} h => by
    unfold listOf at h
    split at h
    · split at h
      · cases h; assumption
      · cases h
    · cases h
  cases it with
  | seq e =>
    simp only [evI, Option.bind_eq_some_iff, Option.map_eq_some_iff] at h
    obtain ⟨p, _, xs, ex, rfl⟩ := h
    unfold itemsOf at ex
    split at ex
    · split at ex
      · cases ex; assumption
      · cases ex
    · split at ex
      · cases ex; assumption
      · cases ex
    · cases ex
  | rng1 e =>
    simp only [evI, Option.bind_eq_some_iff] at h
    obtain ⟨p, _, h⟩ := h
    split at h
    · split at h
      · cases h
        rw [range_len, sizeLine_eq]
        omega
      · cases h
    · cases h
  | rng2 a b =>
    simp only [evI, Option.bind_eq_some_iff] at h
    obtain ⟨p, _, q2, _, h⟩ := h
    split at h
    · split at h
      · cases h
        rw [range_len, sizeLine_eq]
        omega
      · cases h
    · cases h
  | enum e =>
    simp only [evI, Option.bind_eq_some_iff, Option.map_eq_some_iff] at h
    obtain ⟨p, _, xs, ex, rfl⟩ := h
    rw [enum_len]
    exact lo ex
  | zip a b =>
    simp only [evI, Option.bind_eq_some_iff, Option.map_eq_some_iff] at h
    obtain ⟨p, _, p2, _, xs, ex, ys, ey, rfl⟩ := h
    rw [zip_len]
    have := lo ex
    omega
section
variable {X : Cx} {Y : Yx} {Φ : Fn} {pos : Pos}
theorem lc_reading {elt : RE} {tg : Pat} {it : RI} {ifs : Option RT} {vs : List Nat} (hp : ∀ j ∈ patIs tg, j ∈ vs) {σ : SV} {H : Hp} {Q : VK} (h : tE Y Φ (.lc elt tg it ifs vs) σ H Q) : tLc (tI Y Φ it) (tG Y tg) (tTo Y Φ ifs) (tF Y Φ elt) vs σ H Q := by
  obtain ⟨Hf, ρ, τ, x, ρ', E, ev, k⟩ := h
  simp only [evE, Option.bind_eq_some_iff, Option.map_eq_some_iff] at ev
  obtain ⟨q, eq, ρh, eh, ⟨xs, ρ2⟩, ec, e3⟩ := ev
  have e3 : (RV.own (.list xs), backS ρh ρ2 vs) = (x, ρ') := e3
  cases e3
  have ec : compL (turnOf Φ elt tg ifs vs) q.1 ρh [] = some (xs, ρ2) := ec
  have hlen := evI_len eq
  refine ⟨Hf, ρ, τ, q.1, q.2, E, eq, fun J H1 Hf1 s1 E1 io => ?_⟩
  obtain ⟨G, Yy, W, hG, hY⟩ := io
  intro D nD
  obtain ⟨Hf2, s2, E2, l2, k2, o2⟩ := hideS_ok E1 eh
  have E3 : ER Y ρh ((.list [], D) :: τ) σ (upd H1 D (.lst [])) Hf2 := E2.lay nD ⟨E2.freshF nD, [], upd_same, .nil⟩
  have E4 := E3.wipe (vs := vs) (fun i hi => (o2 i hi).1)
  refine lc_it W (fun i H => ∃ (Hf3 : Hp) (ρi : Env) (acc : List PyData), ER Y (wipeS ρi vs) ((.list acc, D) :: τ) (L2.wipe σ vs) H Hf3 ∧ Same Hf2 Hf3 ∧ acc.length ≤ i ∧ compL (turnOf Φ elt tg ifs vs) (q.1.drop i) ρi acc = some (xs, ρ2))
    ⟨Hf2, ρh, [], E4, .refl _, Nat.zero_le _, ec⟩ (fun i H hi ⟨Hf3, _, _, E5, s5, _⟩ => hG H ((s2.trans s5).trans E5.sub)) (fun i x H H' hi ⟨Hf3, ρi, acc, E5, s5, la, cl⟩ y => ?_) fun H ⟨Hf3, ρi, acc, E5, s5, la, cl⟩ => ?_
  · -- a turn
    have hd : q.1[i]? = some q.1[i] := List.getElem?_eq_getElem hi
    have dr : q.1.drop i = q.1[i] :: q.1.drop (i + 1) := List.drop_eq_getElem_cons hi
    rw [dr] at cl
    -- the item, in a heap
    obtain ⟨Hf4, s4, E6, r6⟩ : ∃ Hf4, Same Hf3 Hf4 ∧ ER Y (wipeS ρi vs) ((.list acc, D) :: τ) (L2.wipe σ vs) H' Hf4 ∧ Rep Y.K Hf4 q.1[i] x := by
      rcases hY i H x H' Hf3 _ (s2.trans s5) E5.sub hd y with ⟨rfl, r⟩ | ⟨T, o, nT, rfl, r⟩
      · exact ⟨Hf3, .refl _, E5, r⟩
      · exact ⟨_, same_upd (E5.freshF nT), E5.grow nT, r⟩
    unfold compL at cl
    cases et : turnOf Φ elt tg ifs vs q.1[i] ρi with
    | none => rw [et] at cl; cases cl
    | some z =>
      obtain ⟨oo, ρ4⟩ := z
      rw [et] at cl
      have et0 := et
      unfold turnOf at et
      simp only [Option.bind_eq_some_iff] at et
      obtain ⟨ρ3, ep, t, ett, et⟩ := et
      refine ⟨Hf4, _, _, q.1[i], ρ3, E6, r6, ep, fun σ2 H2 E7 ln2 ot2 => ?_⟩
      have we : L2.wipe σ2 vs = L2.wipe σ vs := by
        rw [wipe_eq ln2 fun j hj => ot2 j fun hm => hj (hp j hm), wipe_wipe]
      have noio : ∀ {ρz : Env} {σz : SV} {Hz Hfz : Hp} {τz : List (PyData × Addr)}, ER Y ρz τz σz Hz Hfz → ∀ i ∈ vs, ∀ d, ρz[i]? ≠ some (.io d) := fun Ez i hi d e => by
        obtain ⟨e', q'⟩ := E3.ioS Ez e
        exact (o2 i hi).1 e' q'
      refine ⟨we, ⟨Hf4, ρ3, _, t.1, t.2, E7, ett, fun H3 Hf5 s7 E8 => ?_⟩⟩
      cases hb : t.1 with
      | true =>
        rw [hb, if_pos rfl] at et
        obtain ⟨yv, ey, e4⟩ := Option.map_eq_some_iff.mp et
        cases e4
        refine iteT ⟨Hf5, t.2, _, yv.1, yv.2, E8, ey, fun v H4 Hf6 s8 E9 rv => ?_⟩
        obtain ⟨w, z0⟩ := E9.tmp _ (List.mem_cons_self ..)
        obtain ⟨n, va, hv, rl⟩ := w
        refine ⟨va, hv, by rw [← rl.len]; exact Nat.lt_of_le_of_lt la (Nat.lt_of_lt_of_le hi hlen), Hf6, yv.2, acc ++ [yv.1.d], ?_, s5.trans (s4.trans (s7.trans s8)), by simp; exact la, cl⟩
        have E10 := E9.chgT (o := .lst (va ++ [v])) (d' := .list (acc ++ [yv.1.d])) ⟨n, _, upd_same, rl.append (.one rv)⟩
        rw [← we]
        exact E10.wipe (noio E10)
      | false =>
        rw [hb, if_neg Bool.false_ne_true] at et
        cases et
        refine iteF ⟨Hf5, t.2, acc, ?_, s5.trans (s4.trans s7), Nat.le_succ_of_le la, cl⟩
        rw [← we]
        exact E8.wipe (noio E8)
  · rw [List.drop_length] at cl
    have cl : some (acc, ρi) = some (xs, ρ2) := cl
    cases cl
    exact k _ H Hf3 (s1.trans (s2.trans s5)) ⟨D, rfl, E2.unwipe o2 s5 E5⟩
theorem st_lc (hc : X.calm = true) (hN : X.N.Nodup) {el tgt iter : Expr} {ifs' : List Expr} {scope : Scope} {own : List (Str × Nat)} {elt : RE} {tg : Pat} {it : RI} {ifs : Option RT} {vs : List Nat} (hi : PI X tgt iter (tI Y Φ it)) (ok : BlkOk X.N X.env.scope scope own) (hv : own.map (·.2) = vs)
    (hg : ∀ (s : Shared) (H : Hp) (C : Addr) (cl : List (Str × Addr)) (fp : List Addr), PG (X.blk s H scope (compEnvC scope cl C X.env) fp) tgt (tG Y tg)) (ht : ∀ (s : Shared) (H : Hp) (C : Addr) (cl : List (Str × Addr)) (fp : List Addr), PTs (X.blk s H scope (compEnvC scope cl C X.env) fp) ifs' (tTo Y Φ ifs))
    (he : ∀ (s : Shared) (H : Hp) (C : Addr) (cl : List (Str × Addr)) (fp : List Addr), PE (X.blk s H scope (compEnvC scope cl C X.env) fp) el (tE Y Φ elt)) (hs : ∀ x, foldedSetIterable iter X.env x = pure x) (hp : ∀ j ∈ patIs tg, j ∈ vs) :
    PE X (.ListComp el [⟨tgt, iter, ifs', 0⟩] scope pos) (tE Y Φ (.lc elt tg it ifs vs)) := by
  subst hv
  exact (pe_lc hc hN hi ok hg ht (fun s H C cl fp => tE_F (he s H C cl fp)) hs).weak fun σ H Q h => lc_reading hp h
/-- .. stored at once by a local name of the same line -/
theorem st_setLc (hc : X.calm = true) (hN : X.N.Nodup) {i : Nat} {y : Str} {py spos : Pos} {el tgt iter : Expr} {ifs' : List Expr} {scope : Scope} {own : List (Str × Nat)} {elt : RE} {tg : Pat} {it : RI} {ifs : Option RT} {vs : List Nat} (hy : X.N[i]? = some y) (hyl : X.env.scope.names.lookup y = some .local)
    (hsw : swapsWith (.ListComp el [⟨tgt, iter, ifs', 0⟩] scope pos) (some (.Name y py)) spos.line X.env = pure true) (hi : PI X tgt iter (tI Y Φ it)) (ok : BlkOk X.N X.env.scope scope own) (hv : own.map (·.2) = vs)
    (hg : ∀ (s : Shared) (H : Hp) (C : Addr) (cl : List (Str × Addr)) (fp : List Addr), PG (X.blk s H scope (compEnvC scope cl C X.env) fp) tgt (tG Y tg)) (ht : ∀ (s : Shared) (H : Hp) (C : Addr) (cl : List (Str × Addr)) (fp : List Addr), PTs (X.blk s H scope (compEnvC scope cl C X.env) fp) ifs' (tTo Y Φ ifs))
    (he : ∀ (s : Shared) (H : Hp) (C : Addr) (cl : List (Str × Addr)) (fp : List Addr), PE (X.blk s H scope (compEnvC scope cl C X.env) fp) el (tE Y Φ elt)) (hs : ∀ x, foldedSetIterable iter X.env x = pure x) (hp : ∀ j ∈ patIs tg, j ∈ vs) :
    PS X (.Assign [.Name y py] (.ListComp el [⟨tgt, iter, ifs', 0⟩] scope pos) spos) (tAsg (tE Y Φ (.lc elt tg it ifs vs)) (gName i)) := by
  subst hv
  have h := ps_setLc hc hN hy hyl hsw hi ok hg ht (fun s H C cl fp => tE_F (he s H C cl fp)) hs
  exact ⟨fun pins s σ H D I q => h.run pins s σ H D I (lc_reading hp q)⟩
end
end PL

/-! PL12: which text a word stands for; every word that is checked is what it is worth. -/
namespace PL
open PySem PySem.Spec PyProof.Rows L2
structure CC where
  N : List Str
  sc : Scope
  fn : Str → Bool
structure GG where
  cs : List (String × D)
  fs : List (String × Nat)
  ks : List (Nat × Nat × List String × List Nat)
mutual
def sameD : D → D → Bool
  | .none, .none => true
  | .bool a, .bool b => a == b
  | .int a, .int b => a == b
  | .str a, .str b => a == b
  | .list a, .list b => sameL a b
  | .tuple a, .tuple b => sameL a b
  | _, _ => false
def sameL : List D → List D → Bool
  | [], [] => true
  | a :: r, b :: t => sameD a b && sameL r t
  | _, _ => false
end
mutual
theorem sameD_eq : ∀ {a b : D}, sameD a b = true → a = b
  | .none, b, h => by cases b <;> simp [sameD] at h ⊢
  | .bool a, b, h => by cases b <;> simp [sameD] at h ⊢; exact h
  | .int a, b, h => by cases b <;> simp [sameD] at h ⊢; exact h
  | .str a, b, h => by cases b <;> simp [sameD] at h ⊢; exact h
  | .list a, b, h => by cases b <;> simp [sameD] at h ⊢; exact sameL_eq h
  | .tuple a, b, h => by cases b <;> simp [sameD] at h ⊢; exact sameL_eq h
  | .dict a, b, h => by cases b <;> simp [sameD] at h
theorem sameL_eq : ∀ {a b : List D}, sameL a b = true → a = b
  | [], b, h => by cases b <;> simp [sameL] at h ⊢
  | x :: r, b, h => by
    cases b with
    | nil => simp [sameL] at h
    | cons y t =>
      simp only [sameL, Bool.and_eq_true] at h
      rw [sameD_eq h.1, sameL_eq h.2]
end
def visB (c : CC) (x : Str) : Bool := match c.sc.names.lookup x with
  | some .local => true
  | some .cell => true
  | some .free => true
  | _ => false
def glB (c : CC) (x : Str) : Bool := match c.sc.names.lookup x with
  | some .globalImplicit => true
  | _ => false
def okName (x : Str) : Bool := !(x == ("__debug__" : Str)) && !(x == ("__classdict__" : Str)) && !(x == ("__name__" : Str))
def slotB (c : CC) (i : Nat) (x : Str) : Bool := (c.N[i]? == some x) && visB c x && okName x
def locB (c : CC) (i : Nat) (x : Str) : Bool := (c.N[i]? == some x) && (match c.sc.names.lookup x with
  | some .local => true
  | some .cell => c.fn x
  | _ => false)
def constIs (d : D) : Expr → Bool
  | .Constant (.int i) _ _ => sameD d (.int i)
  | .Constant (.bool b) _ _ => sameD d (.bool b)
  | .Constant .none _ _ => sameD d .none
  | .Constant (.str x) _ _ => sameD d (.str x)
  | _ => false
def noSlice : Expr → Bool
  | .Slice _ _ _ _ => false
  | _ => true
def notSet : Expr → Bool
  | .Set _ _ _ => false
  | _ => true
def plainT : Expr → Bool
  | .UnaryOp .Not _ _ => false
  | .BoolOp _ _ _ => false
  | .IfExp _ _ _ _ => false
  | .Compare _ _ _ _ => false
  | _ => true
def attrB : Expr → Bool
  | .Call (.Name _ _) [] [] _ => false
  | _ => true
def nameOf : Blt → String
  | .len => "len" | .abs => "abs" | .max => "max" | .min => "min" | .sum => "sum" | .all => "all" | .any => "any"
  | .divmod => "divmod" | .repr => "repr" | .int => "int" | .list => "list" | .tuple => "tuple" | .dict => "dict"
def bltNames : List String := ["len", "abs", "max", "min", "sum", "all", "any", "divmod", "repr", "int", "list", "tuple", "dict", "isinstance", "range", "enumerate", "zip", "bool", "str"]
def opIs (o : BOp) (p : Operator) : Bool := match o, p with
  | .add, .Add => true | .sub, .Sub => true | .mul, .Mult => true | .mod, .Mod => true | .fdiv, .FloorDiv => true | .pow, .Pow => true
  | _, _ => false
theorem opIs_eq {o : BOp} {p : Operator} (h : opIs o p = true) : p = opOf o := by
  cases o <;> cases p <;> first | rfl | exact absurd h (by decide)
def cmIs (o : COp) (p : CmpOp) : Bool := match o, p with
  | .eq, .Eq => true | .ne, .NotEq => true | .lt, .Lt => true | .le, .LtE => true | .gt, .Gt => true | .ge, .GtE => true | .mem, .In => true | .nmem, .NotIn => true
  | _, _ => false
theorem cmIs_eq {o : COp} {p : CmpOp} (h : cmIs o p = true) : p = cOf o := by
  cases o <;> cases p <;> first | rfl | exact absurd h (by decide)
def tysIs : List String → CC → List Expr → Bool
  | [], _, [] => true
  | t :: ts, c, .Name x _ :: es => (x == Str.ofString t) && glB c x && tyOk t && tysIs ts c es
  | _, _, _ => false
def ownOf (c : CC) (vs : List Nat) : List (Str × Nat) := vs.map fun i => ((c.N[i]?).getD ("" : Str), i)
def blkCC (c : CC) (scope : Scope) : CC := ⟨c.N, relS scope c.sc, fun x => scope.names.lookup x == some .cell⟩
mutual
def chkG : Pat → CC → Expr → Bool
  | .nm i, c, .Name x _ => locB c i x
  | .ixs i k, c, .Subscript (.Name x _) (.Constant (.int z) _ _) _ => slotB c i x && (z == k)
  | .tup ps, c, .Tuple es _ _ => es.all noStar && chkGs ps c es
  | _, _, _ => false
def chkGs : List Pat → CC → List Expr → Bool
  | [], _, [] => true
  | p :: ps, c, e :: es => chkG p c e && chkGs ps c es
  | _, _, _ => false
end
variable (G : GG)
mutual
def chkE : RE → CC → Expr → Bool
  | .c d, _, e => constIs d e
  | .g x d, c, e => match e with
    | .Name id _ => (id == Str.ofString x) && glB c id && okName id && G.cs.any fun p => (p.1 == x) && sameD p.2 d
    | _ => false
  | .v i, c, e => match e with
    | .Name x _ => slotB c i x
    | _ => false
  | .bin o a b, c, e => match e with
    | .BinOp l p r _ => opIs o p && chkP a c l && chkP b c r
    | _ => false
  | .neg a, c, e => match e with
    | .UnaryOp .USub e _ => chkE a c e
    | _ => false
  | .cmp o a b, c, e => match e with
    | .Compare l [p] [r] _ => cmIs o p && !(behindInMarks p r) && chkP a c l && chkP b c r
    | _ => false
  | .isN a, c, e => match e with
    | .Compare l [.Is] [.Constant .none _ _] _ => chkP a c l
    | _ => false
  | .notN a, c, e => match e with
    | .Compare l [.IsNot] [.Constant .none _ _] _ => chkP a c l
    | _ => false
  | .and a b, c, e => match e with
    | .BoolOp .And (x :: y :: r) pos => chkE a c x && (match r with
      | [] => chkE b c y
      | z :: t => chkE b c (.BoolOp .And (y :: z :: t) pos))
    | _ => false
  | .or a b, c, e => match e with
    | .BoolOp .Or (x :: y :: r) pos => chkE a c x && (match r with
      | [] => chkE b c y
      | z :: t => chkE b c (.BoolOp .Or (y :: z :: t) pos))
    | _ => false
  | .nt a, c, e => match e with
    | .UnaryOp .Not e _ => chkE a c e
    | _ => false
  | .ite t a b, c, e => match e with
    | .IfExp te ae be _ => chkT t c te && chkE a c ae && chkE b c be
    | _ => false
  | .tup es, c, e => match e with
    | .Tuple l _ _ => chkL es c l
    | _ => false
  | .lst es, c, e => match e with
    | .List l _ => chkL es c l
    | _ => false
  | .dct0, _, e => match e with
    | .Dict [] [] _ => true
    | _ => false
  | .ix a i, c, e => match e with
    | .Subscript l r _ => chkP a c l && chkE i c r && noSlice r
    | _ => false
  | .sl a lo hi, c, e => match e with
    | .Subscript l (.Slice lo' hi' none _) _ => chkP a c l && chkO lo c lo' && chkO hi c hi'
    | _ => false
  | .call f x es, c, e => match e with
    | .Call (.Name id _) args [] _ => (id == Str.ofString x) && glB c id && okName id && (G.fs[f]? == some (x, args.length)) && args.all noStar && (es.length == args.length) && chkA es c args
    | _ => false
  | .callK f x es ks ws pm, c, e => match e with
    | .Call (.Name id _) args kws _ => (id == Str.ofString x) && glB c id && okName id && ((G.fs[f]?).map (·.1) == some x) && args.all noStar && (es.length == args.length) && chkA es c args && (ws.length == ks.length) &&
      kwIs (ks.map Str.ofString) kws && chkK ws c kws && (G.ks.any fun q => q == (f, args.length, ks, pm))
    | _ => false
  | .blt b es, c, e => match e with
    | .Call (.Name id _) (e :: args) [] _ => (id == Str.ofString (nameOf b)) && glB c id && (e :: args).all noStar && chkPs es c (e :: args)
    | _ => false
  | .isi a ts, c, e => match e with
    | .Call (.Name id _) [e, t] [] _ => (id == ("isinstance" : Str)) && glB c id && noStar e && chkP a c e && (match t with
      | .Name y _ => (ts.length == 1) && tysIs ts c [.Name y ⟨0, 0, 0, 0⟩]
      | .Tuple es _ _ => decide (ts.length ≤ 10) && tysIs ts c es
      | _ => false)
    | _ => false
  | .get2 a k e, c, x => match x with
    | .Call (.Attribute o at_ apos) [x, y] [] cpos => (at_ == ("get" : Str)) && attrB o && (apos.endLine == cpos.line) && noStar x && noStar y && chkP a c o && chkE k c x && chkE e c y
    | _ => false
  | .lc elt tg it ifs vs, c, e => match e with
    | .ListComp el [⟨t, i, is, k⟩] scope _ => (k == 0) && chkI it c i t && notSet i && blkC c.N c.sc scope (ownOf c vs) && (patIs tg).all (fun j => vs.contains j) && chkG tg (blkCC c scope) t && chkTo ifs (blkCC c scope) is && chkE elt (blkCC c scope) el
    | _ => false
def chkT : RT → CC → Expr → Bool
  | .tr e, c, x => plainT x && chkP e c x
  | .cmp o a b, c, e => match e with
    | .Compare l [p] [r] _ => cmIs o p && !(behindInMarks p r) && chkP a c l && chkP b c r
    | _ => false
  | .isN a, c, e => match e with
    | .Compare l [.Is] [.Constant .none _ _] _ => chkP a c l
    | _ => false
  | .notN a, c, e => match e with
    | .Compare l [.IsNot] [.Constant .none _ _] _ => chkP a c l
    | _ => false
  | .and a b, c, e => match e with
    | .BoolOp .And (x :: y :: r) pos => chkT a c x && (match r with
      | [] => chkT b c y
      | z :: t => chkT b c (.BoolOp .And (y :: z :: t) pos))
    | _ => false
  | .or a b, c, e => match e with
    | .BoolOp .Or (x :: y :: r) pos => chkT a c x && (match r with
      | [] => chkT b c y
      | z :: t => chkT b c (.BoolOp .Or (y :: z :: t) pos))
    | _ => false
  | .nt a, c, e => match e with
    | .UnaryOp .Not e _ => chkT a c e
    | _ => false
def chkTo : Option RT → CC → List Expr → Bool
  | none, _, es => match es with
    | [] => true
    | _ => false
  | some t, c, es => match es with
    | [e] => chkT t c e
    | _ => false
def chkP : RP → CC → Expr → Bool
  | .slot i, c, e => match e with
    | .Name x _ => slotB c i x
    | _ => false
  | .ex e, c, x => chkE e c x
def chkPs : List RP → CC → List Expr → Bool
  | [], _, es => match es with
    | [] => true
    | _ => false
  | r :: rs, c, es => match es with
    | e :: es => noStar e && chkP r c e && chkPs rs c es
    | _ => false
def chkL : List RE → CC → List Expr → Bool
  | [], _, es => match es with
    | [] => true
    | _ => false
  | r :: rs, c, es => match es with
    | e :: es => noStar e && chkE r c e && chkL rs c es
    | _ => false
def chkK : List RE → CC → List Keyword → Bool
  | [], _, es => match es with
    | [] => true
    | _ => false
  | r :: rs, c, es => match es with
    | e :: es => chkE r c e.value && chkK rs c es
    | _ => false
def chkA : List RA → CC → List Expr → Bool
  | [], _, es => match es with
    | [] => true
    | _ => false
  | r :: rs, c, es => match es with
    | e :: es => noStar e && chkAr r c e && chkA rs c es
    | _ => false
def chkAr : RA → CC → Expr → Bool
  | .e r, c, e => chkE r c e
  | .io i, c, e => match e with
    | .Name x _ => slotB c i x
    | _ => false
def chkO : RO → CC → Option Expr → Bool
  | .no, _, e => match e with
    | none => true
    | _ => false
  | .e r, c, e => match e with
    | some e => chkE r c e
    | _ => false
def chkI : RI → CC → Expr → Expr → Bool
  | .seq e, c, x, _ => chkE e c x
  | .rng1 e, c, x, _ => match x with
    | .Call (.Name id _) [a] [] _ => (id == ("range" : Str)) && glB c id && noStar a && chkE e c a
    | _ => false
  | .rng2 e f, c, x, _ => match x with
    | .Call (.Name id _) [a, b] [] _ => (id == ("range" : Str)) && glB c id && noStar a && noStar b && chkE e c a && chkE f c b
    | _ => false
  | .enum e, c, x, t => match x, t with
    | .Call (.Name id _) [a] [] _, .Tuple _ _ _ => (id == ("enumerate" : Str)) && glB c id && noStar a && chkE e c a
    | _, _ => false
  | .zip e f, c, x, t => match x, t with
    | .Call (.Name id _) [a, b] [] _, .Tuple _ _ _ => (id == ("zip" : Str)) && glB c id && noStar a && noStar b && chkE e c a && chkE f c b
    | _, _ => false
end
end PL

/-! PL13: every word that is checked is what it is worth. -/
namespace PL
open PySem PySem.Spec PyProof.Rows L2
structure XOk (X : Cx) (Φ : Fn) (G : GG) (c : CC) : Prop where
  N : X.N = c.N
  sc : X.env.scope = c.sc
  fn : ∀ x, c.fn x = true → X.fn x = true
  nd : X.N.Nodup
  calm : X.calm = true
  gd : X.A.guards = some []
  room : X.A.units + 200 < cLine
  cs : ∀ p ∈ G.cs, ∃ u v, X.mg (Str.ofString p.1) = some u ∧ RelV v u ∧ ∀ H, Rep X.K H p.2 v
  bl : ∀ x ∈ bltNames, X.mg (Str.ofString x) = none
  fs : ∀ (f : Nat) (x : String) (np : Nat), G.fs[f]? = some (x, np) → FunAt X Φ f (Str.ofString x) np
  ks : ∀ q ∈ G.ks, ∀ (x : String) (np : Nat), G.fs[q.1]? = some (x, np) → KwAt X Φ q.1 (Str.ofString x) q.2.1 (q.2.2.1.map Str.ofString) q.2.2.2
section
variable {X : Cx} {Y : Yx} {Φ : Fn} {G : GG} {c : CC}
theorem gl_of (ok : XOk X Φ G c) {x : Str} (h : glB c x = true) : Gl X x := by
  unfold glB at h
  split at h
  · rename_i e
    show X.env.scope.names.lookup x = _
    rw [ok.sc]
    exact e
  · cases h
theorem vis_of (ok : XOk X Φ G c) {x : Str} (h : visB c x = true) : Vis X.env.scope x := by
  unfold visB at h
  rw [ok.sc]
  split at h
  · exact .inl (by assumption)
  · exact .inr (.inl (by assumption))
  · exact .inr (.inr (by assumption))
  · cases h
theorem name_of {x : Str} (h : okName x = true) : (x == ("__debug__" : Str)) = false ∧ (x == ("__classdict__" : Str)) = false ∧ x ≠ "__name__" := by
  simp only [okName, Bool.and_eq_true, Bool.not_eq_true'] at h
  exact ⟨h.1.1, h.1.2, fun z => by rw [z] at h; exact absurd h.2 (by decide)⟩
theorem slot_of (ok : XOk X Φ G c) {i : Nat} {x : Str} {p : Pos} (h : slotB c i x = true) : PE X (.Name x p) (tVar i) := by
  simp only [slotB, Bool.and_eq_true, beq_iff_eq] at h
  obtain ⟨⟨h1, h2⟩, h3⟩ := h
  obtain ⟨n1, n2, _⟩ := name_of h3
  exact pe_var (by rw [ok.N]; exact h1) (vis_of ok h2) n1 n2
theorem loc_of (ok : XOk X Φ G c) {i : Nat} {x : Str} {p : Pos} (h : locB c i x = true) : PG X (.Name x p) (gName i) := by
  simp only [locB, Bool.and_eq_true, beq_iff_eq] at h
  obtain ⟨h1, h2⟩ := h
  have hN : X.N[i]? = some x := by rw [ok.N]; exact h1
  split at h2
  · rename_i e
    have e' : X.env.scope.names.lookup x = some .local := by rw [ok.sc]; exact e
    exact pg_name ok.nd hN (.inl e') (.inr e')
  · rename_i e
    exact pg_name ok.nd hN (.inr (by rw [ok.sc]; exact e)) (.inl (ok.fn x h2))
  · cases h2
theorem blk_ok (ok : XOk X Φ G c) {scope : Scope} {s : Shared} {H : Hp} {C : Addr} {cl : List (Str × Addr)} {fp : List Addr} : XOk (X.blk s H scope (compEnvC scope cl C X.env) fp) Φ G (blkCC c scope) where
  N := ok.N
  sc := by
    show relabel scope X.env = relS scope c.sc
    rw [← ok.sc]
    rfl
  fn := fun x h => h
  nd := ok.nd
  calm := ok.calm
  gd := ok.gd
  room := ok.room
  cs := ok.cs
  bl := ok.bl
  fs := fun f x np h => ⟨(ok.fs f x np h).ex⟩
  ks := fun q hq x np h => ⟨(ok.ks q hq x np h).ex⟩
theorem own_ok (ok : XOk X Φ G c) {scope : Scope} {vs : List Nat} (h : blkC c.N c.sc scope (ownOf c vs) = true) : BlkOk X.N X.env.scope scope (ownOf c vs) := by
  rw [ok.N, ok.sc]
  exact blkOk_by h
theorem own_snd (c : CC) (vs : List Nat) : (ownOf c vs).map (·.2) = vs := by
  unfold ownOf
  rw [List.map_map]
  show vs.map (fun i => i) = vs
  exact List.map_id' vs
theorem set_of {e : Expr} {env : PySem.Env} (h : notSet e = true) : ∀ x, foldedSetIterable e env x = pure x := fun x => by
  cases e <;> first | rfl | exact absurd h Bool.false_ne_true
theorem plain_of {e : Expr} {env : PySem.Env} (h : plainT e = true) : ∀ whole, isTrue e env whole = (do let v ← whole; standAt e.pos; holding [v] (truthy v)) := fun w => by
  cases e <;> first | rfl | exact absurd h Bool.false_ne_true | skip
  rename_i op a p
  cases op <;> first | rfl | exact absurd h Bool.false_ne_true
theorem attr_of' {o : Expr} {m : Str} {env : PySem.Env} {w : Sem Value} (h : attrB o = true) : attributeBase o m env w = w := by
  unfold attributeBase
  split
  · exact absurd h Bool.false_ne_true
  · rfl
theorem ix_of {e : Expr} (h : noSlice e = true) : PlainIx e := fun o i => by
  cases e <;> first | rfl | exact absurd h Bool.false_ne_true
theorem ty_boot {t : String} (h : tyOk t = true) : bootBuiltins (Str.ofString t) = some (.type t) ∧ okName (Str.ofString t) = true ∧ t ∈ bltNames := by
  have ht : t = "int" ∨ t = "bool" ∨ t = "str" ∨ t = "list" ∨ t = "tuple" ∨ t = "dict" := by
    unfold tyOk at h
    simp only [Bool.or_eq_true, beq_iff_eq] at h
    rcases h with ((((h | h) | h) | h) | h) | h <;> simp [h]
  rcases ht with rfl | rfl | rfl | rfl | rfl | rfl <;> exact ⟨by decide +kernel, by decide +kernel, by decide⟩
theorem ty_of (ok : XOk X Φ G c) {t : String} {p : Pos} (h : glB c (Str.ofString t) = true) (ho : tyOk t = true) : PE X (.Name (Str.ofString t) p) (tC (.ty t)) := by
  obtain ⟨b1, b2, b3⟩ := ty_boot ho
  obtain ⟨n1, n2, n3⟩ := name_of b2
  exact pe_bltn (gl_of ok h) (ok.bl t b3) b1 rfl n3 n1
theorem tys_of (ok : XOk X Φ G c) : ∀ {ts : List String} {es : List Expr}, tysIs ts c es = true → PA X es (fun _ H Q => Q (ts.map V.ty) H) ∧ ts.all tyOk = true
  | [], [], _ => ⟨pa_nil.weak fun _ _ _ q => q, rfl⟩
  | t :: ts, e :: es, h => by
    cases e <;> simp only [tysIs] at h <;> try exact absurd h Bool.false_ne_true
    simp only [Bool.and_eq_true, beq_iff_eq] at h
    obtain ⟨⟨⟨rfl, h2⟩, h3⟩, h4⟩ := h
    obtain ⟨a, b⟩ := tys_of ok h4
    refine ⟨(pa_cons (ty_of ok h2 h3) a (star_one rfl)).weak fun σ H Q q => q, ?_⟩
    rw [List.all_cons, h3, b]; rfl
  | [], _ :: _, h => by simp [tysIs] at h
  | t :: ts, [], h => by simp [tysIs] at h
theorem blt_boot (b : Blt) : bootBuiltins (Str.ofString (nameOf b)) = some (bvOf b) ∧ okName (Str.ofString (nameOf b)) = true ∧ nameOf b ∈ bltNames := by
  cases b <;> exact ⟨by decide +kernel, by decide +kernel, by decide⟩
theorem const_of {d : D} {e : Expr} (h : constIs d e = true) : PE X e (tE Y Φ (.c d)) := by
  unfold constIs at h
  split at h
  · rw [sameD_eq h]; exact st_c pe_int fun _ _ => by simp [Rep]
  · rw [sameD_eq h]; exact st_c pe_bl fun _ _ => by simp [Rep]
  · rw [sameD_eq h]; exact st_c pe_non fun _ _ => by simp [Rep]
  · rw [sameD_eq h]; exact st_c pe_str fun _ _ => by simp [Rep]
  · cases h
mutual
theorem sG (hK : Y.K = X.K) (ok : XOk X Φ G c) : ∀ (p : Pat) (e : Expr), chkG p c e = true → PG X e (tG Y p)
  | .nm i, e, h => by
    cases e <;> simp only [chkG] at h <;> try exact absurd h Bool.false_ne_true
    exact sg_nm (loc_of ok h)
  | .ixs i k, e, h => by
    have hx : ∃ x p z j q r, e = .Subscript (.Name x p) (.Constant (.int z) j q) r ∧ slotB c i x = true ∧ (z == k) = true := by
      unfold chkG at h
      split at h <;> first | exact absurd h Bool.false_ne_true | skip
      all_goals first
        | (rename_i e1; cases e1; rw [Bool.and_eq_true] at h; exact ⟨_, _, _, _, _, _, rfl, h.1, h.2⟩)
        | (rename_i e1 _; cases e1; done)
        | cases ‹Pat.ixs i k = _›
    obtain ⟨x, p, z, j, q, r, rfl, h1, h2⟩ := hx
    rw [beq_iff_eq] at h2
    subst h2
    exact sg_ixs (slot_of ok h1)
  | .tup ps, e, h => by
    cases e <;> simp only [chkG] at h <;> try exact absurd h Bool.false_ne_true
    rename_i es kk pos
    simp only [Bool.and_eq_true] at h
    obtain ⟨h1, h2⟩ := h
    obtain ⟨g, hl⟩ := sGs hK ok ps es h2 h1
    exact sg_tup hK ok.calm g h1 hl
theorem sGs (hK : Y.K = X.K) (ok : XOk X Φ G c) : ∀ (ps : List Pat) (es : List Expr), chkGs ps c es = true → es.all noStar = true → PGs X es (tGs Y ps) ∧ ps.length = es.length
  | [], es, h, _ => by
    cases es <;> simp only [chkGs] at h
    · exact ⟨sg_nil, rfl⟩
    · exact absurd h Bool.false_ne_true
  | p :: ps, es, h, hs => by
    cases es <;> simp only [chkGs] at h
    · exact absurd h Bool.false_ne_true
    · rename_i e es
      rw [List.all_cons, Bool.and_eq_true] at hs
      rw [Bool.and_eq_true] at h
      obtain ⟨g, hl⟩ := sGs hK ok ps es h.2 hs.2
      exact ⟨sg_cons (sG hK ok p e h.1) g hs.1, by simp [hl]⟩
end
end
end PL

/-! PL14: the words of expressions, all at once. -/
namespace PL
open PySem PySem.Spec PyProof.Rows L2
theorem ff {p : Prop} (h : false = true) : p := absurd h Bool.false_ne_true
section
variable {Y : Yx} {Φ : Fn} {G : GG}
mutual
theorem sE : ∀ (r : RE) (c : CC) (X : Cx) (e : Expr), Y.K = X.K → XOk X Φ G c → chkE G r c e = true → PE X e (tE Y Φ r)
  | .c d, c, X, e, hK, ok, h => by
    simp only [chkE] at h
    exact const_of h
  | .g x d, c, X, e, hK, ok, h => by
    simp only [chkE] at h
    split at h
    · simp only [Bool.and_eq_true, beq_iff_eq, List.any_eq_true] at h
      obtain ⟨⟨⟨rfl, h2⟩, h3⟩, p, hp, hx, hd⟩ := h
      obtain ⟨n1, _, _⟩ := name_of h3
      obtain ⟨u, v, e1, e2, e3⟩ := ok.cs p hp
      have hd := sameD_eq hd
      exact st_g (pe_glob (gl_of ok h2) (by rw [← hx]; exact e1) e2 n1) fun H => by rw [hK, ← hd]; exact e3 H
    · exact ff h
  | .v i, c, X, e, hK, ok, h => by
    simp only [chkE] at h
    split at h
    · exact st_v (slot_of ok h)
    · exact ff h
  | .bin o a b, c, X, e, hK, ok, h => by
    simp only [chkE] at h
    split at h
    · simp only [Bool.and_eq_true] at h
      obtain ⟨⟨h1, h2⟩, h3⟩ := h
      rw [opIs_eq h1]
      exact st_bin hK (sP a c X _ hK ok h2) (sP b c X _ hK ok h3)
    · exact ff h
  | .neg a, c, X, e, hK, ok, h => by
    simp only [chkE] at h
    split at h
    · exact st_neg (sE a c X _ hK ok h)
    · exact ff h
  | .cmp o a b, c, X, e, hK, ok, h => by
    simp only [chkE] at h
    split at h
    · simp only [Bool.and_eq_true, Bool.not_eq_true'] at h
      obtain ⟨⟨⟨h1, h2⟩, h3⟩, h4⟩ := h
      rw [cmIs_eq h1] at h2 ⊢
      exact st_cmp hK (by have := ok.room; omega) (sP a c X _ hK ok h3) (sP b c X _ hK ok h4) h2
    · exact ff h
  | .isN a, c, X, e, hK, ok, h => by
    simp only [chkE] at h
    split at h
    · exact st_isN (sP a c X _ hK ok h)
    · exact ff h
  | .notN a, c, X, e, hK, ok, h => by
    simp only [chkE] at h
    split at h
    · exact st_notN (sP a c X _ hK ok h)
    · exact ff h
  | .and a b, c, X, e, hK, ok, h => by
    simp only [chkE] at h
    split at h
    · rw [Bool.and_eq_true] at h
      obtain ⟨h1, h2⟩ := h
      split at h2
      · exact st_and (sE a c X _ hK ok h1) (pe_one (sE b c X _ hK ok h2))
      · exact st_and (sE a c X _ hK ok h1) (sE b c X _ hK ok h2)
    · exact ff h
  | .or a b, c, X, e, hK, ok, h => by
    simp only [chkE] at h
    split at h
    · rw [Bool.and_eq_true] at h
      obtain ⟨h1, h2⟩ := h
      split at h2
      · exact st_or (sE a c X _ hK ok h1) (pe_one (sE b c X _ hK ok h2))
      · exact st_or (sE a c X _ hK ok h1) (sE b c X _ hK ok h2)
    · exact ff h
  | .nt a, c, X, e, hK, ok, h => by
    simp only [chkE] at h
    split at h
    · exact st_nt (sE a c X _ hK ok h)
    · exact ff h
  | .ite t a b, c, X, e, hK, ok, h => by
    simp only [chkE] at h
    split at h
    · simp only [Bool.and_eq_true] at h
      obtain ⟨⟨h1, h2⟩, h3⟩ := h
      exact st_ite (sT t c X _ hK ok h1).1 (sE a c X _ hK ok h2) (sE b c X _ hK ok h3)
    · exact ff h
  | .tup es, c, X, e, hK, ok, h => by
    simp only [chkE] at h
    split at h
    · exact st_tup (sL es c X _ hK ok h)
    · exact ff h
  | .lst es, c, X, e, hK, ok, h => by
    simp only [chkE] at h
    split at h
    · exact st_lst (sL es c X _ hK ok h)
    · exact ff h
  | .dct0, c, X, e, hK, ok, h => by
    simp only [chkE] at h
    split at h
    · exact st_dct0
    · exact ff h
  | .ix a i, c, X, e, hK, ok, h => by
    simp only [chkE] at h
    split at h
    · simp only [Bool.and_eq_true] at h
      obtain ⟨⟨h1, h2⟩, h3⟩ := h
      exact st_ix hK (sP a c X _ hK ok h1) (sE i c X _ hK ok h2) (ix_of h3)
    · exact ff h
  | .sl a lo hi, c, X, e, hK, ok, h => by
    simp only [chkE] at h
    split at h
    · simp only [Bool.and_eq_true] at h
      obtain ⟨⟨h1, h2⟩, h3⟩ := h
      exact st_sl hK (sP a c X _ hK ok h1) (sO lo c X _ hK ok h2) (sO hi c X _ hK ok h3)
    · exact ff h
  | .call f x es, c, X, e, hK, ok, h => by
    simp only [chkE] at h
    split at h
    · simp only [Bool.and_eq_true, beq_iff_eq] at h
      obtain ⟨⟨⟨⟨⟨⟨rfl, h2⟩, h3⟩, h4⟩, h5⟩, h6⟩, h7⟩ := h
      obtain ⟨n1, _, _⟩ := name_of h3
      exact st_call hK ok.gd (sA es c X _ hK ok h7) (gl_of ok h2) (ok.fs f x _ h4) n1 h5 h6
    · exact ff h
  | .callK f x es ks ws pm, c, X, e, hK, ok, h => by
    simp only [chkE] at h
    split at h
    · simp only [Bool.and_eq_true, beq_iff_eq, List.any_eq_true] at h
      obtain ⟨⟨⟨⟨⟨⟨⟨⟨⟨⟨rfl, h2⟩, h3⟩, h4⟩, h5⟩, h6⟩, h7⟩, h8⟩, h9⟩, h10⟩, q, hq, hqe⟩ := h
      obtain ⟨n1, _, _⟩ := name_of h3
      cases e4 : G.fs[f]? with
      | none => rw [e4] at h4; cases h4
      | some z =>
        rw [e4] at h4
        have hz : z.1 = x := by simpa using h4
        have K := ok.ks q hq z.1 z.2 (by rw [hqe]; exact e4)
        rw [hqe, hz] at K
        exact st_callK hK ok.gd (sA es c X _ hK ok h7) (sK ws c X _ hK ok h10) (gl_of ok h2) K n1 h5 h6 h9 h8
    · exact ff h
  | .blt b es, c, X, e, hK, ok, h => by
    simp only [chkE] at h
    split at h
    · simp only [Bool.and_eq_true, beq_iff_eq] at h
      obtain ⟨⟨⟨rfl, h2⟩, h3⟩, h4⟩ := h
      obtain ⟨b1, b2, b3⟩ := blt_boot b
      obtain ⟨n1, _, n3⟩ := name_of b2
      exact st_blt hK ok.calm ok.gd ok.room (sPs es c X _ hK ok h4) (gl_of ok h2) (ok.bl _ b3) b1 n3 n1 h3
    · exact ff h
  | .isi a ts, c, X, e, hK, ok, h => by
    simp only [chkE] at h
    split at h
    · simp only [Bool.and_eq_true, beq_iff_eq] at h
      obtain ⟨⟨⟨⟨rfl, h2⟩, h3⟩, h4⟩, h5⟩ := h
      have hm := ok.bl "isinstance" (by decide)
      split at h5
      · simp only [Bool.and_eq_true, beq_iff_eq] at h5
        obtain ⟨l1, h5⟩ := h5
        cases ts with
        | nil => cases l1
        | cons t ts =>
          cases ts with
          | cons _ _ => cases l1
          | nil =>
            simp only [tysIs, Bool.and_eq_true, beq_iff_eq] at h5
            obtain ⟨⟨⟨rfl, h6⟩, h7⟩, _⟩ := h5
            exact st_isi hK (sP a c X _ hK ok h4) (ty_of ok h6 h7) h7 (gl_of ok h2) hm h3 rfl
      · rw [Bool.and_eq_true, decide_eq_true_iff] at h5
        obtain ⟨t1, t2⟩ := tys_of ok h5.2
        exact st_isiT hK (sP a c X _ hK ok h4) t1 t2 (Nat.le_trans h5.1 (by rw [sizeLine_eq]; decide)) (gl_of ok h2) hm h3
      · exact ff h5
    · exact ff h
  | .get2 a k e, c, X, x, hK, ok, h => by
    simp only [chkE] at h
    split at h
    · simp only [Bool.and_eq_true, beq_iff_eq] at h
      obtain ⟨⟨⟨⟨⟨⟨⟨rfl, h2⟩, h3⟩, h4⟩, h5⟩, h6⟩, h7⟩, h8⟩ := h
      refine st_get2 (by have := ok.room; omega) (sP a c X _ hK ok h6) (sE k c X _ hK ok h7) (sE e c X _ hK ok h8) ⟨attr_of' h2, ?_, by rw [beq_iff_eq]; exact h3, ?_⟩
      · rw [star_one h4, star_one h5]; rfl
      · rw [star_one h4, star_one h5]; rfl
    · exact ff h
  | .lc elt tg it ifs vs, c, X, e, hK, ok, h => by
    simp only [chkE] at h
    split at h
    · simp only [Bool.and_eq_true, beq_iff_eq] at h
      obtain ⟨⟨⟨⟨⟨⟨⟨rfl, h2⟩, h3⟩, h4⟩, h5⟩, h6⟩, h7⟩, h8⟩ := h
      exact st_lc ok.calm ok.nd (sI it c X _ _ hK ok h2) (own_ok ok h4) (own_snd c vs) (fun s H C cl fp => have ok2 := blk_ok (s := s) (H := H) (C := C) (cl := cl) (fp := fp) ok; sG (by exact hK) ok2 tg _ h6) (fun s H C cl fp => sTo ifs _ _ _ hK (blk_ok ok) h7) (fun s H C cl fp => sE elt _ _ _ hK (blk_ok ok) h8) (set_of h3)
        (fun j hj => by simpa using (List.all_eq_true.mp h5) j hj)
    · exact ff h
theorem sT : ∀ (t : RT) (c : CC) (X : Cx) (e : Expr), Y.K = X.K → XOk X Φ G c → chkT G t c e = true → PT X e (tT Y Φ t) ∧ ((∃ op vs p, e = .BoolOp op vs p) → PW X e (tT Y Φ t))
  | .tr e, c, X, x, hK, ok, h => by
    simp only [chkT, Bool.and_eq_true] at h
    refine ⟨st_tr hK (sP e c X _ hK ok h.2) (plain_of h.1), fun ⟨_, _, _, z⟩ => ?_⟩
    rw [z] at h
    exact ff h.1
  | .cmp o a b, c, X, e, hK, ok, h => by
    simp only [chkT] at h
    split at h
    · simp only [Bool.and_eq_true, Bool.not_eq_true'] at h
      obtain ⟨⟨⟨h1, h2⟩, h3⟩, h4⟩ := h
      rw [cmIs_eq h1] at h2 ⊢
      exact ⟨st_cmpT hK (by have := ok.room; omega) (sP a c X _ hK ok h3) (sP b c X _ hK ok h4) h2, fun ⟨_, _, _, z⟩ => by cases z⟩
    · exact ff h
  | .isN a, c, X, e, hK, ok, h => by
    simp only [chkT] at h
    split at h
    · exact ⟨st_isNT (sP a c X _ hK ok h), fun ⟨_, _, _, z⟩ => by cases z⟩
    · exact ff h
  | .notN a, c, X, e, hK, ok, h => by
    simp only [chkT] at h
    split at h
    · exact ⟨st_notNT (sP a c X _ hK ok h), fun ⟨_, _, _, z⟩ => by cases z⟩
    · exact ff h
  | .and a b, c, X, e, hK, ok, h => by
    simp only [chkT] at h
    split at h
    · rw [Bool.and_eq_true] at h
      obtain ⟨h1, h2⟩ := h
      rename_i x y r pos
      have w : PW X (.BoolOp .And (x :: y :: r) pos) (tT Y Φ (.and a b)) := by
        split at h2
        · exact st_andT (sT a c X _ hK ok h1).1 (pw_and1 (sT b c X _ hK ok h2).1)
        · exact st_andT (sT a c X _ hK ok h1).1 ((sT b c X _ hK ok h2).2 ⟨_, _, _, rfl⟩)
      exact ⟨w.pt, fun _ => w⟩
    · exact ff h
  | .or a b, c, X, e, hK, ok, h => by
    simp only [chkT] at h
    split at h
    · rw [Bool.and_eq_true] at h
      obtain ⟨h1, h2⟩ := h
      rename_i x y r pos
      have w : PW X (.BoolOp .Or (x :: y :: r) pos) (tT Y Φ (.or a b)) := by
        split at h2
        · exact st_orT (sT a c X _ hK ok h1).1 (pw_or1 (sT b c X _ hK ok h2).1)
        · exact st_orT (sT a c X _ hK ok h1).1 ((sT b c X _ hK ok h2).2 ⟨_, _, _, rfl⟩)
      exact ⟨w.pt, fun _ => w⟩
    · exact ff h
  | .nt a, c, X, e, hK, ok, h => by
    simp only [chkT] at h
    split at h
    · exact ⟨st_ntT (sT a c X _ hK ok h).1, fun ⟨_, _, _, z⟩ => by cases z⟩
    · exact ff h
theorem sTo : ∀ (t : Option RT) (c : CC) (X : Cx) (es : List Expr), Y.K = X.K → XOk X Φ G c → chkTo G t c es = true → PTs X es (tTo Y Φ t)
  | none, c, X, es, hK, ok, h => by
    simp only [chkTo] at h
    split at h
    · refine ⟨fun pins s σ H Q I g => pts_nil.run pins s σ H Q I ?_⟩
      obtain ⟨Hf, ρ, τ, b, ρ', E, ev, k⟩ := g
      simp only [evTo, Option.some.injEq, Prod.mk.injEq] at ev
      obtain ⟨rfl, rfl⟩ := ev
      exact k H Hf (.refl _) E
    · exact ff h
  | some t, c, X, es, hK, ok, h => by
    simp only [chkTo] at h
    split at h
    · refine ⟨fun pins s σ H Q I g => (pts_one (sT t c X _ hK ok h).1).run pins s σ H Q I ?_⟩
      obtain ⟨Hf, ρ, τ, b, ρ', E, ev, k⟩ := g
      simp only [evTo] at ev
      exact ⟨Hf, ρ, τ, b, ρ', E, ev, k⟩
    · exact ff h
theorem sP : ∀ (r : RP) (c : CC) (X : Cx) (e : Expr), Y.K = X.K → XOk X Φ G c → chkP G r c e = true → PE X e (tP Y Φ r)
  | .slot i, c, X, e, hK, ok, h => by
    simp only [chkP] at h
    split at h
    · exact st_slot (slot_of ok h)
    · exact ff h
  | .ex r, c, X, e, hK, ok, h => by
    simp only [chkP] at h
    exact st_ex (sE r c X e hK ok h)
theorem sPs : ∀ (rs : List RP) (c : CC) (X : Cx) (es : List Expr), Y.K = X.K → XOk X Φ G c → chkPs G rs c es = true → PA X es (tPs Y Φ rs)
  | [], c, X, es, hK, ok, h => by
    simp only [chkPs] at h
    split at h
    · exact st_pnil
    · exact ff h
  | r :: rs, c, X, es, hK, ok, h => by
    simp only [chkPs] at h
    split at h
    · simp only [Bool.and_eq_true] at h
      obtain ⟨⟨h1, h2⟩, h3⟩ := h
      exact st_pcons (sP r c X _ hK ok h2) (sPs rs c X _ hK ok h3) (star_one h1)
    · exact ff h
theorem sL : ∀ (rs : List RE) (c : CC) (X : Cx) (es : List Expr), Y.K = X.K → XOk X Φ G c → chkL G rs c es = true → PA X es (tL Y Φ rs)
  | [], c, X, es, hK, ok, h => by
    simp only [chkL] at h
    split at h
    · exact st_nil
    · exact ff h
  | r :: rs, c, X, es, hK, ok, h => by
    simp only [chkL] at h
    split at h
    · simp only [Bool.and_eq_true] at h
      obtain ⟨⟨h1, h2⟩, h3⟩ := h
      exact st_cons (sE r c X _ hK ok h2) (sL rs c X _ hK ok h3) (star_one h1)
    · exact ff h
theorem sK : ∀ (rs : List RE) (c : CC) (X : Cx) (es : List Keyword), Y.K = X.K → XOk X Φ G c → chkK G rs c es = true → PK X es (tL Y Φ rs)
  | [], c, X, es, hK, ok, h => by
    simp only [chkK] at h
    split at h
    · exact st_knil
    · exact ff h
  | r :: rs, c, X, es, hK, ok, h => by
    simp only [chkK] at h
    split at h
    · simp only [Bool.and_eq_true] at h
      obtain ⟨h1, h2⟩ := h
      rename_i e es
      obtain ⟨nm, v, p⟩ := e
      exact st_kcons (sE r c X _ hK ok h1) (sK rs c X _ hK ok h2)
    · exact ff h
theorem sA : ∀ (rs : List RA) (c : CC) (X : Cx) (es : List Expr), Y.K = X.K → XOk X Φ G c → chkA G rs c es = true → PA X es (tAr Y Φ rs)
  | [], c, X, es, hK, ok, h => by
    simp only [chkA] at h
    split at h
    · exact st_anil
    · exact ff h
  | .e r :: rs, c, X, es, hK, ok, h => by
    simp only [chkA] at h
    split at h
    · simp only [Bool.and_eq_true, chkAr] at h
      obtain ⟨⟨h1, h2⟩, h3⟩ := h
      exact st_acons (sE r c X _ hK ok h2) (sA rs c X _ hK ok h3) (star_one h1)
    · exact ff h
  | .io i :: rs, c, X, es, hK, ok, h => by
    simp only [chkA] at h
    split at h
    · simp only [Bool.and_eq_true, chkAr] at h
      obtain ⟨⟨h1, h2⟩, h3⟩ := h
      split at h2
      · exact st_aio (slot_of ok h2) (sA rs c X _ hK ok h3) (star_one h1)
      · exact ff h2
    · exact ff h
theorem sO : ∀ (r : RO) (c : CC) (X : Cx) (e : Option Expr), Y.K = X.K → XOk X Φ G c → chkO G r c e = true → PO X e (tOp' Y Φ r)
  | .no, c, X, e, hK, ok, h => by
    simp only [chkO] at h
    split at h
    · exact st_no
    · exact ff h
  | .e r, c, X, e, hK, ok, h => by
    simp only [chkO] at h
    split at h
    · exact st_some (sE r c X _ hK ok h)
    · exact ff h
theorem sI : ∀ (r : RI) (c : CC) (X : Cx) (e t : Expr), Y.K = X.K → XOk X Φ G c → chkI G r c e t = true → PI X t e (tI Y Φ r)
  | .seq r, c, X, e, t, hK, ok, h => by
    simp only [chkI] at h
    exact si_seq hK (sE r c X _ hK ok h)
  | .rng1 r, c, X, e, t, hK, ok, h => by
    simp only [chkI] at h
    split at h
    · simp only [Bool.and_eq_true, beq_iff_eq] at h
      obtain ⟨⟨⟨rfl, h2⟩, h3⟩, h4⟩ := h
      exact si_rng1 (sE r c X _ hK ok h4) (gl_of ok h2) (ok.bl "range" (by decide)) h3
    · exact ff h
  | .rng2 r r2, c, X, e, t, hK, ok, h => by
    simp only [chkI] at h
    split at h
    · simp only [Bool.and_eq_true, beq_iff_eq] at h
      obtain ⟨⟨⟨⟨⟨rfl, h2⟩, h3⟩, h4⟩, h5⟩, h6⟩ := h
      exact si_rng2 (sE r c X _ hK ok h5) (sE r2 c X _ hK ok h6) (gl_of ok h2) (ok.bl "range" (by decide)) h3 h4
    · exact ff h
  | .enum r, c, X, e, t, hK, ok, h => by
    simp only [chkI] at h
    split at h
    · simp only [Bool.and_eq_true, beq_iff_eq] at h
      obtain ⟨⟨⟨rfl, h2⟩, h3⟩, h4⟩ := h
      exact si_enum hK (sE r c X _ hK ok h4) (gl_of ok h2) (ok.bl "enumerate" (by decide)) h3
    · exact ff h
  | .zip r r2, c, X, e, t, hK, ok, h => by
    simp only [chkI] at h
    split at h
    · simp only [Bool.and_eq_true, beq_iff_eq] at h
      obtain ⟨⟨⟨⟨⟨rfl, h2⟩, h3⟩, h4⟩, h5⟩, h6⟩ := h
      exact si_zip hK (sE r c X _ hK ok h5) (sE r2 c X _ hK ok h6) (gl_of ok h2) (ok.bl "zip" (by decide)) h3 h4
    · exact ff h
end
end
end PL

/-! PL15: statements. -/
namespace PL
open PySem PySem.Spec PyProof.Rows L2
def OutK (Y : Yx) (D : Ends) (Hf : Hp) : Out → Prop
  | .nx ρ => ∀ σ' H' Hf', Same Hf Hf' → ER Y ρ [] σ' H' Hf' → D.nx σ' H'
  | .ct ρ => ∀ σ' H' Hf', Same Hf Hf' → ER Y ρ [] σ' H' Hf' → D.ct σ' H'
  | .brk ρ => ∀ σ' H' Hf', Same Hf Hf' → ER Y ρ [] σ' H' Hf' → D.bk σ' H'
  | .ret r ρ => ∀ v σ' H' Hf', Same Hf Hf' → VR Y r v ρ [] σ' H' Hf' → D.rt v H'
theorem OutK.mono {Y : Yx} {D : Ends} {Hf Hf' : Hp} (s : Same Hf Hf') : ∀ {o : Out}, OutK Y D Hf o → OutK Y D Hf' o
  | .nx _, h => fun σ H G t => h σ H G (s.trans t)
  | .ct _, h => fun σ H G t => h σ H G (s.trans t)
  | .brk _, h => fun σ H G t => h σ H G (s.trans t)
  | .ret _ _, h => fun v σ H G t => h v σ H G (s.trans t)
def tS (Y : Yx) (Φ : Fn) (w : Nat) (st : RS) : TS := fun D σ H => ∃ (Hf : Hp) (ρ : Env) (o : Out), ER Y ρ [] σ H Hf ∧ evS Φ w st ρ = some o ∧ OutK Y D Hf o
def tB (Y : Yx) (Φ : Fn) (w : Nat) (b : List RS) : TS := fun D σ H => ∃ (Hf : Hp) (ρ : Env) (o : Out), ER Y ρ [] σ H Hf ∧ evB Φ w b ρ = some o ∧ OutK Y D Hf o
theorem PS_weak {X : Cx} {e : Stmt} {t u : TS} (h : PS X e t) (w : ∀ D σ H, u D σ H → t D σ H) : PS X e u := ⟨fun pins s σ H D I q => h.run pins s σ H D I (w D σ H q)⟩
theorem PSs_weak {X : Cx} {e : List Stmt} {t u : TS} (h : PSs X e t) (w : ∀ D σ H, u D σ H → t D σ H) : PSs X e u := ⟨fun pins s σ H D I q => h.run pins s σ H D I (w D σ H q)⟩

section
variable {Y : Yx} {ρ : Env} {τ : List (D × Addr)} {σ : SV} {H Hf : Hp}
theorem ER.perm {τ' : List (D × Addr)} (p : τ.Perm τ') (E : ER Y ρ τ σ H Hf) : ER Y ρ τ' σ H Hf :=
  ⟨E.sub, E.base, E.keep, E.new, E.len, E.val, E.own, E.io, E.iob, E.ap, fun t ht => E.tmp t (p.mem_iff.mpr ht), (p.map (·.2)).nodup_iff.mp E.tnd, fun i a h e hm => E.tap i a h e ((p.map (·.2)).mem_iff.mpr hm)⟩
/-- a slot's own thing is given away -/
theorem ER.give (E : ER Y ρ τ σ H Hf) {i : Nat} {d : D} {a : Addr} (h : ρ[i]? = some (.own d)) (e0 : σ[i]? = some (some (.ref a))) : ER Y (ρ.set i .un) ((d, a) :: τ) σ H Hf := by
  have nh : ∀ {j}, Held (ρ.set i .un) j → j ≠ i ∧ Held ρ j := fun h => held_set (fun _ => ⟨by simp, by simp⟩) h
  have un : ∀ {x : SD} {j : Nat}, x ≠ .un → (ρ.set i .un)[j]? = some x → j ≠ i ∧ ρ[j]? = some x := fun {x j} hx h => by
    by_cases eq : i = j
    · subst eq
      rw [List.getElem?_set] at h
      simp only [if_true] at h
      split at h
      · cases h; exact absurd rfl hx
      · cases h
    · rw [List.getElem?_set_ne eq] at h
      exact ⟨Ne.symm eq, h⟩
  obtain ⟨b, e1, w, z⟩ := E.own i d h
  rw [e0] at e1; cases e1
  refine ⟨E.sub, E.base, E.keep, E.new, by rw [List.length_set]; exact E.len, fun j e hj => E.val j e (un (by simp) hj).2, fun j e hj => E.own j e (un (by simp) hj).2, fun j e hj => E.io j e (un (by simp) hj).2, fun p hp => ?_, fun j k b h1 h2 => E.ap j k b (nh h1).2 (nh h2).2, fun t ht => ?_, ?_, fun j b h1 e1 hm => ?_⟩
  · obtain ⟨e, e1, e2⟩ := E.iob p hp
    by_cases eq : i = p.1
    · rw [← eq, h] at e1; cases e1
    · exact ⟨e, by rw [List.getElem?_set_ne eq]; exact e1, e2⟩
  · rcases List.mem_cons.mp ht with rfl | ht
    · exact ⟨w, z⟩
    · exact E.tmp t ht
  · refine List.nodup_cons.mpr ⟨fun hm => E.tap i a ⟨d, .inl h⟩ e0 hm, E.tnd⟩
  · obtain ⟨n1, h1⟩ := nh h1
    rcases List.mem_cons.mp hm with z | z
    · have z : b = a := z
      subst z
      exact n1 (E.ap j i _ h1 ⟨d, .inl h⟩ e1 e0)
    · exact E.tap j b h1 e1 z
theorem chgS_ok2 {i : Nat} {f : D → Option D} {ρ' : Env} (E : ER Y ρ τ σ H Hf) (h : chgS ρ i f = some ρ') : ∃ a d d', σ[i]? = some (some (.ref a)) ∧ Own Y.K Hf H a d ∧ f d = some d' ∧ (getS ρ i = .own d ∨ getS ρ i = .io d) ∧
    ∀ o, Own Y.K Hf (upd H a o) a d' → ER Y ρ' τ σ (upd H a o) Hf := by
  unfold chgS at h
  split at h
  · rename_i d e
    obtain ⟨d', q, rfl⟩ := map_some' h
    obtain ⟨a, e1, w, _⟩ := E.own i d (getS_some e (by simp))
    exact ⟨a, d, d', e1, w, q, .inl e, fun o w' => (E.chg e1 w').1 (getS_some e (by simp))⟩
  · rename_i d e
    obtain ⟨d', q, rfl⟩ := map_some' h
    obtain ⟨a, e1, w, _⟩ := E.io i d (getS_some e (by simp))
    exact ⟨a, d, d', e1, w, q, .inr e, fun o w' => (E.chg e1 w').2 (getS_some e (by simp))⟩
  · cases h
/-- several values in a row -/
def RVs (K : PySem.W.Frag) (Hf : Hp) : List RV → List V → List (D × Addr) → Prop
  | [], vs, τ => vs = [] ∧ τ = []
  | .val d :: rs, vs, τ => ∃ v r, vs = v :: r ∧ Rep K Hf d v ∧ RVs K Hf rs r τ
  | .own d :: rs, vs, τ => ∃ a r t, vs = .ref a :: r ∧ τ = (d, a) :: t ∧ RVs K Hf rs r t
theorem RVs.mono {K : PySem.W.Frag} {Hf Hf' : Hp} (s : Same Hf Hf') : ∀ {rs : List RV} {vs : List V} {τ : List (D × Addr)}, RVs K Hf rs vs τ → RVs K Hf' rs vs τ
  | [], _, _, h => h
  | .val d :: rs, _, _, ⟨v, r, e, h, g⟩ => ⟨v, r, e, h.mono s, RVs.mono s g⟩
  | .own d :: rs, _, _, ⟨a, r, t, e, e2, g⟩ => ⟨a, r, t, e, e2, RVs.mono s g⟩
def setAll (σ : SV) : List Nat → List V → SV
  | i :: is, v :: vs => setAll (σ.set i (some v)) is vs
  | _, _ => σ
theorem putN_ok : ∀ {is : List Nat} {rs : List RV} {ρ ρ' : Env} {vs : List V} {τ' : List (D × Addr)} {σ : SV}, putN is rs ρ = some ρ' → RVs Y.K Hf rs vs τ' → ER Y ρ (τ' ++ τ) σ H Hf → ER Y ρ' τ (setAll σ is vs) H Hf
  | [], rs, ρ, ρ', vs, τ', σ, e, r, E => by
    cases rs with
    | nil =>
      simp only [putN] at e
      cases e
      obtain ⟨rfl, rfl⟩ := r
      exact E
    | cons _ _ => simp [putN] at e
  | i :: is, rs, ρ, ρ', vs, τ', σ, e, r, E => by
    cases rs with
    | nil => simp [putN] at e
    | cons x rs =>
      simp only [putN, Option.bind_eq_some_iff] at e
      obtain ⟨ρ1, e1, e2⟩ := e
      cases x with
      | val d =>
        obtain ⟨v, r', rfl, h, g⟩ := r
        exact putN_ok (is := is) (σ := σ.set i (some v)) e2 g (putS_ok e1 (show VR Y (.val d) v ρ (τ' ++ τ) σ H Hf from ⟨E, h⟩))
      | own d =>
        obtain ⟨a, r', t, rfl, rfl, g⟩ := r
        exact putN_ok (is := is) (σ := σ.set i (some (.ref a))) e2 g (putS_ok e1 (show VR Y (.own d) (.ref a) ρ (t ++ τ) σ H Hf from ⟨a, rfl, E⟩))
end
section
variable {X : Cx} {Y : Yx} {Φ : Fn} {w : Nat} {pos : Pos}
def tR (Y : Yx) (Φ : Fn) (es : List RE) : TA := fun σ H Q => ∃ (Hf : Hp) (ρ : Env) (τ : List (D × Addr)) (rs : List RV) (ρ' : Env), ER Y ρ τ σ H Hf ∧ evR Φ es ρ = some (rs, ρ') ∧
  ∀ vs H' Hf' τ', Same Hf Hf' → RVs Y.K Hf' rs vs τ' → ER Y ρ' (τ' ++ τ) σ H' Hf' → Q vs H'
theorem st_rnil : PA X [] (tR Y Φ []) := pa_nil.weak fun σ H Q ⟨Hf, ρ, τ, x, ρ', E, ev, k⟩ => by
  simp only [evR, Option.some.injEq, Prod.mk.injEq] at ev
  obtain ⟨rfl, rfl⟩ := ev
  exact k [] H Hf [] (.refl _) ⟨rfl, rfl⟩ E
theorem st_rcons {e : Expr} {es : List Expr} {r : RE} {rs : List RE} (h : PE X e (tE Y Φ r)) (g : PA X es (tR Y Φ rs)) (hs : noStar e = true) : PA X (e :: es) (tR Y Φ (r :: rs)) :=
  (pa_cons h g (star_one hs)).weak fun σ H Q ⟨Hf, ρ, τ, x, ρ', E, ev, k⟩ => by
    simp only [evR, Option.bind_eq_some_iff, Option.map_eq_some_iff] at ev
    obtain ⟨p, ep, q, eq, e3⟩ := ev
    cases e3
    refine ⟨Hf, ρ, τ, p.1, p.2, E, ep, fun v H1 Hf1 s1 vr => ?_⟩
    cases hp : p.1 with
    | val d =>
      rw [hp] at vr k
      obtain ⟨E1, rp⟩ := vr
      exact ⟨Hf1, p.2, τ, q.1, q.2, E1, eq, fun vs H2 Hf2 τ' s2 rv E2 => k _ H2 Hf2 τ' (s1.trans s2) ⟨v, vs, rfl, rp.mono s2, rv⟩ E2⟩
    | own d =>
      rw [hp] at vr k
      obtain ⟨a, rfl, E1⟩ := vr
      refine ⟨Hf1, p.2, (d, a) :: τ, q.1, q.2, E1, eq, fun vs H2 Hf2 τ' s2 rv E2 => k _ H2 Hf2 ((d, a) :: τ') (s1.trans s2) ⟨a, vs, τ', rfl, rfl, rv⟩ (E2.perm ?_)⟩
      exact List.perm_middle
/-- blocks -/
theorem sb_nil : PSs X [] (tB Y Φ w []) := PSs_weak pss_nil fun D σ H ⟨Hf, ρ, o, E, ev, k⟩ => by
  simp only [evB] at ev
  cases ev
  exact k σ H Hf (.refl _) E
theorem sb_cons {s : Stmt} {ss : List Stmt} {r : RS} {rs : List RS} (h : PS X s (tS Y Φ w r)) (g : PSs X ss (tB Y Φ w rs)) : PSs X (s :: ss) (tB Y Φ w (r :: rs)) :=
  PSs_weak (pss_cons h g) fun D σ H ⟨Hf, ρ, o, E, ev, k⟩ => by
    simp only [evB] at ev
    cases e1 : evS Φ w r ρ with
    | none => rw [e1] at ev; cases ev
    | some o1 =>
      rw [e1] at ev
      refine ⟨Hf, ρ, o1, E, e1, ?_⟩
      cases o1 with
      | nx ρ1 => exact fun σ1 H1 Hf1 s1 E1 => ⟨Hf1, ρ1, o, E1, ev, k.mono s1⟩
      | ct ρ1 => cases ev; exact k
      | brk ρ1 => cases ev; exact k
      | ret x ρ1 => cases ev; exact k
/-- name = e -/
theorem ss_asg {e : Stmt} {r : RE} {i : Nat} (h : PS X e (tAsg (tE Y Φ r) (gName i))) : PS X e (tS Y Φ w (.asg (.nm i) r)) := PS_weak h fun D σ H ⟨Hf, ρ, o, E, ev, k⟩ => by
  simp only [evS, Option.bind_eq_some_iff, Option.map_eq_some_iff, putV] at ev
  obtain ⟨q, eq, ρ2, ep, e3⟩ := ev
  cases e3
  exact ⟨Hf, ρ, [], q.1, q.2, E, eq, fun v H1 Hf1 s1 vr => k _ H1 Hf1 s1 (putS_ok ep vr)⟩
/-- a, b = e -/
theorem ss_asgT {e : Expr} {tg : Expr} {r : RE} {ps : List Pat} (h : PE X e (tE Y Φ r)) (g : PG X tg (tG Y (.tup ps))) (hs : swapsWithSole [tg] e pos.line X.env = pure false) (hw : swappedStores [tg] e X.env = pure none) (hn : noStar tg = true) : PS X (.Assign [tg] e pos) (tS Y Φ w (.asg (.tup ps) r)) :=
  PS_weak (ps_asg (tE_F h) g hs hw (by rw [asg_one hn]; rfl)) fun D σ H ⟨Hf, ρ, o, E, ev, k⟩ => by
    simp only [evS, Option.bind_eq_some_iff, Option.map_eq_some_iff, putV] at ev
    obtain ⟨q, eq, ρ2, ep, e3⟩ := ev
    cases e3
    exact ⟨Hf, ρ, [], q.1, q.2, E, eq, fun v H1 Hf1 s1 E1 rp => ⟨Hf1, q.2, [], q.1.d, ρ2, E1, rp, ep, fun σ' H' E' _ _ => k σ' H' Hf1 s1 E'⟩⟩
/-- x[k] = e -/
theorem ss_setIx (hu : X.A.units + 1 < cLine) {o : Expr} {kx e : Expr} {i : Nat} {k r : RE} {p : Pos} (ho : PE X o (tVar i)) (hk : PE X kx (tE Y Φ k)) (h : PE X e (tE Y Φ r)) (hsl : noSlice kx = true) : PS X (.Assign [.Subscript o kx p] e pos) (tS Y Φ w (.setIx i k r)) := by
  have hsw : swapsWith e (some (.Subscript o kx p)) pos.line X.env = pure false := by
    cases e <;> rfl
  have ha : ∀ v, assign (.Subscript o kx p) X.env v = (do
      let ov ← holding [v] (eval o X.env)
      let iv ← holding [v, ov] (eval kx X.env)
      standAt p
      holding [v, ov, iv] (setItem ov iv v)
      release [v, ov, iv] []) := fun v => by
    cases kx <;> first | rfl | exact absurd hsl Bool.false_ne_true
  refine ⟨fun pins s σ H D I g => ?_⟩
  obtain ⟨Hf, ρ, o', E, ev, kk⟩ := g
  simp only [evS] at ev
  split at ev
  · rename_i hh
    simp only [Option.bind_eq_some_iff, Option.map_eq_some_iff] at ev
    obtain ⟨q, eq, r1, er, ρ2, ec, e3⟩ := ev
    cases e3
    obtain ⟨a0, ea0⟩ : ∃ a, σ[i]? = some (some (.ref a)) := by
      unfold heldS at hh
      split at hh
      · rename_i d hd
        obtain ⟨a, e1, _⟩ := E.own i d (getS_some hd (by simp))
        exact ⟨a, e1⟩
      · rename_i d hd
        obtain ⟨a, e1, _⟩ := E.io i d (getS_some hd (by simp))
        exact ⟨a, e1⟩
      · cases hh
    obtain ⟨d0, d1, hd1⟩ : ∃ d0 d1, setD r1.1.d q.1.d d0 = some d1 ∧ (getS r1.2 i = .own d0 ∨ getS r1.2 i = .io d0) := by
      unfold chgS at ec
      split at ec
      · rename_i d hd
        obtain ⟨d1, e1, _⟩ := map_some' ec
        exact ⟨d, d1, e1, .inl hd⟩
      · rename_i d hd
        obtain ⟨d1, e1, _⟩ := map_some' ec
        exact ⟨d, d1, e1, .inr hd⟩
      · cases ec
    obtain ⟨hd1, hget⟩ := hd1
    have low : ∀ {H2 Hf2 : Hp}, ER Y r1.2 [] σ H2 Hf2 → Own Y.K Hf2 H2 a0 d0 ∧ ∀ o, Own Y.K Hf2 (upd H2 a0 o) a0 d1 → ER Y ρ2 [] σ (upd H2 a0 o) Hf2 := fun {H2 Hf2} E2 => by
      obtain ⟨a, d, d', e0, w', ef, hg, go⟩ := chgS_ok2 E2 ec
      rw [ea0] at e0; cases e0
      have ed : d = d0 := by
        rcases hget with h1 | h1 <;> rcases hg with h2 | h2 <;> rw [h1] at h2 <;> cases h2 <;> rfl
      subst ed
      rw [hd1] at ef; cases ef
      exact ⟨w', go⟩
    cases d0 with
    | list ds0 =>
      simp only [setD] at hd1
      split at hd1
      · rename_i z ez
        obtain ⟨j, ej, rfl⟩ := map_some' hd1
        refine (ps_asg (tE_F h) (pg_sub ho (tE_F hk) set_list ha) (show swapsWithSole _ _ _ _ = _ from hsw) rfl rfl).run pins s σ H D I ⟨Hf, ρ, [], q.1, q.2, E, eq, fun v H1 Hf1 s1 E1 rp => ?_⟩
        refine ⟨.ref a0, ea0, ⟨Hf1, q.2, [], r1.1, r1.2, E1, er, fun v2 H2 Hf2 s2 E2 rp2 => ?_⟩⟩
        obtain ⟨⟨n, vs, hv, rl⟩, go⟩ := low E2
        rw [ez] at rp2
        simp only [Rep] at rp2
        exact ⟨a0, vs, z, j, rfl, rp2, hv, by rw [← rl.len]; exact ej, kk σ _ Hf2 (s1.trans s2) (go _ ⟨n, _, upd_same, rl.set (rp.mono s2) _⟩)⟩
      · cases hd1
    | dict kvs0 =>
      simp only [setD] at hd1
      split at hd1
      · rename_i hc
        cases hd1
        obtain ⟨kk0, ek⟩ := Option.isSome_iff_exists.mp hc.1
        refine (ps_dput hu ho (tE_F hk) (tE_F h) hsw).run pins s σ H D I ?_
        refine ⟨Hf, ρ, [], q.1, q.2, E, eq, fun v H1 Hf1 s1 E1 rp => ?_⟩
        refine ⟨.ref a0, ea0, ⟨Hf1, q.2, [], r1.1, r1.2, E1, er, fun v2 H2 Hf2 s2 E2 rp2 => ?_⟩⟩
        obtain ⟨⟨n, ks, hv, rk⟩, go⟩ := low E2
        have ew := keyOf_rep ek rp2
        refine ⟨a0, _, rfl, by rw [ew]; exact .k hv (by rw [← rk.len]; exact hc.2), kk σ _ Hf2 (s1.trans s2) (go _ ⟨n, _, upd_same, ?_⟩)⟩
        rw [keyOf_ok ek]
        exact rk.put (rp.mono s2)
      · cases hd1
    | none => cases hd1
    | bool _ => cases hd1
    | int _ => cases hd1
    | str _ => cases hd1
    | tuple _ => cases hd1
  · cases ev
end
end PL

/-! PL16: more statements. -/
namespace PL
open PySem PySem.Spec PyProof.Rows L2
section
variable {X : Cx} {Y : Yx} {Φ : Fn} {w : Nat} {pos : Pos}
theorem ss_ex {e : Expr} {r : RE} (h : PE X e (tE Y Φ r)) (hs : swapsWith e none pos.line X.env = pure false) : PS X (.Expr e pos) (tS Y Φ w (.ex r)) := PS_weak (ps_expr (tE_F h) hs) fun D σ H ⟨Hf, ρ, o, E, ev, k⟩ => by
  simp only [evS, Option.map_eq_some_iff] at ev
  obtain ⟨q, eq, e3⟩ := ev
  cases e3
  exact ⟨Hf, ρ, [], q.1, q.2, E, eq, fun v H1 Hf1 s1 E1 _ => k σ H1 Hf1 s1 E1⟩
theorem ss_ret {e : Expr} {r : RE} (h : PE X e (tE Y Φ r)) : PS X (.Return (some e) pos) (tS Y Φ w (.ret r)) := PS_weak (ps_ret h) fun D σ H ⟨Hf, ρ, o, E, ev, k⟩ => by
  simp only [evS, Option.map_eq_some_iff] at ev
  obtain ⟨q, eq, e3⟩ := ev
  cases e3
  exact ⟨Hf, ρ, [], q.1, q.2, E, eq, fun v H1 Hf1 s1 vr => k v σ H1 Hf1 s1 vr⟩
theorem ss_retS {e : Expr} {i : Nat} (h : PE X e (tVar i)) : PS X (.Return (some e) pos) (tS Y Φ w (.retS i)) := PS_weak (ps_ret h) fun D σ H ⟨Hf, ρ, o, E, ev, k⟩ => by
  simp only [evS] at ev
  split at ev
  · rename_i d hd
    cases ev
    obtain ⟨v, e1, r⟩ := E.val i d (getS_some hd (by simp))
    exact ⟨v, e1, k v σ H Hf (.refl _) ⟨E, r⟩⟩
  · rename_i d hd
    cases ev
    obtain ⟨a, e1, _⟩ := E.own i d (getS_some hd (by simp))
    exact ⟨.ref a, e1, k _ σ H Hf (.refl _) ⟨a, rfl, E.give (getS_some hd (by simp)) e1⟩⟩
  · cases ev
theorem ss_retN : PS X (.Return none pos) (tS Y Φ w .retN) := PS_weak ps_retN fun D σ H ⟨Hf, ρ, o, E, ev, k⟩ => by
  simp only [evS] at ev
  cases ev
  exact k .non σ H Hf (.refl _) ⟨E, by simp [Rep]⟩
theorem ss_pass : PS X (.Pass pos) (tS Y Φ w .pass) := PS_weak ps_pass fun D σ H ⟨Hf, ρ, o, E, ev, k⟩ => by
  simp only [evS] at ev
  cases ev
  exact k σ H Hf (.refl _) E
theorem ss_ct : PS X (.Continue pos) (tS Y Φ w .ct) := PS_weak ps_continue fun D σ H ⟨Hf, ρ, o, E, ev, k⟩ => by
  simp only [evS] at ev
  cases ev
  exact k σ H Hf (.refl _) E
theorem ss_brk : PS X (.Break pos) (tS Y Φ w .brk) := PS_weak ps_break fun D σ H ⟨Hf, ρ, o, E, ev, k⟩ => by
  simp only [evS] at ev
  cases ev
  exact k σ H Hf (.refl _) E
theorem ss_bad {st : Stmt} : PS X st (tS Y Φ w .bad) := PS_weak ps_never fun D σ H ⟨Hf, ρ, o, E, ev, k⟩ => by
  simp only [evS] at ev
  cases ev
theorem ss_if {c : Expr} {a b : List Stmt} {t : RT} {p q : List RS} (hc : PT X c (tT Y Φ t)) (ha : PSs X a (tB Y Φ w p)) (hb : PSs X b (tB Y Φ w q)) : PS X (.If c a b pos) (tS Y Φ w (.iF t p q)) := PS_weak (ps_if hc ha hb) fun D σ H ⟨Hf, ρ, o, E, ev, k⟩ => by
  simp only [evS, Option.bind_eq_some_iff] at ev
  obtain ⟨z, ez, e3⟩ := ev
  refine ⟨Hf, ρ, [], z.1, z.2, E, ez, fun H1 Hf1 s1 E1 => ?_⟩
  cases hz : z.1 with
  | true =>
    rw [hz, if_pos rfl] at e3
    exact iteT ⟨Hf1, z.2, o, E1, e3, k.mono s1⟩
  | false =>
    rw [hz, if_neg Bool.false_ne_true] at e3
    exact iteF ⟨Hf1, z.2, o, E1, e3, k.mono s1⟩
theorem ss_for (hp : PassesOwn (model X.prog X.w) X.A X.env X.xe) (hc : X.calm = true) {tg iter : Expr} {body : List Stmt} {p : Pat} {it : RI} {b : List RS} (hi : PI X tg iter (tI Y Φ it)) (hg : PG X tg (tG Y p)) (hb : PSs X body (tB Y Φ w b)) (hs : ∀ x, foldedSetIterable iter X.env x = pure x) :
    PS X (.For tg iter body [] pos) (tS Y Φ w (.for_ p it b)) := PS_weak (ps_for hp hc hi hg hb hs) fun D σ H ⟨Hf, ρ, o, E, ev, k⟩ => by
  simp only [evS, Option.bind_eq_some_iff] at ev
  obtain ⟨q, eq, e3⟩ := ev
  refine ⟨Hf, ρ, [], q.1, q.2, E, eq, fun J H1 Hf1 s1 E1 io => ?_⟩
  obtain ⟨Gp, Yy, W, hG, hY⟩ := io
  refine for_it W (fun i σ H => ∃ (Hf3 : Hp) (ρi : Env), ER Y ρi [] σ H Hf3 ∧ Same Hf1 Hf3 ∧ forL p (fun ρ' => evB Φ w b ρ') (q.1.drop i) ρi = some o) ⟨Hf1, q.2, E1, .refl _, e3⟩
    (fun i σ H hi ⟨Hf3, ρi, E3, s3, _⟩ => hG H (s3.trans E3.sub)) (fun i x σ H H' hi ⟨Hf3, ρi, E3, s3, fl⟩ y => ?_) fun σ H ⟨Hf3, ρi, E3, s3, fl⟩ => ?_
  · have hd : q.1[i]? = some q.1[i] := List.getElem?_eq_getElem hi
    have dr : q.1.drop i = q.1[i] :: q.1.drop (i + 1) := List.drop_eq_getElem_cons hi
    rw [dr] at fl
    obtain ⟨Hf4, s4, E4, r4⟩ : ∃ Hf4, Same Hf3 Hf4 ∧ ER Y ρi [] σ H' Hf4 ∧ Rep Y.K Hf4 q.1[i] x := by
      rcases hY i H x H' Hf3 _ s3 E3.sub hd y with ⟨rfl, r⟩ | ⟨T, o, nT, rfl, r⟩
      · exact ⟨Hf3, .refl _, E3, r⟩
      · exact ⟨_, same_upd (E3.freshF nT), E3.grow nT, r⟩
    unfold forL at fl
    cases ep : putP p q.1[i] ρi with
    | none => rw [ep] at fl; cases fl
    | some ρ5 =>
      rw [ep] at fl
      simp only at fl
      refine ⟨Hf4, ρi, [], q.1[i], ρ5, E4, r4, ep, fun σ2 H2 E5 _ _ => ?_⟩
      cases eb : evB Φ w b ρ5 with
      | none => rw [eb] at fl; cases fl
      | some ob =>
        rw [eb] at fl
        refine ⟨Hf4, ρ5, ob, E5, eb, ?_⟩
        have sx : Same Hf1 Hf4 := s3.trans s4
        cases ob with
        | nx ρ6 => exact fun σ3 H3 Hf6 s6 E6 => ⟨Hf6, ρ6, E6, sx.trans s6, fl⟩
        | ct ρ6 => exact fun σ3 H3 Hf6 s6 E6 => ⟨Hf6, ρ6, E6, sx.trans s6, fl⟩
        | brk ρ6 =>
          cases fl
          exact fun σ3 H3 Hf6 s6 E6 => k σ3 H3 Hf6 (s1.trans (sx.trans s6)) E6
        | ret r ρ6 =>
          cases fl
          exact fun v σ3 H3 Hf6 s6 vr => k v σ3 H3 Hf6 (s1.trans (sx.trans s6)) vr
  · rw [List.drop_length] at fl
    have fl : some (Out.nx ρi) = some o := fl
    cases fl
    exact k σ H Hf3 (s1.trans s3) E3
theorem ss_while (hp : PassesOwn (model X.prog X.w) X.A X.env X.xe) {c : Expr} {body : List Stmt} {t : RT} {b : List RS} (hc : PT X c (tT Y Φ t)) (hb : PSs X body (tB Y Φ w b)) : PS X (.While c body [] pos) (tS Y Φ w (.while_ t b)) := PS_weak (ps_while hp hc hb) fun D σ H ⟨Hf, ρ, o, E, ev, k⟩ => by
  simp only [evS] at ev
  refine ⟨fun m σ H => ∃ (Hf3 : Hp) (ρi : Env), ER Y ρi [] σ H Hf3 ∧ Same Hf Hf3 ∧ whileL (fun ρ' => evT Φ t ρ') (fun ρ' => evB Φ w b ρ') m ρi = some o, ⟨w, Hf, ρ, E, .refl _, ev⟩, fun m σ H ⟨Hf3, ρi, E3, s3, wl⟩ => ?_⟩
  cases m with
  | zero => cases wl
  | succ m =>
    unfold whileL at wl
    cases et : evT Φ t ρi with
    | none => rw [et] at wl; cases wl
    | some z =>
      obtain ⟨bb, ρ2⟩ := z
      rw [et] at wl
      refine ⟨Hf3, ρi, [], bb, ρ2, E3, et, fun H4 Hf4 s4 E4 => ?_⟩
      cases bb with
      | false =>
        cases wl
        exact iteF (k σ H4 Hf4 (s3.trans s4) E4)
      | true =>
        simp only at wl
        refine iteT ⟨fun σ H => ∃ (Hf3 : Hp) (ρi : Env), ER Y ρi [] σ H Hf3 ∧ Same Hf Hf3 ∧ whileL (fun ρ' => evT Φ t ρ') (fun ρ' => evB Φ w b ρ') m ρi = some o, fun σ' H' q => ⟨m, Nat.lt_succ_self m, q⟩, ?_⟩
        cases eb : evB Φ w b ρ2 with
        | none => rw [eb] at wl; cases wl
        | some ob =>
          rw [eb] at wl
          refine ⟨Hf4, ρ2, ob, E4, eb, ?_⟩
          have sx : Same Hf Hf4 := s3.trans s4
          cases ob with
          | nx ρ6 => exact fun σ3 H3 Hf6 s6 E6 => ⟨Hf6, ρ6, E6, sx.trans s6, wl⟩
          | ct ρ6 => exact fun σ3 H3 Hf6 s6 E6 => ⟨Hf6, ρ6, E6, sx.trans s6, wl⟩
          | brk ρ6 =>
            cases wl
            exact fun σ3 H3 Hf6 s6 E6 => k σ3 H3 Hf6 (sx.trans s6) E6
          | ret r ρ6 =>
            cases wl
            exact fun v σ3 H3 Hf6 s6 vr => k v σ3 H3 Hf6 (sx.trans s6) vr
/-- x.append(e), x.extend(e) -/
def mtName : Mut → String
  | .append => "append"
  | .extend => "extend"
theorem ss_mut (hK : Y.K = X.K) {o e : Expr} {i : Nat} {r : RE} {m : Mut} {apos cpos : Pos} (ho : PE X o (tVar i)) (h : PE X e (tE Y Φ r)) (hb : attributeBase o (Str.ofString (mtName m)) X.env (eval o X.env) = eval o X.env) (hl : (apos.endLine == cpos.line) = true) (hs : noStar e = true) :
    PS X (.Expr (.Call (.Attribute o (Str.ofString (mtName m)) apos) [e] [] cpos) pos) (tS Y Φ w (.mut m i r)) := by
  have few : ((backTo cpos (starEach [e] X.env)).all (fun x => !x.1) && (backToKw cpos (keywordEach [] X.env)).all (fun x => x.1.isSome) && decide (([e] : List Expr).length + ([] : List Keyword).length + (if ([] : List Keyword).isEmpty then 0 else 1) < 30)) = true := by
    rw [star_one hs]; rfl
  have plain : (backTo cpos (starEach [] X.env)).any (·.1) = false := rfl
  refine ⟨fun pins s σ H D I g => ?_⟩
  obtain ⟨Hf, ρ, o', E, ev, kk⟩ := g
  simp only [evS] at ev
  split at ev
  · rename_i hh
    simp only [Option.bind_eq_some_iff, Option.map_eq_some_iff] at ev
    obtain ⟨q, eq, ρ2, ec, e3⟩ := ev
    cases e3
    obtain ⟨a0, vs0, ea0, hv0⟩ : ∃ a vs, σ[i]? = some (some (.ref a)) ∧ H a = some (.lst vs) := by
      unfold lstS at hh
      split at hh
      · rename_i ds hd
        obtain ⟨a, e1, ⟨_, vs, hv, _⟩, _⟩ := E.own i _ (getS_some hd (by simp))
        exact ⟨a, vs, e1, hv⟩
      · rename_i ds hd
        obtain ⟨a, e1, ⟨_, vs, hv, _⟩, _⟩ := E.io i _ (getS_some hd (by simp))
        exact ⟨a, vs, e1, hv⟩
      · cases hh
    have ty : tyV X.K "list" (.ref a0) H := .inl ⟨rfl, vs0, .of hv0⟩
    cases m with
    | append =>
      refine (ps_expr (pe_bm PySem.F.plainAttrs_list PySem.F.slot_list_append PySem.F.type_list_append mt_append ho (pa_cons (tE_F h) pa_nil (star_one hs)) hb few hl (star_one hs) plain) rfl).run pins s σ H D I ?_
      refine ⟨.ref a0, ea0, ty, ⟨Hf, ρ, [], q.1, q.2, E, eq, fun v H1 Hf1 s1 E1 rp => ?_⟩⟩
      obtain ⟨a, d, d', e0, w', ef, hg, go⟩ := chgS_ok2 E1 ec
      rw [ea0] at e0; cases e0
      cases d <;> simp only [mutD] at ef <;> try cases ef
      rename_i ds
      split at ef
      · rename_i hz
        cases ef
        obtain ⟨n, vs, hv, rl⟩ := w'
        exact ⟨a0, vs, v, rfl, rfl, hv, by rw [← rl.len]; exact hz, kk σ _ Hf1 s1 (go _ ⟨n, _, upd_same, rl.append (.one rp)⟩)⟩
      · cases ef
    | extend =>
      refine (ps_expr (pe_bm PySem.F.plainAttrs_list PySem.F.slot_list_extend PySem.F.type_list_extend mt_extend ho (pa_cons (tE_F h) pa_nil (star_one hs)) hb few hl (star_one hs) plain) rfl).run pins s σ H D I ?_
      refine ⟨.ref a0, ea0, ty, ⟨Hf, ρ, [], q.1, q.2, E, eq, fun v H1 Hf1 s1 E1 rp => ?_⟩⟩
      obtain ⟨a, d, d', e0, w', ef, hg, go⟩ := chgS_ok2 E1 ec
      rw [ea0] at e0; cases e0
      cases d <;> simp only [mutD] at ef <;> try cases ef
      rename_i ds
      split at ef
      · rename_i es ee
        split at ef
        · rename_i hz
          cases ef
          obtain ⟨n, vs, hv, rl⟩ := w'
          rw [ee] at rp
          simp only [Rep] at rp
          obtain ⟨b, ws, rfl, hb2, rl2⟩ := rp
          exact ⟨a0, b, vs, ws, rfl, rfl, hv, E1.sub _ _ hb2, by rw [← rl.len, ← rl2.len]; exact hz, kk σ _ Hf1 s1 (go _ ⟨n, _, upd_same, rl.append rl2⟩)⟩
        · cases ef
      · cases ef
  · cases ev
end
end PL

/-! PL17: several names stored at once. -/
namespace PL
open PySem PySem.Spec PyProof.Rows L2
def isStar : Expr → Bool
  | .Starred _ _ => true
  | _ => false
def locN (sc : Scope) (line : Nat) : Expr → Option Str
  | .Name id pos => if (sc.names.lookup id == some .local && pos.line == line) = true then some id else none
  | _ => none
def namesOf (sc : Scope) (ts : List Expr) : List Str := ts.filterMap (locN sc ((ts.head?.map (·.pos.line)).getD 0))
/-- some true: stored from the right without a tuple; some false: by a tuple; none: the model does not say -/
def parSwap (sc : Scope) (ts vs : List Expr) : Option Bool :=
  if (!(ts.length == 2 || ts.length == 3) || vs.length != ts.length) = true then some false
  else if vs.any isStar = true then some false
  else if ((namesOf sc ts).length != ts.length || (namesOf sc ts).eraseDups.length != (namesOf sc ts).length) = true then some false
  else if vs.all (foldedForSure 8) = true then some false
  else if vs.all (constantsAlone 8) = true then none
  else some true
theorem parSwap_ok {env : PySem.Env} {ts vs : List Expr} {kt k2 : Nat} {pt p2 : Pos} {b : Bool} (hk : env.scope.kind = .function) (h : parSwap env.scope ts vs = some b) :
    swappedStores [.Tuple ts kt pt] (.Tuple vs k2 p2) env = pure (if b = true then some (namesOf env.scope ts) else none) := by
  have hb : env.blockKind = .function := by unfold Env.blockKind; rw [hk]; rfl
  unfold swappedStores
  show (if (!(ts.length == 2 || ts.length == 3) || vs.length != ts.length || env.blockKind != ScopeKind.function) = true then (pure none : Sem (Option (List Str)))
    else if vs.any isStar = true then pure none
    else if ((namesOf env.scope ts).length != ts.length || (namesOf env.scope ts).eraseDups.length != (namesOf env.scope ts).length) = true then pure none
    else if vs.all (foldedForSure 8) = true then pure none
    else if vs.all (constantsAlone 8) = true then (do
      unsupported "assign.tuple-of-constant-expressions:order-of-the-stores"
      pure (some (namesOf env.scope ts)))
    else pure (some (namesOf env.scope ts))) = _
  have h0 : (!(ts.length == 2 || ts.length == 3) || vs.length != ts.length || env.blockKind != ScopeKind.function) = (!(ts.length == 2 || ts.length == 3) || vs.length != ts.length) := by
    rw [hb]
    simp
  rw [h0]
  unfold parSwap at h
  split at h
  · rename_i h1
    cases h
    rw [if_pos h1]
    rfl
  · rename_i h1
    rw [if_neg h1]
    split at h
    · rename_i h2
      cases h
      rw [if_pos h2]
      rfl
    · rename_i h2
      rw [if_neg h2]
      split at h
      · rename_i h3
        cases h
        rw [if_pos h3]
        rfl
      · rename_i h3
        rw [if_neg h3]
        split at h
        · rename_i h4
          cases h
          rw [if_pos h4]
          rfl
        · rename_i h4
          rw [if_neg h4]
          split at h
          · cases h
          · rename_i h5
            cases h
            rw [if_neg h5]
            rfl
end PL

/-! PL18: every statement that is checked is what it is worth. -/
namespace PL
open PySem PySem.Spec PyProof.Rows L2
section
variable {X : Cx} {Y : Yx} {Φ : Fn} {w : Nat} {pos : Pos}
/-- several names, one after another -/
def gAll (is : List Nat) : TGs := fun vs σ H Q => vs.length = is.length ∧ Q (setAll σ is vs) H
theorem gall_nil : PGs X [] (gAll []) := PGs_weak pgs_nil fun v σ H Q ⟨l, q⟩ => by
  cases v with
  | nil => exact ⟨rfl, q⟩
  | cons _ _ => cases l
theorem gall_cons {e : Expr} {es : List Expr} {i : Nat} {is : List Nat} (h : PG X e (gName i)) (g : PGs X es (gAll is)) (hs : noStar e = true) : PGs X (e :: es) (gAll (i :: is)) :=
  PGs_weak (pgs_cons h g (by rw [asg_one hs]; rfl)) fun v σ H Q ⟨l, q⟩ => by
    cases v with
    | nil => cases l
    | cons v vs => exact ⟨v, vs, rfl, by simpa using l, q⟩
theorem evR_len {es : List RE} {ρ : Env} {q : List RV × Env} : evR Φ es ρ = some q → q.1.length = es.length := by
  induction es generalizing ρ q with
  | nil => intro e; simp only [evR, Option.some.injEq] at e; subst e; rfl
  | cons r rs ih =>
    intro e
    simp only [evR, Option.bind_eq_some_iff, Option.map_eq_some_iff] at e
    obtain ⟨p, _, q', eq', e3⟩ := e
    subst e3
    simp [ih eq']
theorem RVs.len {K : PySem.W.Frag} {Hf : Hp} : ∀ {rs : List RV} {vs : List V} {τ : List (D × Addr)}, RVs K Hf rs vs τ → vs.length = rs.length
  | [], _, _, h => by rw [h.1]; rfl
  | .val d :: rs, _, _, ⟨v, r, e, _, g⟩ => by subst e; simp [RVs.len g]
  | .own d :: rs, _, _, ⟨a, r, t, e, _, g⟩ => by subst e; simp [RVs.len g]
theorem putN_len : ∀ {is : List Nat} {rs : List RV} {ρ ρ' : Env}, putN is rs ρ = some ρ' → is.length = rs.length
  | [], [], _, _, _ => rfl
  | [], _ :: _, _, _, h => by simp [putN] at h
  | _ :: _, [], _, _, h => by simp [putN] at h
  | i :: is, r :: rs, ρ, ρ', h => by
    simp only [putN, Option.bind_eq_some_iff] at h
    obtain ⟨ρ1, _, h⟩ := h
    simp [putN_len h]
/-- by a tuple -/
theorem ss_parT (hK : Y.K = X.K) (hc : X.calm = true) {ts vs : List Expr} {is : List Nat} {es : List RE} {kt k2 : Nat} {pt p2 : Pos} (ha : PA X vs (tR Y Φ es)) (hg : PGs X ts (gAll is)) (hs : ts.all noStar = true) (hz : es.length ≤ sizeLine) (hl : is.length = ts.length)
    (hw : swappedStores [.Tuple ts kt pt] (.Tuple vs k2 p2) X.env = pure none) : PS X (.Assign [.Tuple ts kt pt] (.Tuple vs k2 p2) pos) (tS Y Φ w (.par is es)) := by
  obtain ⟨f1, f2⟩ := asg_facts (env := X.env) hs
  refine PS_weak (ps_asg (pe_tup ha) (pg_tup hc hg f1 f2) rfl hw rfl) fun D σ H ⟨Hf, ρ, o, E, ev, k⟩ => ?_
  simp only [evS, Option.bind_eq_some_iff, Option.map_eq_some_iff] at ev
  obtain ⟨q, eq, ρ2, ep, e3⟩ := ev
  cases e3
  refine ⟨Hf, ρ, [], q.1, q.2, E, eq, fun us H1 Hf1 τ' s1 rv E1 => ⟨by rw [rv.len, evR_len eq]; exact hz, fun T nT => ?_⟩⟩
  have l1 : us.length = is.length := by rw [rv.len, ← putN_len ep]
  refine ⟨T, us, rfl, .inl (.inl upd_same), by rw [l1, hl], l1, ?_⟩
  have E2 : ER Y q.2 (τ' ++ []) σ (upd H1 T (.tup us)) Hf1 := E1.heaps (.refl _) (fun b u h => by rw [upd_ne (ne_of_none (E1.sub b u h) nT)]; exact E1.sub b u h) (fun b u h => by rw [upd_ne (ne_of_none h nT)]; exact h) (fun b u h => .inl h)
  exact k _ _ Hf1 s1 (putN_ok ep rv E2)
theorem ss_par2 (hc : X.calm = true) (hN : X.N.Nodup) {i j : Nat} {x y : Str} {a b : Expr} {es : List RE} {px py pt : Pos} {kt k2 pt2} (hi : X.N[i]? = some x) (hj : X.N[j]? = some y) (hij : i ≠ j)
    (hx : X.env.scope.names.lookup x = some .local) (hy : X.env.scope.names.lookup y = some .local) (ha : PA X [a, b] (tR Y Φ es)) (hw : swappedStores [.Tuple [.Name x px, .Name y py] kt pt] (.Tuple [a, b] k2 pt2) X.env = pure (some [x, y])) :
    PS X (.Assign [.Tuple [.Name x px, .Name y py] kt pt] (.Tuple [a, b] k2 pt2) pos) (tS Y Φ w (.par [i, j] es)) :=
  PS_weak (ps_par hc hN hi hj hij hx hy ha hw rfl) fun D σ H ⟨Hf, ρ, o, E, ev, k⟩ => by
    simp only [evS, Option.bind_eq_some_iff, Option.map_eq_some_iff] at ev
    obtain ⟨q, eq, ρ2, ep, e3⟩ := ev
    cases e3
    refine ⟨Hf, ρ, [], q.1, q.2, E, eq, fun us H1 Hf1 τ' s1 rv E1 => ?_⟩
    have l1 : us.length = 2 := by rw [rv.len, ← putN_len ep]; rfl
    match us, l1 with
    | [v, w], _ => exact ⟨v, w, rfl, k _ H1 Hf1 s1 (putN_ok ep rv E1)⟩
theorem ss_par3 (hc : X.calm = true) (hN : X.N.Nodup) {i j l : Nat} {x y z : Str} {a b c : Expr} {es : List RE} {px py pz pt : Pos} {kt k2 pt2} (hi : X.N[i]? = some x) (hj : X.N[j]? = some y) (hl : X.N[l]? = some z) (hij : i ≠ j) (hil : i ≠ l) (hjl : j ≠ l)
    (hx : X.env.scope.names.lookup x = some .local) (hy : X.env.scope.names.lookup y = some .local) (hz : X.env.scope.names.lookup z = some .local) (ha : PA X [a, b, c] (tR Y Φ es))
    (hw : swappedStores [.Tuple [.Name x px, .Name y py, .Name z pz] kt pt] (.Tuple [a, b, c] k2 pt2) X.env = pure (some [x, y, z])) :
    PS X (.Assign [.Tuple [.Name x px, .Name y py, .Name z pz] kt pt] (.Tuple [a, b, c] k2 pt2) pos) (tS Y Φ w (.par [i, j, l] es)) :=
  PS_weak (ps_par3 hc hN hi hj hl hij hil hjl hx hy hz ha hw rfl) fun D σ H ⟨Hf, ρ, o, E, ev, k⟩ => by
    simp only [evS, Option.bind_eq_some_iff, Option.map_eq_some_iff] at ev
    obtain ⟨q, eq, ρ2, ep, e3⟩ := ev
    cases e3
    refine ⟨Hf, ρ, [], q.1, q.2, E, eq, fun us H1 Hf1 τ' s1 rv E1 => ?_⟩
    have l1 : us.length = 3 := by rw [rv.len, ← putN_len ep]; rfl
    match us, l1 with
    | [v, w, u], _ => exact ⟨v, w, u, rfl, k _ H1 Hf1 s1 (putN_ok ep rv E1)⟩
theorem swaps_lc {el : Expr} {gs : List Comprehension} {scope : Scope} {y : Str} {py : Pos} {l : Nat} {env : PySem.Env} (hk : env.scope.kind = .function) :
    swapsWith (.ListComp el gs scope pos) (some (.Name y py)) l env = pure ((env.scope.names.lookup y == some .local) && (py.line == pos.line) && !(scope.names.any fun (n, k) => n == y && (k == .local || k == .cell))) := by
  have hb : env.blockKind = .function := by unfold Env.blockKind; rw [hk]; rfl
  unfold swapsWith
  simp only [hb]
  rfl
end
def notComp : Expr → Bool
  | .ListComp _ _ _ _ => false
  | .SetComp _ _ _ _ => false
  | .DictComp _ _ _ _ _ => false
  | _ => true
def notTup : Expr → Bool
  | .Tuple _ _ _ => false
  | _ => true
def lcSwap (c : CC) (y : Str) (py : Pos) : Expr → Bool
  | .ListComp _ _ scope vp => (c.sc.names.lookup y == some .local) && (py.line == vp.line) && !(scope.names.any fun (n, k) => n == y && (k == .local || k == .cell))
  | _ => false
def nmsAll : List Nat → CC → List Expr → Bool
  | [], _, [] => true
  | i :: is, c, .Name x _ :: es => locB c i x && nmsAll is c es
  | _, _, _ => false
def locOnly (c : CC) (i : Nat) (x : Str) : Bool := (c.N[i]? == some x) && (c.sc.names.lookup x == some .local)
def chkSwap (c : CC) (is : List Nat) (ts : List Expr) : Bool := match is, ts with
  | [i, j], [.Name x _, .Name y _] => locOnly c i x && locOnly c j y && (i != j) && (namesOf c.sc ts == [x, y])
  | [i, j, l], [.Name x _, .Name y _, .Name z _] => locOnly c i x && locOnly c j y && locOnly c l z && (i != j) && (i != l) && (j != l) && (namesOf c.sc ts == [x, y, z])
  | _, _ => false
variable (G : GG)
mutual
def chkS : RS → CC → Stmt → Bool
  | .asg p e, c, s => match p with
    | .nm i => (match s with
      | .Assign [.Name y py] v _ => locB c i y && chkE G e c v && (notComp v || (match v with
        | .ListComp _ _ _ _ => true
        | _ => false))
      | _ => false)
    | .tup ps => (match s with
      | .Assign [.Tuple ts kt pt] v _ => chkG (.tup ps) c (.Tuple ts kt pt) && chkE G e c v && notTup v
      | _ => false)
    | .ixs _ _ => false
  | .par is es, c, s => match s with
    | .Assign [.Tuple ts kt pt] (.Tuple vs k2 p2) _ => chkL G es c vs && decide (es.length ≤ 1000) && (match parSwap c.sc ts vs with
      | some true => chkSwap c is ts
      | some false => nmsAll is c ts
      | none => false)
    | _ => false
  | .setIx i k e, c, s => match s with
    | .Assign [.Subscript (.Name x _) kx _] v _ => slotB c i x && chkE G k c kx && chkE G e c v && noSlice kx
    | _ => false
  | .ex e, c, s => match s with
    | .Expr v _ => chkE G e c v && notComp v
    | _ => false
  | .mut m i e, c, s => match s with
    | .Expr (.Call (.Attribute (.Name x _) at_ apos) [a] [] cpos) _ => (at_ == Str.ofString (mtName m)) && slotB c i x && (apos.endLine == cpos.line) && noStar a && chkE G e c a
    | _ => false
  | .iF t a b, c, s => match s with
    | .If e x y _ => chkT G t c e && chkB a c x && chkB b c y
    | _ => false
  | .for_ p it b, c, s => match s with
    | .For tg iter body els _ => els.isEmpty && chkI G it c iter tg && notSet iter && chkG p c tg && chkB b c body
    | _ => false
  | .while_ t b, c, s => match s with
    | .While e body els _ => els.isEmpty && chkT G t c e && chkB b c body
    | _ => false
  | .ret e, c, s => match s with
    | .Return (some v) _ => chkE G e c v
    | _ => false
  | .retS i, c, s => match s with
    | .Return (some (.Name x _)) _ => slotB c i x
    | _ => false
  | .retN, _, s => match s with
    | .Return none _ => true
    | _ => false
  | .pass, _, s => match s with
    | .Pass _ => true
    | _ => false
  | .ct, _, s => match s with
    | .Continue _ => true
    | _ => false
  | .brk, _, s => match s with
    | .Break _ => true
    | _ => false
  | .bad, _, _ => true
def chkB : List RS → CC → List Stmt → Bool
  | [], _, ss => match ss with
    | [] => true
    | _ => false
  | r :: rs, c, ss => match ss with
    | s :: ss => chkS r c s && chkB rs c ss
    | _ => false
end
section
variable {X : Cx} {Y : Yx} {Φ : Fn} {G : GG} {c : CC} {w : Nat}
theorem sR (hK : Y.K = X.K) (ok : XOk X Φ G c) : ∀ (rs : List RE) (es : List Expr), chkL G rs c es = true → PA X es (tR Y Φ rs)
  | [], es, h => by
    simp only [chkL] at h
    split at h
    · exact st_rnil
    · exact ff h
  | r :: rs, es, h => by
    simp only [chkL] at h
    split at h
    · simp only [Bool.and_eq_true] at h
      obtain ⟨⟨h1, h2⟩, h3⟩ := h
      exact st_rcons (sE r c X _ hK ok h2) (sR hK ok rs _ h3) h1
    · exact ff h
theorem nms_ok (ok : XOk X Φ G c) : ∀ {is : List Nat} {ts : List Expr}, nmsAll is c ts = true → PGs X ts (gAll is) ∧ ts.all noStar = true ∧ is.length = ts.length
  | [], ts, h => by
    cases ts <;> simp only [nmsAll] at h
    · exact ⟨gall_nil, rfl, rfl⟩
    · exact ff h
  | i :: is, ts, h => by
    cases ts with
    | nil => simp only [nmsAll] at h; exact ff h
    | cons e es =>
      cases e <;> simp only [nmsAll] at h <;> try exact ff h
      rw [Bool.and_eq_true] at h
      obtain ⟨a, b, l⟩ := nms_ok ok h.2
      exact ⟨gall_cons (loc_of ok h.1) a rfl, by rw [List.all_cons, b]; rfl, by simp [l]⟩
theorem loc_only (ok : XOk X Φ G c) {i : Nat} {x : Str} (h : locOnly c i x = true) : X.N[i]? = some x ∧ X.env.scope.names.lookup x = some .local := by
  simp only [locOnly, Bool.and_eq_true, beq_iff_eq] at h
  exact ⟨by rw [ok.N]; exact h.1, by rw [ok.sc]; exact h.2⟩
mutual
theorem sS (hK : Y.K = X.K) (ok : XOk X Φ G c) (hp : PassesOwn (model X.prog X.w) X.A X.env X.xe) (hf : c.sc.kind = .function) : ∀ (r : RS) (s : Stmt), chkS G r c s = true → PS X s (tS Y Φ w r)
  | .asg p e, s, h => by
    have hkf : X.env.scope.kind = .function := by rw [ok.sc]; exact hf
    simp only [chkS] at h
    split at h
    · rename_i i
      split at h
      · rename_i y py v pos
        simp only [Bool.and_eq_true, Bool.or_eq_true] at h
        obtain ⟨⟨h1, h2⟩, h3⟩ := h
        have hy : X.N[i]? = some y := by
          simp only [locB, Bool.and_eq_true, beq_iff_eq] at h1
          rw [ok.N]; exact h1.1
        have hl : Loc X.env.scope y ∧ (X.fn y = true ∨ X.env.scope.names.lookup y = some .local) := by
          simp only [locB, Bool.and_eq_true, beq_iff_eq] at h1
          have h1 := h1.2
          split at h1
          · rename_i e'
            have e' : X.env.scope.names.lookup y = some .local := by rw [ok.sc]; exact e'
            exact ⟨.inl e', .inr e'⟩
          · rename_i e'
            exact ⟨.inr (by rw [ok.sc]; exact e'), .inl (ok.fn y h1)⟩
          · exact ff h1
        refine ss_asg ?_
        have plain : swapsWith v (some (.Name y py)) pos.line X.env = pure false → PS X (.Assign [.Name y py] v pos) (tAsg (tE Y Φ e) (gName i)) := fun hs =>
          ps_set ok.nd hy hl.1 (sE e c X v hK ok h2) hs hl.2
        cases v <;> try (exact plain rfl)
        · rename_i el gs scope vp
          have sw := swaps_lc (el := el) (gs := gs) (scope := scope) (y := y) (py := py) (l := pos.line) (pos := vp) hkf
          cases hb : ((X.env.scope.names.lookup y == some .local) && (py.line == vp.line) && !(scope.names.any fun (n, k) => n == y && (k == .local || k == .cell))) with
          | false =>
            rw [hb] at sw
            exact plain sw
          | true =>
            rw [hb] at sw
            have hloc : X.env.scope.names.lookup y = some .local := by
              simp only [Bool.and_eq_true, beq_iff_eq] at hb
              exact hb.1.1
            cases e <;> simp only [chkE] at h2 <;> try (exact ff h2)
            all_goals try (split at h2 <;> first | exact ff h2 | (rename_i e0; cases e0; done))
            rename_i elt tg it ifs vs
            split at h2
            · rename_i e0
              cases e0
              simp only [Bool.and_eq_true, beq_iff_eq] at h2
              obtain ⟨⟨⟨⟨⟨⟨⟨rfl, g2⟩, g3⟩, g4⟩, g5⟩, g6⟩, g7⟩, g8⟩ := h2
              exact st_setLc ok.calm ok.nd hy hloc sw (sI it c X _ _ hK ok g2) (own_ok ok g4) (own_snd c vs) (fun s H C cl fp => have ok2 := blk_ok (s := s) (H := H) (C := C) (cl := cl) (fp := fp) ok; sG (by exact hK) ok2 tg _ g6)
                (fun s H C cl fp => sTo ifs _ _ _ hK (blk_ok ok) g7) (fun s H C cl fp => sE elt _ _ _ hK (blk_ok ok) g8) (set_of g3) (fun j hj => by simpa using (List.all_eq_true.mp g5) j hj)
            · exact ff h2
        · rcases h3 with h3 | h3 <;> exact ff h3
        · rcases h3 with h3 | h3 <;> exact ff h3
      · exact ff h
    · rename_i ps
      split at h
      · rename_i ts kt pt v pos
        simp only [Bool.and_eq_true] at h
        obtain ⟨⟨h1, h2⟩, h3⟩ := h
        refine ss_asgT (sE e c X v hK ok h2) (sG hK ok _ _ h1) ?_ ?_ rfl
        · cases v <;> rfl
        · cases v <;> first | rfl | exact ff h3
      · exact ff h
    · exact ff h
  | .par is es, s, h => by
    have hkf : X.env.scope.kind = .function := by rw [ok.sc]; exact hf
    simp only [chkS] at h
    split at h
    · rename_i ts kt pt vs k2 p2 pos
      simp only [Bool.and_eq_true, decide_eq_true_iff] at h
      obtain ⟨⟨h1, h2⟩, h3⟩ := h
      have pr := sR hK ok es vs h1
      split at h3
      · rename_i hsw
        have hw := parSwap_ok (kt := kt) (k2 := k2) (pt := pt) (p2 := p2) hkf (by rw [ok.sc]; exact hsw)
        rw [ok.sc] at hw
        unfold chkSwap at h3
        split at h3
        · rename_i i j x px y py
          simp only [Bool.and_eq_true, bne_iff_ne, beq_iff_eq] at h3
          obtain ⟨⟨⟨g1, g2⟩, g3⟩, g4⟩ := h3
          rw [g4] at hw
          obtain ⟨a1, a2⟩ := loc_only ok g1
          obtain ⟨b1, b2⟩ := loc_only ok g2
          have lv : vs.length = 2 := by
            unfold parSwap at hsw
            split at hsw
            · cases hsw
            · rename_i hc
              simp only [List.length_cons, List.length_nil] at hc
              simpa using hc
          match vs, lv with
          | [a, b], _ => exact ss_par2 ok.calm ok.nd a1 b1 g3 a2 b2 pr hw
        · rename_i i j l x px y py z pz
          simp only [Bool.and_eq_true, bne_iff_ne, beq_iff_eq] at h3
          obtain ⟨⟨⟨⟨⟨⟨g1, g2⟩, g3⟩, g4⟩, g5⟩, g6⟩, g7⟩ := h3
          rw [g7] at hw
          obtain ⟨a1, a2⟩ := loc_only ok g1
          obtain ⟨b1, b2⟩ := loc_only ok g2
          obtain ⟨c1, c2⟩ := loc_only ok g3
          have lv : vs.length = 3 := by
            unfold parSwap at hsw
            split at hsw
            · cases hsw
            · rename_i hc
              simp only [List.length_cons, List.length_nil] at hc
              simpa using hc
          match vs, lv with
          | [a, b, d], _ => exact ss_par3 ok.calm ok.nd a1 b1 c1 g4 g5 g6 a2 b2 c2 pr hw
        · exact ff h3
      · rename_i hsw
        have hw := parSwap_ok (kt := kt) (k2 := k2) (pt := pt) (p2 := p2) hkf (by rw [ok.sc]; exact hsw)
        obtain ⟨a, b, l⟩ := nms_ok ok h3
        exact ss_parT hK ok.calm pr a b (Nat.le_trans h2 (by rw [sizeLine_eq]; decide)) l hw
      · exact ff h3
    · exact ff h
  | .setIx i k e, s, h => by
    simp only [chkS] at h
    split at h
    · simp only [Bool.and_eq_true] at h
      obtain ⟨⟨⟨h1, h2⟩, h3⟩, h4⟩ := h
      exact ss_setIx (by have := ok.room; omega) (slot_of ok h1) (sE k c X _ hK ok h2) (sE e c X _ hK ok h3) h4
    · exact ff h
  | .ex e, s, h => by
    simp only [chkS] at h
    split at h
    · rename_i v pos
      rw [Bool.and_eq_true] at h
      refine ss_ex (sE e c X _ hK ok h.1) ?_
      have h2 := h.2
      cases v <;> first | rfl | exact ff h2
    · exact ff h
  | .mut m i e, s, h => by
    simp only [chkS] at h
    split at h
    · simp only [Bool.and_eq_true, beq_iff_eq] at h
      obtain ⟨⟨⟨⟨rfl, h2⟩, h3⟩, h4⟩, h5⟩ := h
      exact ss_mut hK (slot_of ok h2) (sE e c X _ hK ok h5) (attr_of' rfl) (by rw [beq_iff_eq]; exact h3) h4
    · exact ff h
  | .iF t a b, s, h => by
    simp only [chkS] at h
    split at h
    · simp only [Bool.and_eq_true] at h
      obtain ⟨⟨h1, h2⟩, h3⟩ := h
      exact ss_if (sT t c X _ hK ok h1).1 (sB hK ok hp hf a _ h2) (sB hK ok hp hf b _ h3)
    · exact ff h
  | .for_ p it b, s, h => by
    simp only [chkS] at h
    split at h
    · simp only [Bool.and_eq_true, List.isEmpty_iff] at h
      obtain ⟨⟨⟨⟨rfl, h2⟩, h3⟩, h4⟩, h5⟩ := h
      exact ss_for hp ok.calm (sI it c X _ _ hK ok h2) (sG hK ok p _ h4) (sB hK ok hp hf b _ h5) (set_of h3)
    · exact ff h
  | .while_ t b, s, h => by
    simp only [chkS] at h
    split at h
    · simp only [Bool.and_eq_true, List.isEmpty_iff] at h
      obtain ⟨⟨rfl, h2⟩, h3⟩ := h
      exact ss_while hp (sT t c X _ hK ok h2).1 (sB hK ok hp hf b _ h3)
    · exact ff h
  | .ret e, s, h => by
    simp only [chkS] at h
    split at h
    · exact ss_ret (sE e c X _ hK ok h)
    · exact ff h
  | .retS i, s, h => by
    simp only [chkS] at h
    split at h
    · exact ss_retS (slot_of ok h)
    · exact ff h
  | .retN, s, h => by
    simp only [chkS] at h
    split at h
    · exact ss_retN
    · exact ff h
  | .pass, s, h => by
    simp only [chkS] at h
    split at h
    · exact ss_pass
    · exact ff h
  | .ct, s, h => by
    simp only [chkS] at h
    split at h
    · exact ss_ct
    · exact ff h
  | .brk, s, h => by
    simp only [chkS] at h
    split at h
    · exact ss_brk
    · exact ff h
  | .bad, s, h => ss_bad
theorem sB (hK : Y.K = X.K) (ok : XOk X Φ G c) (hp : PassesOwn (model X.prog X.w) X.A X.env X.xe) (hf : c.sc.kind = .function) : ∀ (rs : List RS) (ss : List Stmt), chkB G rs c ss = true → PSs X ss (tB Y Φ w rs)
  | [], ss, h => by
    simp only [chkB] at h
    split at h
    · exact sb_nil
    · exact ff h
  | r :: rs, ss, h => by
    simp only [chkB] at h
    split at h
    · rw [Bool.and_eq_true] at h
      exact sb_cons (sS hK ok hp hf r _ h.1) (sB hK ok hp hf rs _ h.2)
    · exact ff h
end
end
end PL

/-! PL19: the defs of a table keep their promises. -/
namespace PL
open PySem PySem.Spec PyProof.Rows L2
section
variable {P : Program} {w : World} {K : PySem.W.Frag} {mg : Str → Option Value} {base : Heap}
/-- a def by its body: nothing is raised out of it -/
theorem fnG_of {x qual : Str} {st : Stmt} {fa : Addr} {fd : FuncData} {N ps : List Str} {k : Nat} {sp : Sp} (F : Fun K x qual st fa fd) (S : FnScope N ps (defScope st))
    (hlen : ∀ vs H Q, sp vs H Q E0 → vs.length = ps.length)
    (bd : ∀ (code : Value) (A : Around) (outer : List PySem.Env) (s : Shared) (H : Hp) (vs : List V) (Q : VK),
      Room k (A.deeper (envOfC qual (defScope st) s.heap.objs.size fa code)) → (A.deeper (envOfC qual (defScope st) s.heap.objs.size fa code)).guards = some [] → sp vs H Q E0 →
      ∃ t, PSs (cxOf CX0 P w K mg base N qual (defScope st) fa code A outer s H E0).nox (defBody st) t ∧ t { nx := fun _ H' => Q .non H', rt := Q } (start N vs) H) :
    FnG P w K mg base (k + 1) fa fd ps sp := by
  obtain ⟨oc, od, kV, doc, pm, an, code, ct, osl, rfl, at_, isCode⟩ := F.ex
  refine ⟨hlen, ?_⟩
  intro A outer s H args us vs Q room gu e0 bind rel pre
  have nvs := hlen vs H Q pre
  have inK : K.In s.heap := e0.mod.kin.keeps (fun b o z => (e0.bs b o z).1)
  have nolim : s.heap.NoLimit := e0.mod.nolimit.keeps (fun b o z => (e0.bs b o z).1)
  have kinds : ∀ z ∈ ps.zip us, (defScope st).names.lookup z.1 = some .local ∨
      ((defScope st).names.lookup z.1 = some .cell ∧ ((cellsFrom (s.heap.objs.size + 1) (defScope st).names []).lookup z.1).isSome = true) := by
    intro z hz
    have hm : z.1 ∈ ps := (List.of_mem_zip (show (z.1, z.2) ∈ ps.zip us from hz)).1
    rcases S.par z.1 hm with h | h
    · exact Or.inl h
    · exact Or.inr ⟨h, PySem.W.cellsFrom_some _ _ _ (Or.inl h)⟩
  apply codeAny_call_function room.depth (inK _ _ at_) rfl S.co S.gen rfl (PySem.W.codeRec_of inK isCode)
  apply bind
  apply wpAny_newFunctionEnv_cells S.kind kinds
  intro env henv s1 inCall
  subst henv
  refine And.intro (nolim.keeps inCall.toInCall.keep) (codeAny_func ?_)
  have gu2 : (A.deeper (envOfC qual (defScope st) s.heap.objs.size fa code)).guards = some [] := gu
  obtain ⟨t, pt, ht⟩ := bd code A outer s H vs Q (room.deeper _) gu2 pre
  have I0 := inv_start (CX := CX0) (E := E0) (N := N) (f := fa) (qual := qual) (cd := code) (w := w) S room.hd e0 nvs rel inCall
  have run := pt.run [] s1 (start N vs) H _ (I0.wish _) ht
  refine wpAny_mono run ?_ (fun e s' z => False.elim z)
  intro fl s' q
  match fl, q with
  | .ret u, ⟨v, σ', H', J, rv, q⟩ => exact ⟨v, H', J.unwish.os, J.unwish.bare, J.unwish.base, J.unwish.hok, rv, q⟩
  | .next, ⟨σ', H', J, q⟩ => exact ⟨.non, H', J.unwish.os, J.unwish.bare, J.unwish.base, J.unwish.hok, rfl, q⟩
  | .brk, ⟨_, _, _, q⟩ => exact False.elim q
  | .cont, ⟨_, _, _, q⟩ => exact False.elim q
end
end PL

/-! PL20: the table of a program's defs. -/
namespace PL
open PySem PySem.Spec PyProof.Rows L2
def ioPairs : List AV → List V → Nat → List (Nat × Addr)
  | .val _ :: as, _ :: vs, i => ioPairs as vs (i + 1)
  | .io _ :: as, .ref a :: vs, i => (i, a) :: ioPairs as vs (i + 1)
  | _, _, _ => []
theorem ioPairs_snd : ∀ (as : List AV) (vs : List V) (i : Nat), (ioPairs as vs i).map (·.2) = ioAd as vs
  | [], vs, i => by cases vs <;> rfl
  | .val d :: as, [], i => rfl
  | .val d :: as, v :: vs, i => by
    show (ioPairs as vs (i + 1)).map (·.2) = ioAd as vs
    exact ioPairs_snd as vs (i + 1)
  | .io d :: as, [], i => rfl
  | .io d :: as, v :: vs, i => by
    cases v <;> try rfl
    rename_i a
    show a :: (ioPairs as vs (i + 1)).map (·.2) = a :: ioAd as vs
    rw [ioPairs_snd as vs (i + 1)]
def SD.ofA : AV → SD
  | .val d => .val d
  | .io d => .io d
theorem startS_eq (ns : Nat) (as : List AV) : startS ns as = as.map SD.ofA ++ List.replicate (ns - as.length) .un := by
  unfold startS
  congr 1
theorem start_at {ns : Nat} {as : List AV} {i : Nat} {x : SD} (h : (startS ns as)[i]? = some x) (n : x ≠ .un) : ∃ a, as[i]? = some a ∧ x = SD.ofA a := by
  rw [startS_eq] at h
  by_cases hi : i < as.length
  · rw [List.getElem?_append_left (by simpa using hi), List.getElem?_map] at h
    cases e : as[i]? with
    | none => rw [e] at h; cases h
    | some a => rw [e] at h; cases h; exact ⟨a, rfl, rfl⟩
  · rw [List.getElem?_append_right (by simpa using hi), List.getElem?_replicate] at h
    split at h
    · cases h; exact absurd rfl n
    · cases h
theorem start_of {ns : Nat} {as : List AV} {i : Nat} {a : AV} (h : as[i]? = some a) : (startS ns as)[i]? = some (SD.ofA a) := by
  have hi : i < as.length := (List.getElem?_eq_some_iff.mp h).1
  rw [startS_eq, List.getElem?_append_left (by simpa using hi), List.getElem?_map, h]
  rfl
theorem sstart_of {N : List Str} {vs : List V} {i : Nat} {v : V} (h : vs[i]? = some v) : (L2.start N vs)[i]? = some (some v) := by
  have hi : i < vs.length := (List.getElem?_eq_some_iff.mp h).1
  unfold L2.start
  rw [List.getElem?_append_left (by simpa using hi), List.getElem?_map, h]
  rfl
section
variable {K : PySem.W.Frag} {Hf H : Hp}
theorem ArgOk.len : ∀ {as : List AV} {vs : List V}, ArgOk K Hf H as vs → as.length = vs.length
  | [], vs, h => by have h : vs = [] := h; subst h; rfl
  | .val d :: as, vs, ⟨v, r, e, _, g⟩ => by subst e; simp [ArgOk.len g]
  | .io d :: as, vs, ⟨a, r, e, _, g⟩ => by subst e; simp [ArgOk.len g]
theorem ArgOk.get : ∀ {as : List AV} {vs : List V} {i : Nat} (j : Nat) {a : AV}, ArgOk K Hf H as vs → as[i]? = some a → ∃ v, vs[i]? = some v ∧ (match a with
    | .val d => Rep K Hf d v
    | .io d => ∃ b, v = .ref b ∧ Own K Hf H b d ∧ (j + i, b) ∈ ioPairs as vs j)
  | [], _, _, _, _, _, e => by simp at e
  | .val d :: as, vs, 0, j, a, ⟨v, r, e0, h, g⟩, e => by
    subst e0
    cases (Option.some.inj e : AV.val d = a)
    exact ⟨v, rfl, h⟩
  | .io d :: as, vs, 0, j, a, ⟨b, r, e0, h, g⟩, e => by
    subst e0
    cases (Option.some.inj e : AV.io d = a)
    exact ⟨.ref b, rfl, b, rfl, h, List.mem_cons_self ..⟩
  | .val d :: as, vs, i + 1, j, a, ⟨v, r, e0, h, g⟩, e => by
    subst e0
    obtain ⟨w, e1, z⟩ := ArgOk.get (i := i) (j + 1) g (by simpa using e)
    refine ⟨w, by simpa using e1, ?_⟩
    cases a with
    | val d => exact z
    | io d =>
      obtain ⟨b, e2, ow, m⟩ := z
      exact ⟨b, e2, ow, by rw [show j + (i + 1) = j + 1 + i by omega]; exact m⟩
  | .io d0 :: as, vs, i + 1, j, a, ⟨b0, r, e0, h, g⟩, e => by
    subst e0
    obtain ⟨w, e1, z⟩ := ArgOk.get (i := i) (j + 1) g (by simpa using e)
    refine ⟨w, by simpa using e1, ?_⟩
    cases a with
    | val d => exact z
    | io d =>
      obtain ⟨b, e2, ow, m⟩ := z
      exact ⟨b, e2, ow, by rw [show j + (i + 1) = j + 1 + i by omega]; exact List.mem_cons_of_mem _ m⟩
theorem ioPairs_get : ∀ {as : List AV} {vs : List V} {j : Nat} {p : Nat × Addr}, ArgOk K Hf H as vs → p ∈ ioPairs as vs j → ∃ i d, p.1 = j + i ∧ as[i]? = some (.io d) ∧ vs[i]? = some (.ref p.2)
  | [], vs, j, p, _, h => by cases vs <;> simp [ioPairs] at h
  | .val d :: as, vs, j, p, ⟨v, r, e0, _, g⟩, h => by
    subst e0
    obtain ⟨i, d', e1, e2, e3⟩ := ioPairs_get (j := j + 1) g h
    exact ⟨i + 1, d', by omega, by simpa using e2, by simpa using e3⟩
  | .io d :: as, vs, j, p, ⟨b, r, e0, _, g⟩, h => by
    subst e0
    rcases List.mem_cons.mp h with rfl | h
    · exact ⟨0, d, rfl, rfl, rfl⟩
    · obtain ⟨i, d', e1, e2, e3⟩ := ioPairs_get (j := j + 1) g h
      exact ⟨i + 1, d', by omega, by simpa using e2, by simpa using e3⟩
theorem snd_inj : ∀ {l : List (Nat × Addr)} {p q : Nat × Addr}, (l.map (·.2)).Nodup → p ∈ l → q ∈ l → p.2 = q.2 → p = q
  | [], p, q, _, h, _, _ => by simp at h
  | x :: l, p, q, nd, hp, hq, e => by
    rw [List.map_cons] at nd
    obtain ⟨n1, n2⟩ := List.nodup_cons.mp nd
    rcases List.mem_cons.mp hp with rfl | hp
    · rcases List.mem_cons.mp hq with rfl | hq
      · rfl
      · exact absurd (List.mem_map.mpr ⟨q, hq, e.symm⟩) n1
    · rcases List.mem_cons.mp hq with rfl | hq
      · exact (n1 (List.mem_map.mpr ⟨p, ‹p ∈ l›, e⟩)).elim
      · exact snd_inj n2 hp hq e
/-- at a def's entry -/
theorem ER.entry {as : List AV} {vs : List V} {ns : Nat} {N : List Str} (s : Same Hf H) (a : ArgOk K Hf H as vs) (nd : (ioAd as vs).Nodup) (hN : N.length = ns) (hl : as.length ≤ ns) : ER ⟨K, Hf, H, ioPairs as vs 0⟩ (startS ns as) [] (L2.start N vs) H Hf := by
  have io : ∀ {i : Nat} {d : D}, (startS ns as)[i]? = some (.io d) → ∃ b, vs[i]? = some (.ref b) ∧ Own K Hf H b d ∧ (i, b) ∈ ioPairs as vs 0 := fun {i d} h => by
    obtain ⟨x, e1, e2⟩ := start_at h (by simp)
    cases x with
    | val d => cases e2
    | io d' =>
      cases e2
      obtain ⟨v, e3, b, rfl, w, m⟩ := a.get 0 e1
      rw [Nat.zero_add] at m
      exact ⟨b, e3, w, m⟩
  have noown : ∀ {i : Nat} {d : D}, (startS ns as)[i]? ≠ some (.own d) := fun {i d} h => by
    obtain ⟨x, e1, e2⟩ := start_at h (by simp)
    cases x <;> cases e2
  refine ⟨s, .refl _, fun b o h _ => h, fun b o h => .inl ⟨o, h⟩, ?_, fun i d h => ?_, fun i d h => absurd h noown, fun i d h => ?_, fun p hp => ?_, fun i j b h1 h2 e1 e2 => ?_, fun t ht => absurd ht (by simp), by simp, fun i b _ _ h => absurd h (by simp)⟩
  · rw [startS_eq]
    unfold L2.start
    simp only [List.length_append, List.length_map, List.length_replicate]
    have := a.len
    omega
  · obtain ⟨x, e1, e2⟩ := start_at h (by simp)
    cases x with
    | io d => cases e2
    | val d' =>
      cases e2
      obtain ⟨v, e3, r⟩ := a.get 0 e1
      exact ⟨v, sstart_of e3, r⟩
  · obtain ⟨b, e, w, m⟩ := io h
    exact ⟨b, sstart_of e, w, m⟩
  · obtain ⟨i, d, e1, e2, e3⟩ := ioPairs_get a hp
    rw [Nat.zero_add] at e1
    subst e1
    exact ⟨d, start_of e2, sstart_of e3⟩
  · obtain ⟨d1, h1⟩ := h1
    obtain ⟨d2, h2⟩ := h2
    rcases h1 with h1 | h1
    · exact absurd h1 noown
    · rcases h2 with h2 | h2
      · exact absurd h2 noown
      · obtain ⟨b1, f1, _, m1⟩ := io h1
        obtain ⟨b2, f2, _, m2⟩ := io h2
        have g1 := sstart_of (N := N) f1
        have g2 := sstart_of (N := N) f2
        rw [e1] at g1; cases g1
        rw [e2] at g2; cases g2
        have := snd_inj (by rw [ioPairs_snd]; exact nd) m1 m2 rfl
        exact congrArg (·.1) this
theorem outs_ok {as0 : List AV} {vs0 : List V} {ρ : Env} {τ : List (D × Addr)} {σ : SV} {H0 Hf0 H' Hf' : Hp} (E : ER ⟨K, Hf0, H0, ioPairs as0 vs0 0⟩ ρ τ σ H' Hf') : ∀ {as : List AV} {vs : List V} {i : Nat} {outs : List D}, ArgOk K Hf H as vs →
    (∀ p ∈ ioPairs as vs i, p ∈ ioPairs as0 vs0 0) → outsOf as i ρ = some outs → OutOk K Hf' H' (ioAd as vs) outs
  | [], vs, i, outs, h, _, e => by
    have h : vs = [] := h
    subst h
    cases e
    rfl
  | .val d :: as, vs, i, outs, ⟨v, r, e0, _, g⟩, sub, e => by
    subst e0
    exact outs_ok (as := as) (vs := r) (i := i + 1) E g sub e
  | .io d :: as, vs, i, outs, ⟨b, r, e0, _, g⟩, sub, e => by
    subst e0
    unfold outsOf at e
    split at e
    · rename_i d' hd
      obtain ⟨o', e1, rfl⟩ := map_some' e
      have m := sub (i, b) (List.mem_cons_self ..)
      obtain ⟨_, _, e3⟩ := E.iob _ m
      obtain ⟨a, e4, w, _⟩ := E.io i d' (getS_some hd (by simp))
      rw [e4] at e3; cases e3
      exact ⟨d', o', rfl, w, outs_ok (as := as) (vs := r) (i := i + 1) E g (fun p hp => sub p (List.mem_cons_of_mem _ hp)) e1⟩
    · cases e
theorem exit_of {as : List AV} {vs : List V} {ρ : Env} {σ : SV} {H' Hf' : Hp} {outs : List D} {x : RV} {v : V} (a : ArgOk K Hf H as vs) (s : Same Hf Hf') (h : VR ⟨K, Hf, H, ioPairs as vs 0⟩ x v ρ [] σ H' Hf') (e : outsOf as 0 ρ = some outs) :
    ExitOk K Hf H (ioAd as vs) x outs v H' Hf' := by
  have main : ∀ {τ : List (D × Addr)}, ER ⟨K, Hf, H, ioPairs as vs 0⟩ ρ τ σ H' Hf' → ValOk K Hf' H H' x v → ExitOk K Hf H (ioAd as vs) x outs v H' Hf' := fun {τ} E hv =>
    ⟨s, E.sub, fun b o h hb => E.keep b o h (by rw [ioPairs_snd]; exact hb), fun b o h => by
      rcases E.new b o h with ⟨u, z⟩ | z
      · have := E.base b u z
        rw [h] at this; cases this
        exact .inl z
      · exact .inr z, outs_ok E a (fun p hp => hp) e, hv⟩
  cases x with
  | val d => exact main h.1 h.2
  | own d =>
    obtain ⟨b, rfl, E⟩ := h
    obtain ⟨w, z⟩ := E.tmp _ (List.mem_cons_self ..)
    exact main E ⟨b, rfl, w, z⟩
end
/-- a def of the table, as it stands in the program -/
structure DefAt (K : PySem.W.Frag) (mg : Str → Option Value) (G : GG) (f : Nat) (df : Df) (fa : Addr) (fd : FuncData) (ps : List Str) : Prop where
  ex : ∃ (st : Stmt) (N : List Str), Fun K (Str.ofString df.name) (Str.ofString df.name) st fa fd ∧ FnScope N ps (defScope st) ∧ N.length = df.ns ∧ chkB G df.body ⟨N, defScope st, fun _ => true⟩ (defBody st) = true
  at_ : mg (Str.ofString df.name) = some (.ref fa)
  np : ps.length = df.ps
  pn : df.ps ≤ df.ns
  bi : Binds K fd ps []
  kw : ∀ q ∈ G.ks, q.1 = f → (∀ (s : Shared) (us ws : List Value), K.In s.heap → us.length = q.2.1 → ws.length = q.2.2.1.length → BindsTo s fd ⟨us, (q.2.2.1.map Str.ofString).zip ws⟩ (ps.zip (q.2.2.2.filterMap fun i => (us ++ ws)[i]?))) ∧
    ∀ i ∈ q.2.2.2, i < q.2.1 + q.2.2.1.length
structure TabOk (K : PySem.W.Frag) (mg : Str → Option Value) (T : List Df) (G : GG) : Prop where
  defs : ∀ (f : Nat) (df : Df), T[f]? = some df → ∃ fa fd ps, DefAt K mg G f df fa fd ps
  names : ∀ (f : Nat) (x : String) (np : Nat), G.fs[f]? = some (x, np) → ∃ df, T[f]? = some df ∧ df.name = x ∧ df.ps = np
  cs : ∀ p ∈ G.cs, ∃ u v, mg (Str.ofString p.1) = some u ∧ RelV v u ∧ ∀ H, Rep K H p.2 v
  bl : ∀ x ∈ bltNames, mg (Str.ofString x) = none
section
variable {P : Program} {w : World} {K : PySem.W.Frag} {mg : Str → Option Value} {base : Heap} {T : List Df} {G : GG} {W : Nat}
theorem tab_fn (ok : TabOk K mg T G) : ∀ (n f : Nat) (df : Df) (fa : Addr) (fd : FuncData) (ps : List Str), T[f]? = some df → DefAt K mg G f df fa fd ps → FnG P w K mg base n fa fd ps (spOf K (callF T W n) f)
  | 0, f, df, fa, fd, ps, hT, D => by
    refine ⟨fun vs H Q ⟨Hf, as, x, outs, _, _, _, e, _⟩ => ?_, fun A outer s H args us vs Q _ _ _ _ _ ⟨Hf, as, x, outs, _, _, _, e, _⟩ => ?_⟩ <;> (simp only [callF] at e; cases e)
  | n + 1, f, df, fa, fd, ps, hT, D => by
    obtain ⟨st, N, F, S, hN, chk⟩ := D.ex
    have red : ∀ {as : List AV} {x : RV} {outs : List PyData}, callF T W (n + 1) f as = some (x, outs) → as.length = df.ps ∧ ∃ o, evB (callF T W n) W df.body (startS df.ns as) = some o ∧
        ((∃ ρ, o = .nx ρ ∧ x = .val .none ∧ outsOf as 0 ρ = some outs) ∨ ∃ ρ, o = .ret x ρ ∧ outsOf as 0 ρ = some outs) := fun {as x outs} e => by
      simp only [callF, hT, runD] at e
      split at e
      · rename_i hl
        refine ⟨hl, ?_⟩
        split at e
        · rename_i ρ he
          obtain ⟨o, e1, e2⟩ := map_some' e
          cases e2
          exact ⟨_, he, .inl ⟨ρ, rfl, rfl, e1⟩⟩
        · rename_i r ρ he
          obtain ⟨o, e1, e2⟩ := map_some' e
          cases e2
          exact ⟨_, he, .inr ⟨ρ, rfl, e1⟩⟩
        · cases e
      · cases e
    refine fnG_of F S (fun vs H Q ⟨Hf, as, x, outs, _, a, _, e, _⟩ => by rw [← a.len, (red e).1, D.np]) fun code A outer s H vs Q room gu pre => ?_
    obtain ⟨Hf, as, x, outs, sm, a, nd, e, k⟩ := pre
    obtain ⟨hl, o, eo, ho⟩ := red e
    have E := ER.entry sm a nd hN (by rw [hl]; exact D.pn)
    have xok : XOk (cxOf CX0 P w K mg base N (Str.ofString df.name) (defScope st) fa code A outer s H E0).nox (callF T W n) G ⟨N, defScope st, fun _ => true⟩ := {
      N := rfl
      sc := rfl
      fn := fun _ _ => rfl
      nd := S.nd
      calm := rfl
      gd := gu
      room := Nat.lt_of_le_of_lt (by
        show _ ≤ (A.deeper (envOfC (Str.ofString df.name) (defScope st) s.heap.objs.size fa code)).units + 16 * n + 200
        exact Nat.add_le_add_right (Nat.le_add_right _ _) _) room.un
      cs := ok.cs
      bl := ok.bl
      fs := fun g y np hg => by
        obtain ⟨dg, h1, h2, h3⟩ := ok.names g y np hg
        obtain ⟨ga, gd, gps, Dg⟩ := ok.defs g dg h1
        obtain ⟨sg, Ng, Fg, _, _, _⟩ := Dg.ex
        subst h2
        exact ⟨⟨n, ga, gd, gps, room, Dg.at_, Fg.kp, Dg.bi, by rw [Dg.np, h3], tab_fn ok n g dg ga gd gps h1 Dg⟩⟩
      ks := fun q hq y np hg => by
        obtain ⟨dg, h1, h2, h3⟩ := ok.names q.1 y np hg
        obtain ⟨ga, gd, gps, Dg⟩ := ok.defs q.1 dg h1
        obtain ⟨sg, Ng, Fg, _, _, _⟩ := Dg.ex
        subst h2
        obtain ⟨k1, k2⟩ := Dg.kw q hq rfl
        exact ⟨⟨n, ga, gd, gps, room, Dg.at_, Fg.kp, fun s us ws hin l1 l2 => k1 s us ws hin l1 (by simpa using l2), by simpa using k2, tab_fn ok n q.1 dg ga gd gps h1 Dg⟩⟩ }
    refine ⟨_, sB (Y := ⟨K, Hf, H, ioPairs as vs 0⟩) (w := W) rfl xok PassesOwn.never S.kind df.body (defBody st) chk, ⟨Hf, _, o, E, eo, ?_⟩⟩
    rcases ho with ⟨ρ, rfl, rfl, eo2⟩ | ⟨ρ, rfl, eo2⟩
    · exact fun σ' H' Hf' s1 E1 => k .non H' Hf' (exit_of a s1 ⟨E1, by simp [Rep]⟩ eo2)
    · exact fun v σ' H' Hf' s1 vr => k v H' Hf' (exit_of a s1 vr eo2)
end
end PL

namespace K82
open PySem PySem.Spec PyProof.Rows L2 PL
def d_is_integer : Df := { name := "is_integer", ps := 1, ns := 1, body :=
   [.ret (.and (.isi (.slot 0) ["int"]) (.nt (.isi (.slot 0) ["bool"])))] }
def d_is_count : Df := { name := "is_count", ps := 1, ns := 1, body :=
   [.ret (.and (.call 0 "is_integer" [(.e (.v 0))]) (.cmp .ge (.slot 0) (.ex (.c (.int 0)))))] }
def d_is_list : Df := { name := "is_list", ps := 1, ns := 1, body :=
   [.ret (.isi (.slot 0) ["list", "tuple"])] }
def d_is_tuple : Df := { name := "is_tuple", ps := 2, ns := 2, body :=
   [.ret (.and (.isi (.slot 0) ["tuple"]) (.cmp .eq (.ex (.blt .len [(.slot 0)])) (.slot 1)))] }
def d_is_line_any : Df := { name := "is_line_any", ps := 1, ns := 1, body :=
   [.ret (.and (.isi (.slot 0) ["str"]) (.cmp .le (.ex (.blt .len [(.slot 0)])) (.ex (.g "MOST_LINE" (.int 2000)))))] }
def d_are_lines_any : Df := { name := "are_lines_any", ps := 1, ns := 2, body :=
   [.ret (.and (.call 2 "is_list" [(.e (.v 0))]) (.and (.cmp .le (.ex (.blt .len [(.slot 0)])) (.ex (.g "MOST_LINES" (.int 200)))) (.blt .all [(.ex (.lc (.call 4 "is_line_any" [(.e (.v 1))]) (.nm 1) (.seq (.v 0)) none [1]))])))] }
def d_is_edit_any : Df := { name := "is_edit_any", ps := 1, ns := 2, body :=
   [.iF (.or (.nt (.tr (.ex (.call 3 "is_tuple" [(.e (.v 0)), (.e (.c (.int 2)))])))) (.nt (.tr (.ex (.isi (.ex (.ix (.slot 0) (.c (.int 0)))) ["str"])))))
      [.ret (.c (.bool false))]
      [],
    .iF (.cmp .eq (.ex (.ix (.slot 0) (.c (.int 0)))) (.ex (.g "PUT" (.str "put"))))
      [.ret (.and (.isi (.ex (.ix (.slot 0) (.c (.int 1)))) ["tuple"]) (.and (.cmp .ne (.ex (.ix (.slot 0) (.c (.int 1)))) (.ex (.tup []))) (.blt .all [(.ex (.lc (.call 4 "is_line_any" [(.e (.v 1))]) (.nm 1) (.seq (.ix (.slot 0) (.c (.int 1)))) none [1]))])))]
      [],
    .ret (.and (.cmp .mem (.ex (.ix (.slot 0) (.c (.int 0)))) (.ex (.tup [(.g "KEEP" (.str "keep")), (.g "TAKE" (.str "take"))]))) (.and (.call 1 "is_count" [(.e (.ix (.slot 0) (.c (.int 1))))]) (.cmp .gt (.ex (.ix (.slot 0) (.c (.int 1)))) (.ex (.c (.int 0))))))] }
def d_is_patch_of : Df := { name := "is_patch_of", ps := 2, ns := 5, body :=
   [.iF (.or (.nt (.tr (.ex (.isi (.slot 1) ["tuple"])))) (.or (.cmp .gt (.ex (.blt .len [(.slot 1)])) (.ex (.g "MOST_EDITS" (.int 400)))) (.nt (.tr (.ex (.blt .all [(.ex (.lc (.call 6 "is_edit_any" [(.e (.v 4))]) (.nm 4) (.seq (.v 1)) none [4]))]))))))
      [.ret (.c (.bool false))]
      [],
    .iF (.cmp .ne (.ex (.blt .sum [(.ex (.lc (.ix (.slot 3) (.c (.int 1))) (.nm 3) (.seq (.v 1)) (some (.cmp .ne (.ex (.ix (.slot 3) (.c (.int 0)))) (.ex (.g "PUT" (.str "put"))))) [3]))])) (.ex (.blt .len [(.slot 0)])))
      [.ret (.c (.bool false))]
      [],
    .asg (.nm 2) (.blt .sum [(.ex (.lc (.ite (.cmp .eq (.ex (.ix (.slot 3) (.c (.int 0)))) (.ex (.g "PUT" (.str "put")))) (.blt .len [(.ex (.ix (.slot 3) (.c (.int 1))))]) (.ite (.cmp .eq (.ex (.ix (.slot 3) (.c (.int 0)))) (.ex (.g "KEEP" (.str "keep")))) (.ix (.slot 3) (.c (.int 1))) (.c (.int 0)))) (.nm 3) (.seq (.v 1)) none [3]))]),
    .ret (.cmp .le (.slot 2) (.ex (.g "MOST_LINES" (.int 200))))] }
def d_want_lines : Df := { name := "want_lines", ps := 1, ns := 1, body :=
   [.iF (.nt (.tr (.ex (.call 5 "are_lines_any" [(.e (.v 0))]))))
      [.bad]
      []] }
def d_want_patch : Df := { name := "want_patch", ps := 2, ns := 2, body :=
   [.ex (.call 8 "want_lines" [(.e (.v 0))]),
    .iF (.nt (.tr (.ex (.call 7 "is_patch_of" [(.e (.v 0)), (.e (.v 1))]))))
      [.bad]
      []] }
def b_trace_of_0 : List RS :=
   [.iF (.cmp .eq (.slot 4) (.ex (.g "PUT" (.str "put"))))
      [.mut .extend 2 (.lc (.tup [(.v 6), (.c .none)]) (.nm 6) (.seq (.v 5)) none [6]),
       .ct]
      [],
    .iF (.cmp .eq (.slot 4) (.ex (.g "KEEP" (.str "keep"))))
      [.mut .extend 2 (.lc (.tup [(.ix (.slot 0) (.v 7)), (.v 7)]) (.nm 7) (.rng2 (.v 3) (.bin .add (.slot 3) (.slot 5))) none [7])]
      [],
    .asg (.nm 3) (.bin .add (.slot 3) (.slot 5))]
def d_trace_of : Df := { name := "trace_of", ps := 2, ns := 8, body :=
   [.par [2, 3] [(.lst []), (.c (.int 0))],
    .for_ (.tup [(.nm 4), (.nm 5)]) (.seq (.v 1)) b_trace_of_0,
    .retS 2] }
def b_edits_put_together_0 : List RS :=
   [.iF (.and (.cmp .ne (.slot 1) (.ex (.lst []))) (.cmp .eq (.ex (.ix (.ex (.ix (.slot 1) (.neg (.c (.int 1))))) (.c (.int 0)))) (.slot 2)))
      [.setIx 1 (.neg (.c (.int 1))) (.tup [(.v 2), (.bin .add (.ex (.ix (.ex (.ix (.slot 1) (.neg (.c (.int 1))))) (.c (.int 1)))) (.slot 3))])]
      [.mut .append 1 (.tup [(.v 2), (.v 3)])]]
def d_edits_put_together : Df := { name := "edits_put_together", ps := 1, ns := 4, body :=
   [.asg (.nm 1) (.lst []),
    .for_ (.tup [(.nm 2), (.nm 3)]) (.seq (.v 0)) b_edits_put_together_0,
    .ret (.blt .tuple [(.slot 1)])] }
def b_patch_of_trace_0 : List RS :=
   [.iF (.isN (.slot 6))
      [.mut .append 4 (.v 5),
       .ct]
      [],
    .mut .extend 2 (.ite (.cmp .gt (.slot 6) (.slot 3)) (.lst [(.tup [(.g "TAKE" (.str "take")), (.bin .sub (.slot 6) (.slot 3))])]) (.lst [])),
    .mut .extend 2 (.ite (.cmp .ne (.slot 4) (.ex (.lst []))) (.lst [(.tup [(.g "PUT" (.str "put")), (.blt .tuple [(.slot 4)])])]) (.lst [])),
    .mut .extend 2 (.ite (.cmp .lt (.slot 6) (.slot 0)) (.lst [(.tup [(.g "KEEP" (.str "keep")), (.c (.int 1))])]) (.lst [])),
    .par [3, 4] [(.bin .add (.slot 6) (.ex (.c (.int 1)))), (.lst [])]]
def d_patch_of_trace : Df := { name := "patch_of_trace", ps := 2, ns := 7, body :=
   [.par [2, 3, 4] [(.lst []), (.c (.int 0)), (.lst [])],
    .for_ (.tup [(.nm 5), (.nm 6)]) (.seq (.bin .add (.slot 1) (.ex (.lst [(.tup [(.c (.str "")), (.v 0)])])))) b_patch_of_trace_0,
    .ret (.call 11 "edits_put_together" [(.e (.v 2))])] }
def d_lines_patched : Df := { name := "lines_patched", ps := 2, ns := 4, body :=
   [.ret (.lc (.v 2) (.tup [(.nm 2), (.nm 3)]) (.seq (.call 10 "trace_of" [(.e (.v 0)), (.e (.v 1))])) none [2, 3])] }
def d_cost_of_patch : Df := { name := "cost_of_patch", ps := 1, ns := 3, body :=
   [.ret (.blt .sum [(.ex (.lc (.ite (.cmp .eq (.slot 1) (.ex (.g "PUT" (.str "put")))) (.blt .len [(.slot 2)]) (.v 2)) (.tup [(.nm 1), (.nm 2)]) (.seq (.v 0)) (some (.cmp .ne (.slot 1) (.ex (.g "KEEP" (.str "keep"))))) [1, 2]))])] }
def d_is_patch : Df := { name := "is_patch", ps := 2, ns := 2, body :=
   [.ex (.call 8 "want_lines" [(.e (.v 0))]),
    .ret (.call 7 "is_patch_of" [(.e (.v 0)), (.e (.v 1))])] }
def d_patched : Df := { name := "patched", ps := 2, ns := 2, body :=
   [.ex (.call 9 "want_patch" [(.e (.v 0)), (.e (.v 1))]),
    .ret (.call 13 "lines_patched" [(.e (.blt .list [(.slot 0)])), (.e (.v 1))])] }
def d_patch_cost : Df := { name := "patch_cost", ps := 2, ns := 2, body :=
   [.ex (.call 9 "want_patch" [(.e (.v 0)), (.e (.v 1))]),
    .ret (.call 14 "cost_of_patch" [(.e (.v 1))])] }
def d_normalized : Df := { name := "normalized", ps := 2, ns := 2, body :=
   [.ex (.call 9 "want_patch" [(.e (.v 0)), (.e (.v 1))]),
    .ret (.call 12 "patch_of_trace" [(.e (.blt .len [(.slot 0)])), (.e (.call 10 "trace_of" [(.e (.blt .list [(.slot 0)])), (.e (.v 1))]))])] }
def b_turned_about_0 : List RS :=
   [.mut .append 4 (.tup [(.v 6), (.get2 (.slot 2) (.v 5) (.c .none))])]
def d_turned_about : Df := { name := "turned_about", ps := 2, ns := 9, body :=
   [.ex (.call 9 "want_patch" [(.e (.v 0)), (.e (.v 1))]),
    .par [3, 4] [(.call 10 "trace_of" [(.e (.blt .list [(.slot 0)])), (.e (.v 1))]), (.lst [])],
    .asg (.nm 2) (.blt .dict [(.ex (.lc (.tup [(.v 8), (.v 7)]) (.tup [(.nm 7), (.tup [(.nm 6), (.nm 8)])]) (.enum (.v 3)) (some (.notN (.slot 8))) [7, 6, 8]))]),
    .for_ (.tup [(.nm 5), (.nm 6)]) (.enum (.v 0)) b_turned_about_0,
    .ret (.call 12 "patch_of_trace" [(.e (.blt .len [(.slot 3)])), (.e (.v 4))])] }
def d_joined_patch : Df := { name := "joined_patch", ps := 3, ns := 8, body :=
   [.ex (.call 9 "want_patch" [(.e (.v 0)), (.e (.v 1))]),
    .asg (.nm 3) (.call 10 "trace_of" [(.e (.blt .list [(.slot 0)])), (.e (.v 1))]),
    .iF (.nt (.tr (.ex (.call 7 "is_patch_of" [(.e (.v 3)), (.e (.v 2))]))))
      [.bad]
      [],
    .asg (.nm 4) (.call 10 "trace_of" [(.e (.lc (.v 5) (.tup [(.nm 5), (.nm 6)]) (.seq (.v 3)) none [5, 6])), (.e (.v 2))]),
    .ret (.call 12 "patch_of_trace" [(.e (.blt .len [(.slot 0)])), (.e (.lc (.tup [(.v 5), (.ite (.isN (.slot 7)) (.c .none) (.ix (.ex (.ix (.slot 3) (.v 7))) (.c (.int 1))))]) (.tup [(.nm 5), (.nm 7)]) (.seq (.v 4)) none [5, 7]))])] }
def d__law_draw : Df := { name := "_law_draw", ps := 2, ns := 3, body :=
   [.iF (.cmp .gt (.ex (.ix (.slot 0) (.c (.int 0)))) (.ex (.c (.int 0))))
      [.asg (.tup [(.ixs 0 0), (.nm 2)]) (.blt .divmod [(.ex (.ix (.slot 0) (.c (.int 0)))), (.slot 1)]),
       .retS 2]
      [],
    .setIx 0 (.c (.int 1)) (.bin .mod (.ex (.blt .int [(.ex (.bin .add (.ex (.bin .mul (.ex (.ix (.slot 0) (.c (.int 1)))) (.ex (.c (.int 39373))))) (.ex (.c (.int 733)))))])) (.ex (.c (.int 2147483587)))),
    .ret (.bin .mod (.ex (.blt .int [(.ex (.bin .fdiv (.ex (.bin .mod (.ex (.blt .int [(.ex (.bin .mul (.ex (.ix (.slot 0) (.c (.int 1)))) (.ex (.ix (.slot 0) (.c (.int 1))))))])) (.ex (.c (.int 2147483563))))) (.ex (.c (.int 29)))))])) (.slot 1))] }
def d__law_pick : Df := { name := "_law_pick", ps := 2, ns := 2, body :=
   [.ret (.ix (.slot 1) (.call 21 "_law_draw" [(.io 0), (.e (.blt .len [(.slot 1)]))]))] }
def d__law_lines_drawn : Df := { name := "_law_lines_drawn", ps := 2, ns := 3, body :=
   [.ret (.lc (.call 22 "_law_pick" [(.io 0), (.e (.lst [(.c (.str "a")), (.c (.str "b")), (.c (.str "c")), (.c (.str "")), (.c (.str "a b"))]))]) (.nm 2) (.rng1 (.v 1)) none [2])] }
def b__law_patch_0 : List RS :=
   [.par [5, 6] [(.call 21 "_law_draw" [(.io 0), (.e (.c (.int 3)))]), (.bin .add (.ex (.c (.int 1))) (.ex (.call 21 "_law_draw" [(.io 0), (.e (.c (.int 3)))])))],
    .iF (.cmp .eq (.slot 5) (.ex (.c (.int 0))))
      [.mut .append 3 (.tup [(.c (.str "put")), (.blt .tuple [(.ex (.call 23 "_law_lines_drawn" [(.io 0), (.e (.v 6))]))])])]
      [.iF (.cmp .gt (.slot 4) (.ex (.c (.int 0))))
         [.mut .append 3 (.tup [(.ix (.ex (.lst [(.c (.str "keep")), (.c (.str "take"))])) (.bin .sub (.slot 5) (.ex (.c (.int 1))))), (.blt .min [(.slot 6), (.slot 4)])]),
          .asg (.nm 4) (.bin .sub (.slot 4) (.ex (.blt .min [(.slot 6), (.slot 4)])))]
         []]]
def d__law_patch : Df := { name := "_law_patch", ps := 2, ns := 7, body :=
   [.par [3, 4] [(.lst []), (.v 1)],
    .for_ (.nm 2) (.rng1 (.c (.int 9))) b__law_patch_0,
    .ret (.blt .tuple [(.ex (.bin .add (.slot 3) (.ex (.ite (.cmp .gt (.slot 4) (.ex (.c (.int 0)))) (.lst [(.tup [(.call 22 "_law_pick" [(.io 0), (.e (.lst [(.c (.str "keep")), (.c (.str "take"))]))]), (.v 4)])]) (.lst [])))))])] }
def b__law_trace_0 : List RS :=
   [.iF (.cmp .eq (.slot 4) (.ex (.c (.str "put"))))
      [.mut .extend 2 (.lc (.tup [(.v 6), (.c .none)]) (.nm 6) (.seq (.v 5)) none [6])]
      [.mut .extend 2 (.ite (.cmp .eq (.slot 4) (.ex (.c (.str "keep")))) (.lc (.tup [(.ix (.slot 0) (.v 7)), (.v 7)]) (.nm 7) (.rng2 (.v 3) (.bin .add (.slot 3) (.slot 5))) none [7]) (.lst [])),
       .asg (.nm 3) (.bin .add (.slot 3) (.slot 5))]]
def d__law_trace : Df := { name := "_law_trace", ps := 2, ns := 8, body :=
   [.par [2, 3] [(.lst []), (.c (.int 0))],
    .for_ (.tup [(.nm 4), (.nm 5)]) (.seq (.v 1)) b__law_trace_0,
    .retS 2] }
def b__law_normal_0 : List RS :=
   [.iF (.isN (.slot 6))
      [.mut .append 4 (.v 5)]
      [.mut .extend 2 (.ite (.cmp .gt (.slot 6) (.slot 3)) (.lst [(.tup [(.c (.str "take")), (.bin .sub (.slot 6) (.slot 3))])]) (.lst [])),
       .mut .extend 2 (.ite (.cmp .ne (.slot 4) (.ex (.lst []))) (.lst [(.tup [(.c (.str "put")), (.blt .tuple [(.slot 4)])])]) (.lst [])),
       .iF (.and (.cmp .lt (.slot 6) (.slot 0)) (.and (.cmp .ne (.slot 2) (.ex (.lst []))) (.cmp .eq (.ex (.ix (.ex (.ix (.slot 2) (.neg (.c (.int 1))))) (.c (.int 0)))) (.ex (.c (.str "keep"))))))
         [.setIx 2 (.neg (.c (.int 1))) (.tup [(.c (.str "keep")), (.bin .add (.ex (.ix (.ex (.ix (.slot 2) (.neg (.c (.int 1))))) (.c (.int 1)))) (.ex (.c (.int 1))))])]
         [.iF (.cmp .lt (.slot 6) (.slot 0))
            [.mut .append 2 (.tup [(.c (.str "keep")), (.c (.int 1))])]
            []],
       .par [3, 4] [(.bin .add (.slot 6) (.ex (.c (.int 1)))), (.lst [])]]]
def d__law_normal : Df := { name := "_law_normal", ps := 2, ns := 7, body :=
   [.par [2, 3, 4] [(.lst []), (.c (.int 0)), (.lst [])],
    .for_ (.tup [(.nm 5), (.nm 6)]) (.seq (.bin .add (.slot 1) (.ex (.lst [(.tup [(.c .none), (.v 0)])])))) b__law_normal_0,
    .ret (.blt .tuple [(.slot 2)])] }
def d__law_cost : Df := { name := "_law_cost", ps := 1, ns := 3, body :=
   [.ret (.blt .sum [(.ex (.lc (.ite (.cmp .eq (.slot 1) (.ex (.c (.str "put")))) (.blt .len [(.slot 2)]) (.v 2)) (.tup [(.nm 1), (.nm 2)]) (.seq (.v 0)) (some (.cmp .ne (.slot 1) (.ex (.c (.str "keep"))))) [1, 2]))])] }
def b__law_right_0 : List RS :=
   [.asg (.nm 2) (.call 23 "_law_lines_drawn" [(.io 0), (.e (.call 21 "_law_draw" [(.io 0), (.e (.c (.int 13)))]))]),
    .asg (.nm 3) (.call 24 "_law_patch" [(.io 0), (.e (.blt .len [(.slot 2)]))]),
    .par [11, 12] [(.call 25 "_law_trace" [(.e (.v 2)), (.e (.v 3))]), (.blt .repr [(.ex (.lst [(.v 2), (.v 3)]))])],
    .asg (.nm 4) (.lc (.v 13) (.tup [(.nm 13), (.nm 14)]) (.seq (.v 11)) none [13, 14]),
    .iF (.cmp .ne (.ex (.blt .repr [(.ex (.lst [(.call 16 "patched" [(.e (.v 2)), (.e (.v 3))]), (.callK 16 "patched" [] ["patch", "lines"] [(.v 3), (.blt .tuple [(.slot 2)])] [1, 0]), (.call 17 "patch_cost" [(.e (.v 2)), (.e (.v 3))]), (.call 15 "is_patch" [(.e (.v 2)), (.e (.v 3))])]))])) (.ex (.blt .repr [(.ex (.lst [(.v 4), (.v 4), (.call 27 "_law_cost" [(.e (.v 3))]), (.c (.bool true))]))])))
      [.ret (.c (.bool false))]
      [],
    .asg (.nm 5) (.call 26 "_law_normal" [(.e (.blt .len [(.slot 2)])), (.e (.v 11))]),
    .iF (.cmp .ne (.ex (.blt .repr [(.ex (.lst [(.call 18 "normalized" [(.e (.v 2)), (.e (.v 3))]), (.callK 18 "normalized" [] ["patch", "lines"] [(.v 3), (.v 2)] [1, 0])]))])) (.ex (.blt .repr [(.ex (.lst [(.v 5), (.v 5)]))])))
      [.ret (.c (.bool false))]
      [],
    .asg (.nm 6) (.blt .dict [(.ex (.lc (.tup [(.v 14), (.v 15)]) (.tup [(.nm 15), (.tup [(.nm 13), (.nm 14)])]) (.enum (.v 11)) (some (.notN (.slot 14))) [15, 13, 14]))]),
    .asg (.nm 7) (.call 26 "_law_normal" [(.e (.blt .len [(.slot 4)])), (.e (.lc (.tup [(.v 13), (.get2 (.slot 6) (.v 16) (.c .none))]) (.tup [(.nm 16), (.nm 13)]) (.enum (.v 2)) none [16, 13]))]),
    .iF (.or (.cmp .ne (.ex (.blt .repr [(.ex (.lst [(.call 19 "turned_about" [(.e (.v 2)), (.e (.v 3))]), (.callK 19 "turned_about" [] ["patch", "lines"] [(.v 3), (.v 2)] [1, 0])]))])) (.ex (.blt .repr [(.ex (.lst [(.v 7), (.v 7)]))]))) (.cmp .ne (.ex (.call 16 "patched" [(.e (.v 4)), (.e (.v 7))])) (.slot 2)))
      [.ret (.c (.bool false))]
      [],
    .asg (.nm 8) (.call 24 "_law_patch" [(.io 0), (.e (.blt .len [(.slot 4)]))]),
    .asg (.nm 9) (.lc (.tup [(.v 13), (.ite (.isN (.slot 15)) (.c .none) (.ix (.ex (.ix (.slot 11) (.v 15))) (.c (.int 1))))]) (.tup [(.nm 13), (.nm 15)]) (.seq (.call 25 "_law_trace" [(.e (.v 4)), (.e (.v 8))])) none [13, 15]),
    .asg (.nm 10) (.call 26 "_law_normal" [(.e (.blt .len [(.slot 2)])), (.e (.v 9))]),
    .iF (.cmp .ne (.ex (.blt .repr [(.ex (.lst [(.call 20 "joined_patch" [(.e (.v 2)), (.e (.v 3)), (.e (.v 8))]), (.callK 20 "joined_patch" [] ["far", "patch", "lines"] [(.v 8), (.v 3), (.v 2)] [2, 1, 0])]))])) (.ex (.blt .repr [(.ex (.lst [(.v 10), (.v 10)]))])))
      [.ret (.c (.bool false))]
      [],
    .iF (.or (.cmp .gt (.ex (.call 17 "patch_cost" [(.e (.v 2)), (.e (.v 10))])) (.ex (.bin .add (.ex (.call 17 "patch_cost" [(.e (.v 2)), (.e (.v 3))])) (.ex (.call 17 "patch_cost" [(.e (.v 4)), (.e (.v 8))]))))) (.cmp .ne (.ex (.call 16 "patched" [(.e (.v 2)), (.e (.v 10))])) (.ex (.call 16 "patched" [(.e (.v 4)), (.e (.v 8))]))))
      [.ret (.c (.bool false))]
      [],
    .iF (.cmp .ne (.ex (.blt .repr [(.ex (.lst [(.v 2), (.v 3)]))])) (.slot 12))
      [.ret (.c (.bool false))]
      []]
def d__law_right : Df := { name := "_law_right", ps := 1, ns := 17, body :=
   [.for_ (.nm 1) (.rng1 (.c (.int 5))) b__law_right_0,
    .ret (.c (.bool true))] }
def T : List Df := [d_is_integer, d_is_count, d_is_list, d_is_tuple, d_is_line_any, d_are_lines_any, d_is_edit_any, d_is_patch_of, d_want_lines, d_want_patch, d_trace_of, d_edits_put_together, d_patch_of_trace, d_lines_patched, d_cost_of_patch, d_is_patch, d_patched, d_patch_cost, d_normalized, d_turned_about, d_joined_patch, d__law_draw, d__law_pick, d__law_lines_drawn, d__law_patch, d__law_trace, d__law_normal, d__law_cost, d__law_right]
def G : GG := { cs := [("KEEP", (.str "keep")), ("MOST_EDITS", (.int 400)), ("MOST_LINE", (.int 2000)), ("MOST_LINES", (.int 200)), ("PUT", (.str "put")), ("TAKE", (.str "take"))], fs := [("is_integer", 1), ("is_count", 1), ("is_list", 1), ("is_tuple", 2), ("is_line_any", 1), ("are_lines_any", 1), ("is_edit_any", 1), ("is_patch_of", 2), ("want_lines", 1), ("want_patch", 2), ("trace_of", 2), ("edits_put_together", 1), ("patch_of_trace", 2), ("lines_patched", 2), ("cost_of_patch", 1), ("is_patch", 2), ("patched", 2), ("patch_cost", 2), ("normalized", 2), ("turned_about", 2), ("joined_patch", 3), ("_law_draw", 2), ("_law_pick", 2), ("_law_lines_drawn", 2), ("_law_patch", 2), ("_law_trace", 2), ("_law_normal", 2), ("_law_cost", 1), ("_law_right", 1)], ks := [(16, 0, ["patch", "lines"], [1, 0]), (18, 0, ["patch", "lines"], [1, 0]), (19, 0, ["patch", "lines"], [1, 0]), (20, 0, ["far", "patch", "lines"], [2, 1, 0])] }
def topS (i : Nat) : Stmt := PySem.Challenge.pw_formscountry_k82_whole_patches_done_and.main.body.getD i (.Pass ⟨0, 0, 0, 0⟩)
abbrev s_is_integer : Stmt := topS 1
abbrev n_is_integer : List Str := ["value"]
abbrev p_is_integer : List Str := ["value"]
theorem sc_is_integer : FnScope n_is_integer p_is_integer (defScope s_is_integer) := ⟨rfl, rfl, rfl, by decide +kernel, rfl, by decide +kernel, by decide +kernel⟩
theorem ck_is_integer : chkB G d_is_integer.body ⟨n_is_integer, defScope s_is_integer, fun _ => true⟩ (defBody s_is_integer) = true := by decide +kernel
abbrev s_is_count : Stmt := topS 2
abbrev n_is_count : List Str := ["value"]
abbrev p_is_count : List Str := ["value"]
theorem sc_is_count : FnScope n_is_count p_is_count (defScope s_is_count) := ⟨rfl, rfl, rfl, by decide +kernel, rfl, by decide +kernel, by decide +kernel⟩
theorem ck_is_count : chkB G d_is_count.body ⟨n_is_count, defScope s_is_count, fun _ => true⟩ (defBody s_is_count) = true := by decide +kernel
abbrev s_is_list : Stmt := topS 3
abbrev n_is_list : List Str := ["value"]
abbrev p_is_list : List Str := ["value"]
theorem sc_is_list : FnScope n_is_list p_is_list (defScope s_is_list) := ⟨rfl, rfl, rfl, by decide +kernel, rfl, by decide +kernel, by decide +kernel⟩
theorem ck_is_list : chkB G d_is_list.body ⟨n_is_list, defScope s_is_list, fun _ => true⟩ (defBody s_is_list) = true := by decide +kernel
abbrev s_is_tuple : Stmt := topS 4
abbrev n_is_tuple : List Str := ["value", "many"]
abbrev p_is_tuple : List Str := ["value", "many"]
theorem sc_is_tuple : FnScope n_is_tuple p_is_tuple (defScope s_is_tuple) := ⟨rfl, rfl, rfl, by decide +kernel, rfl, by decide +kernel, by decide +kernel⟩
theorem ck_is_tuple : chkB G d_is_tuple.body ⟨n_is_tuple, defScope s_is_tuple, fun _ => true⟩ (defBody s_is_tuple) = true := by decide +kernel
abbrev s_is_line_any : Stmt := topS 17
abbrev n_is_line_any : List Str := ["value"]
abbrev p_is_line_any : List Str := ["value"]
theorem sc_is_line_any : FnScope n_is_line_any p_is_line_any (defScope s_is_line_any) := ⟨rfl, rfl, rfl, by decide +kernel, rfl, by decide +kernel, by decide +kernel⟩
theorem ck_is_line_any : chkB G d_is_line_any.body ⟨n_is_line_any, defScope s_is_line_any, fun _ => true⟩ (defBody s_is_line_any) = true := by decide +kernel
abbrev s_are_lines_any : Stmt := topS 18
abbrev n_are_lines_any : List Str := ["value", "one"]
abbrev p_are_lines_any : List Str := ["value"]
theorem sc_are_lines_any : FnScope n_are_lines_any p_are_lines_any (defScope s_are_lines_any) := ⟨rfl, rfl, rfl, by decide +kernel, rfl, by decide +kernel, by decide +kernel⟩
theorem ck_are_lines_any : chkB G d_are_lines_any.body ⟨n_are_lines_any, defScope s_are_lines_any, fun _ => true⟩ (defBody s_are_lines_any) = true := by decide +kernel
abbrev s_is_edit_any : Stmt := topS 19
abbrev n_is_edit_any : List Str := ["value", "one"]
abbrev p_is_edit_any : List Str := ["value"]
theorem sc_is_edit_any : FnScope n_is_edit_any p_is_edit_any (defScope s_is_edit_any) := ⟨rfl, rfl, rfl, by decide +kernel, rfl, by decide +kernel, by decide +kernel⟩
theorem ck_is_edit_any : chkB G d_is_edit_any.body ⟨n_is_edit_any, defScope s_is_edit_any, fun _ => true⟩ (defBody s_is_edit_any) = true := by decide +kernel
abbrev s_is_patch_of : Stmt := topS 20
abbrev n_is_patch_of : List Str := ["lines", "value", "late", "edit", "one"]
abbrev p_is_patch_of : List Str := ["lines", "value"]
theorem sc_is_patch_of : FnScope n_is_patch_of p_is_patch_of (defScope s_is_patch_of) := ⟨rfl, rfl, rfl, by decide +kernel, rfl, by decide +kernel, by decide +kernel⟩
theorem ck_is_patch_of : chkB G d_is_patch_of.body ⟨n_is_patch_of, defScope s_is_patch_of, fun _ => true⟩ (defBody s_is_patch_of) = true := by decide +kernel
abbrev s_want_lines : Stmt := topS 21
abbrev n_want_lines : List Str := ["lines"]
abbrev p_want_lines : List Str := ["lines"]
theorem sc_want_lines : FnScope n_want_lines p_want_lines (defScope s_want_lines) := ⟨rfl, rfl, rfl, by decide +kernel, rfl, by decide +kernel, by decide +kernel⟩
theorem ck_want_lines : chkB G d_want_lines.body ⟨n_want_lines, defScope s_want_lines, fun _ => true⟩ (defBody s_want_lines) = true := by decide +kernel
abbrev s_want_patch : Stmt := topS 22
abbrev n_want_patch : List Str := ["lines", "patch"]
abbrev p_want_patch : List Str := ["lines", "patch"]
theorem sc_want_patch : FnScope n_want_patch p_want_patch (defScope s_want_patch) := ⟨rfl, rfl, rfl, by decide +kernel, rfl, by decide +kernel, by decide +kernel⟩
theorem ck_want_patch : chkB G d_want_patch.body ⟨n_want_patch, defScope s_want_patch, fun _ => true⟩ (defBody s_want_patch) = true := by decide +kernel
abbrev s_trace_of : Stmt := topS 23
abbrev n_trace_of : List Str := ["lines", "patch", "found", "at", "word", "told", "line", "place"]
abbrev p_trace_of : List Str := ["lines", "patch"]
theorem sc_trace_of : FnScope n_trace_of p_trace_of (defScope s_trace_of) := ⟨rfl, rfl, rfl, by decide +kernel, rfl, by decide +kernel, by decide +kernel⟩
theorem ck_trace_of : chkB G d_trace_of.body ⟨n_trace_of, defScope s_trace_of, fun _ => true⟩ (defBody s_trace_of) = true := by decide +kernel
abbrev s_edits_put_together : Stmt := topS 24
abbrev n_edits_put_together : List Str := ["edits", "found", "word", "told"]
abbrev p_edits_put_together : List Str := ["edits"]
theorem sc_edits_put_together : FnScope n_edits_put_together p_edits_put_together (defScope s_edits_put_together) := ⟨rfl, rfl, rfl, by decide +kernel, rfl, by decide +kernel, by decide +kernel⟩
theorem ck_edits_put_together : chkB G d_edits_put_together.body ⟨n_edits_put_together, defScope s_edits_put_together, fun _ => true⟩ (defBody s_edits_put_together) = true := by decide +kernel
abbrev s_patch_of_trace : Stmt := topS 25
abbrev n_patch_of_trace : List Str := ["many", "trace", "edits", "at", "new", "line", "place"]
abbrev p_patch_of_trace : List Str := ["many", "trace"]
theorem sc_patch_of_trace : FnScope n_patch_of_trace p_patch_of_trace (defScope s_patch_of_trace) := ⟨rfl, rfl, rfl, by decide +kernel, rfl, by decide +kernel, by decide +kernel⟩
theorem ck_patch_of_trace : chkB G d_patch_of_trace.body ⟨n_patch_of_trace, defScope s_patch_of_trace, fun _ => true⟩ (defBody s_patch_of_trace) = true := by decide +kernel
abbrev s_lines_patched : Stmt := topS 26
abbrev n_lines_patched : List Str := ["lines", "patch", "line", "place"]
abbrev p_lines_patched : List Str := ["lines", "patch"]
theorem sc_lines_patched : FnScope n_lines_patched p_lines_patched (defScope s_lines_patched) := ⟨rfl, rfl, rfl, by decide +kernel, rfl, by decide +kernel, by decide +kernel⟩
theorem ck_lines_patched : chkB G d_lines_patched.body ⟨n_lines_patched, defScope s_lines_patched, fun _ => true⟩ (defBody s_lines_patched) = true := by decide +kernel
abbrev s_cost_of_patch : Stmt := topS 27
abbrev n_cost_of_patch : List Str := ["patch", "word", "told"]
abbrev p_cost_of_patch : List Str := ["patch"]
theorem sc_cost_of_patch : FnScope n_cost_of_patch p_cost_of_patch (defScope s_cost_of_patch) := ⟨rfl, rfl, rfl, by decide +kernel, rfl, by decide +kernel, by decide +kernel⟩
theorem ck_cost_of_patch : chkB G d_cost_of_patch.body ⟨n_cost_of_patch, defScope s_cost_of_patch, fun _ => true⟩ (defBody s_cost_of_patch) = true := by decide +kernel
abbrev s_is_patch : Stmt := topS 28
abbrev n_is_patch : List Str := ["lines", "value"]
abbrev p_is_patch : List Str := ["lines", "value"]
theorem sc_is_patch : FnScope n_is_patch p_is_patch (defScope s_is_patch) := ⟨rfl, rfl, rfl, by decide +kernel, rfl, by decide +kernel, by decide +kernel⟩
theorem ck_is_patch : chkB G d_is_patch.body ⟨n_is_patch, defScope s_is_patch, fun _ => true⟩ (defBody s_is_patch) = true := by decide +kernel
abbrev s_patched : Stmt := topS 29
abbrev n_patched : List Str := ["lines", "patch"]
abbrev p_patched : List Str := ["lines", "patch"]
theorem sc_patched : FnScope n_patched p_patched (defScope s_patched) := ⟨rfl, rfl, rfl, by decide +kernel, rfl, by decide +kernel, by decide +kernel⟩
theorem ck_patched : chkB G d_patched.body ⟨n_patched, defScope s_patched, fun _ => true⟩ (defBody s_patched) = true := by decide +kernel
abbrev s_patch_cost : Stmt := topS 30
abbrev n_patch_cost : List Str := ["lines", "patch"]
abbrev p_patch_cost : List Str := ["lines", "patch"]
theorem sc_patch_cost : FnScope n_patch_cost p_patch_cost (defScope s_patch_cost) := ⟨rfl, rfl, rfl, by decide +kernel, rfl, by decide +kernel, by decide +kernel⟩
theorem ck_patch_cost : chkB G d_patch_cost.body ⟨n_patch_cost, defScope s_patch_cost, fun _ => true⟩ (defBody s_patch_cost) = true := by decide +kernel
abbrev s_normalized : Stmt := topS 31
abbrev n_normalized : List Str := ["lines", "patch"]
abbrev p_normalized : List Str := ["lines", "patch"]
theorem sc_normalized : FnScope n_normalized p_normalized (defScope s_normalized) := ⟨rfl, rfl, rfl, by decide +kernel, rfl, by decide +kernel, by decide +kernel⟩
theorem ck_normalized : chkB G d_normalized.body ⟨n_normalized, defScope s_normalized, fun _ => true⟩ (defBody s_normalized) = true := by decide +kernel
abbrev s_turned_about : Stmt := topS 32
abbrev n_turned_about : List Str := ["lines", "patch", "places", "trace", "found", "at", "line", "to", "place"]
abbrev p_turned_about : List Str := ["lines", "patch"]
theorem sc_turned_about : FnScope n_turned_about p_turned_about (defScope s_turned_about) := ⟨rfl, rfl, rfl, by decide +kernel, rfl, by decide +kernel, by decide +kernel⟩
theorem ck_turned_about : chkB G d_turned_about.body ⟨n_turned_about, defScope s_turned_about, fun _ => true⟩ (defBody s_turned_about) = true := by decide +kernel
abbrev s_joined_patch : Stmt := topS 33
abbrev n_joined_patch : List Str := ["lines", "patch", "far", "near", "late", "line", "place", "to"]
abbrev p_joined_patch : List Str := ["lines", "patch", "far"]
theorem sc_joined_patch : FnScope n_joined_patch p_joined_patch (defScope s_joined_patch) := ⟨rfl, rfl, rfl, by decide +kernel, rfl, by decide +kernel, by decide +kernel⟩
theorem ck_joined_patch : chkB G d_joined_patch.body ⟨n_joined_patch, defScope s_joined_patch, fun _ => true⟩ (defBody s_joined_patch) = true := by decide +kernel
abbrev s__law_draw : Stmt := topS 36
abbrev n__law_draw : List Str := ["pot", "many", "digit"]
abbrev p__law_draw : List Str := ["pot", "many"]
theorem sc__law_draw : FnScope n__law_draw p__law_draw (defScope s__law_draw) := ⟨rfl, rfl, rfl, by decide +kernel, rfl, by decide +kernel, by decide +kernel⟩
theorem ck__law_draw : chkB G d__law_draw.body ⟨n__law_draw, defScope s__law_draw, fun _ => true⟩ (defBody s__law_draw) = true := by decide +kernel
abbrev s__law_pick : Stmt := topS 37
abbrev n__law_pick : List Str := ["pot", "some"]
abbrev p__law_pick : List Str := ["pot", "some"]
theorem sc__law_pick : FnScope n__law_pick p__law_pick (defScope s__law_pick) := ⟨rfl, rfl, rfl, by decide +kernel, rfl, by decide +kernel, by decide +kernel⟩
theorem ck__law_pick : chkB G d__law_pick.body ⟨n__law_pick, defScope s__law_pick, fun _ => true⟩ (defBody s__law_pick) = true := by decide +kernel
abbrev s__law_lines_drawn : Stmt := topS 38
abbrev n__law_lines_drawn : List Str := ["pot", "many", "turn"]
abbrev p__law_lines_drawn : List Str := ["pot", "many"]
theorem sc__law_lines_drawn : FnScope n__law_lines_drawn p__law_lines_drawn (defScope s__law_lines_drawn) := ⟨rfl, rfl, rfl, by decide +kernel, rfl, by decide +kernel, by decide +kernel⟩
theorem ck__law_lines_drawn : chkB G d__law_lines_drawn.body ⟨n__law_lines_drawn, defScope s__law_lines_drawn, fun _ => true⟩ (defBody s__law_lines_drawn) = true := by decide +kernel
abbrev s__law_patch : Stmt := topS 39
abbrev n__law_patch : List Str := ["pot", "many", "turn", "found", "left", "way", "some"]
abbrev p__law_patch : List Str := ["pot", "many"]
theorem sc__law_patch : FnScope n__law_patch p__law_patch (defScope s__law_patch) := ⟨rfl, rfl, rfl, by decide +kernel, rfl, by decide +kernel, by decide +kernel⟩
theorem ck__law_patch : chkB G d__law_patch.body ⟨n__law_patch, defScope s__law_patch, fun _ => true⟩ (defBody s__law_patch) = true := by decide +kernel
abbrev s__law_trace : Stmt := topS 40
abbrev n__law_trace : List Str := ["lines", "patch", "found", "at", "word", "told", "line", "place"]
abbrev p__law_trace : List Str := ["lines", "patch"]
theorem sc__law_trace : FnScope n__law_trace p__law_trace (defScope s__law_trace) := ⟨rfl, rfl, rfl, by decide +kernel, rfl, by decide +kernel, by decide +kernel⟩
theorem ck__law_trace : chkB G d__law_trace.body ⟨n__law_trace, defScope s__law_trace, fun _ => true⟩ (defBody s__law_trace) = true := by decide +kernel
abbrev s__law_normal : Stmt := topS 41
abbrev n__law_normal : List Str := ["many", "trace", "found", "at", "new", "line", "place"]
abbrev p__law_normal : List Str := ["many", "trace"]
theorem sc__law_normal : FnScope n__law_normal p__law_normal (defScope s__law_normal) := ⟨rfl, rfl, rfl, by decide +kernel, rfl, by decide +kernel, by decide +kernel⟩
theorem ck__law_normal : chkB G d__law_normal.body ⟨n__law_normal, defScope s__law_normal, fun _ => true⟩ (defBody s__law_normal) = true := by decide +kernel
abbrev s__law_cost : Stmt := topS 42
abbrev n__law_cost : List Str := ["patch", "word", "told"]
abbrev p__law_cost : List Str := ["patch"]
theorem sc__law_cost : FnScope n__law_cost p__law_cost (defScope s__law_cost) := ⟨rfl, rfl, rfl, by decide +kernel, rfl, by decide +kernel, by decide +kernel⟩
theorem ck__law_cost : chkB G d__law_cost.body ⟨n__law_cost, defScope s__law_cost, fun _ => true⟩ (defBody s__law_cost) = true := by decide +kernel
abbrev s__law_right : Stmt := topS 43
abbrev n__law_right : List Str := ["pot", "turn", "lines", "patch", "late", "due", "places", "about", "far", "both", "joined", "trace", "shown", "line", "place", "to", "at"]
abbrev p__law_right : List Str := ["pot"]
theorem sc__law_right : FnScope n__law_right p__law_right (defScope s__law_right) := ⟨rfl, rfl, rfl, by decide +kernel, rfl, by decide +kernel, by decide +kernel⟩
theorem ck__law_right : chkB G d__law_right.body ⟨n__law_right, defScope s__law_right, fun _ => true⟩ (defBody s__law_right) = true := by decide +kernel
end K82

/-! V1: rules by which the words' worth is reckoned, step by step. -/
namespace PL
open PySem PySem.Spec PyProof.Rows L2
def seqO (o : Option Out) (k : Env → Option Out) : Option Out := match o with
  | some (.nx ρ) => k ρ
  | some o => some o
  | none => none
theorem seqO_nx {ρ : Env} {k : Env → Option Out} : seqO (some (.nx ρ)) k = k ρ := rfl
theorem seqO_ret {r : RV} {ρ : Env} {k : Env → Option Out} : seqO (some (.ret r ρ)) k = some (.ret r ρ) := rfl
theorem seqO_ct {ρ : Env} {k : Env → Option Out} : seqO (some (.ct ρ)) k = some (.ct ρ) := rfl
theorem seqO_brk {ρ : Env} {k : Env → Option Out} : seqO (some (.brk ρ)) k = some (.brk ρ) := rfl
theorem getS_z {a : SD} {l : Env} : getS (a :: l) 0 = a := rfl
theorem getS_s {a : SD} {l : Env} {n : Nat} : getS (a :: l) (n + 1) = getS l n := by simp [getS]
theorem set_z {a b : SD} {l : Env} : List.set (a :: l) 0 b = b :: l := rfl
theorem set_s {a b : SD} {l : Env} {n : Nat} : List.set (a :: l) (n + 1) b = a :: List.set l n b := rfl
def lcTurn (Φ : Fn) (elt : RE) (tg : Pat) (ifs : Option RT) (d : D) (ρw : Env) : Option (Option D × Env) :=
  (putP tg d ρw).bind fun ρ3 => (evTo Φ ifs ρ3).bind fun t => if t.1 then (evE Φ elt t.2).map fun y => (some y.1.d, y.2) else some (none, t.2)
def compE (Φ : Fn) (elt : RE) (tg : Pat) (ifs : Option RT) (vs : List Nat) (ds : List D) (ρ1 : Env) : Option (RV × Env) :=
  (compL (fun d ρ2 => lcTurn Φ elt tg ifs d (wipeS ρ2 vs)) ds ρ1 []).map fun r => (.own (.list r.1), backS ρ1 r.2 vs)

/-! what comes after a step (named, so that a reckoning does not look into it too early) -/
section
variable (Φ : Fn) (w : Nat)
def kB1 (o : BOp) (b : RP) (p : PV × Env) : Option (RV × Env) := (evP Φ b p.2).bind fun q => (p.1.res q.2).bind fun x => (q.1.res q.2).bind fun y => (binD o x y).map fun r => (r, q.2)
def kC1 (o : COp) (b : RP) (p : PV × Env) : Option (RV × Env) := (evP Φ b p.2).bind fun q => (p.1.res q.2).bind fun x => (q.1.res q.2).bind fun y => (cmpD o x y).map fun r => (.val (.bool r), q.2)
def kN (p : RV × Env) : Option (RV × Env) := match p.1.d with | .int i => some (.val (.int (-i)), p.2) | _ => none
def kAnd (b : RE) (p : RV × Env) : Option (RV × Env) := match p.1.d with | .bool true => evE Φ b p.2 | .bool false => some (.val (.bool false), p.2) | _ => none
def kOr (b : RE) (p : RV × Env) : Option (RV × Env) := match p.1.d with | .bool false => evE Φ b p.2 | .bool true => some (.val (.bool true), p.2) | _ => none
def kNt (p : RV × Env) : Option (RV × Env) := match p.1.d with | .bool b => some (.val (.bool !b), p.2) | _ => none
def kIte (a b : RE) (p : Bool × Env) : Option (RV × Env) := if p.1 = true then evE Φ a p.2 else evE Φ b p.2
def kTup (p : List D × Env) : Option (RV × Env) := if p.1.length ≤ sizeLine then some (.val (.tuple p.1), p.2) else none
def kLst (p : List D × Env) : Option (RV × Env) := if p.1.length ≤ sizeLine then some (.own (.list p.1), p.2) else none
def kIx (i : RE) (p : PV × Env) : Option (RV × Env) := (evE Φ i p.2).bind fun q => (p.1.res q.2).bind fun x => (ixD x q.1.d).map fun r => (.val r, q.2)
def kSl (lo hi : RO) (p : PV × Env) : Option (RV × Env) := (evO Φ lo p.2).bind fun l => (evO Φ hi l.2).bind fun h => (p.1.res h.2).bind fun x => (slD x l.1 h.1).map fun r => (r, h.2)
def kCall (f : Nat) (p : List PA' × Env) : Option (RV × Env) := callD Φ f p.1 p.2
def kCK2 (f : Nat) (pm : List Nat) (p : List PA' × Env) (q : List D × Env) : Option (RV × Env) := (permute (p.1 ++ q.1.map .val) pm).bind fun as => callD Φ f as q.2
def kCK (f : Nat) (ws : List RE) (pm : List Nat) (p : List PA' × Env) : Option (RV × Env) := (evL Φ ws p.2).bind (kCK2 Φ f pm p)
def kBlt (b : Blt) (p : List PV × Env) : Option (RV × Env) := (p.1.mapM (PV.res p.2)).bind fun xs => (bltD b xs).map fun r => (r, p.2)
def kG2 (a : PV) (q r : RV × Env) : Option (RV × Env) := (a.res r.2).bind fun x => match x with
    | .dict kvs => if (keyOf q.1.d).isSome then some (.val ((getK kvs q.1.d).getD r.1.d), r.2) else none
    | _ => none
def kG1 (e : RE) (a : PV) (q : RV × Env) : Option (RV × Env) := (evE Φ e q.2).bind (kG2 a q)
def kG (k e : RE) (p : PV × Env) : Option (RV × Env) := if ((p.1.res p.2).map isDic).getD false = true then (evE Φ k p.2).bind (kG1 Φ e p.1) else none
def kTr (p : PV × Env) : Option (Bool × Env) := (p.1.res p.2).bind fun x => (truD x).map fun b => (b, p.2)
def kTC1 (o : COp) (b : RP) (p : PV × Env) : Option (Bool × Env) := (evP Φ b p.2).bind fun q => (p.1.res q.2).bind fun x => (q.1.res q.2).bind fun y => (cmpD o x y).map fun r => (r, q.2)
def kTAnd (b : RT) (p : Bool × Env) : Option (Bool × Env) := if p.1 = true then evT Φ b p.2 else some (false, p.2)
def kTOr (b : RT) (p : Bool × Env) : Option (Bool × Env) := if p.1 = true then some (true, p.2) else evT Φ b p.2
def kPs (es : List RP) (p : PV × Env) : Option (List PV × Env) := (evPs Φ es p.2).map fun q => (p.1 :: q.1, q.2)
def kLs (es : List RE) (p : RV × Env) : Option (List D × Env) := (evL Φ es p.2).map fun q => (p.1.d :: q.1, q.2)
def kAs (es : List RA) (p : RV × Env) : Option (List PA' × Env) := (evA Φ es p.2).map fun q => (.val p.1.d :: q.1, q.2)
def kO (p : RV × Env) : Option (Option Int × Env) := match p.1.d with | .int i => some (some i, p.2) | _ => none
def kR1 (p : RV × Env) : Option (List D × Env) := match p.1.d with | .int j => if j ≤ 16777216 ∧ -(2 ^ 62) ≤ j then some (rangeD 0 j.toNat, p.2) else none | _ => none
def kR22 (p q : RV × Env) : Option (List D × Env) := match p.1.d, q.1.d with
    | .int i, .int j => if -(2 ^ 61) ≤ i ∧ i < 2 ^ 61 ∧ -(2 ^ 61) ≤ j ∧ j < 2 ^ 61 ∧ j - i ≤ 16777216 then some (rangeD i (j - i).toNat, q.2) else none
    | _, _ => none
def kR2 (b : RE) (p : RV × Env) : Option (List D × Env) := (evE Φ b p.2).bind (kR22 p)
def kZ2 (p q : RV × Env) : Option (List D × Env) := (listOf p.1.d).bind fun xs => (listOf q.1.d).map fun ys => (zipD xs ys, q.2)
def kZ (b : RE) (p : RV × Env) : Option (List D × Env) := (evE Φ b p.2).bind (kZ2 p)
def kFor (p : Pat) (b : List RS) (q : List D × Env) : Option Out := forL p (evB Φ w b) q.1 q.2
def kLT2 (elt : RE) (t : Bool × Env) : Option (Option D × Env) := if t.1 = true then (evE Φ elt t.2).map fun y => (some y.1.d, y.2) else some (none, t.2)
def kLT1 (elt : RE) (ifs : Option RT) (ρ3 : Env) : Option (Option D × Env) := (evTo Φ ifs ρ3).bind (kLT2 Φ elt)
def kLc2 (elt : RE) (tg : Pat) (ifs : Option RT) (vs : List Nat) (ds : List D) (ρ1 : Env) : Option (RV × Env) := compE Φ elt tg ifs vs ds ρ1
def kLc (elt : RE) (tg : Pat) (ifs : Option RT) (vs : List Nat) (p : List D × Env) : Option (RV × Env) := (hideS p.2 vs).bind (compE Φ elt tg ifs vs p.1)
def kIf (a b : List RS) (p : Bool × Env) : Option Out := if p.1 = true then evB Φ w a p.2 else evB Φ w b p.2
def kAsg (p : Pat) (q : RV × Env) : Option Out := (putV p q.1 q.2).map .nx
def kPar (is : List Nat) (q : List RV × Env) : Option Out := (putN is q.1 q.2).map .nx
def kSx2 (i : Nat) (q r : RV × Env) : Option Out := (chgS r.2 i (setD r.1.d q.1.d)).map .nx
def kSx (i : Nat) (k : RE) (q : RV × Env) : Option Out := (evE Φ k q.2).bind (kSx2 i q)
def kMut (m : Mut) (i : Nat) (q : RV × Env) : Option Out := (chgS q.2 i (mutD m q.1.d)).map .nx
def kRs (es : List RE) (p : RV × Env) : Option (List RV × Env) := (evR Φ es p.2).map fun q => (p.1 :: q.1, q.2)
end
section
variable {Φ : Fn} {w : Nat} {ρ : Env}
theorem evB_nil : evB Φ w [] ρ = some (.nx ρ) := by rw [evB]
theorem evB_cons {s : RS} {r : List RS} : evB Φ w (s :: r) ρ = seqO (evS Φ w s ρ) (evB Φ w r) := by
  rw [evB, seqO.eq_def] <;> (rcases evS Φ w s ρ with _ | _ | _ | _ | _ <;> rfl)
theorem evS_for {p : Pat} {it : RI} {b : List RS} : evS Φ w (.for_ p it b) ρ = (evI Φ it ρ).bind (kFor Φ w p b) := by rw [evS]; rfl
theorem evE_lc {elt : RE} {tg : Pat} {it : RI} {ifs : Option RT} {vs : List Nat} : evE Φ (.lc elt tg it ifs vs) ρ = (evI Φ it ρ).bind (kLc Φ elt tg ifs vs) := by rw [evE]; rfl
theorem lcTurn_k {elt : RE} {tg : Pat} {ifs : Option RT} {d : D} : lcTurn Φ elt tg ifs d ρ = (putP tg d ρ).bind (kLT1 Φ elt ifs) := rfl
theorem evE_c {d : D} : evE Φ (.c d) ρ = some (.val d, ρ) := by rw [evE]
theorem evE_g {x : String} {d : D} : evE Φ (.g x d) ρ = some (.val d, ρ) := by rw [evE]
theorem evE_v {i : Nat} : evE Φ (.v i) ρ = takeS ρ i := by rw [evE]
def tkK (s : SD) (ρ : Env) (i : Nat) : Option (RV × Env) := match s with
  | .val d => some (.val d, ρ)
  | .own d => some (.val d, ρ.set i (.val d))
  | _ => none
theorem takeS_k {i : Nat} : takeS ρ i = tkK (getS ρ i) ρ i := rfl
theorem tkK_val {d : D} {i : Nat} : tkK (.val d) ρ i = some (.val d, ρ) := rfl
theorem tkK_own {d : D} {i : Nat} : tkK (.own d) ρ i = some (.val d, ρ.set i (.val d)) := rfl
def pkK (s : SD) (i : Nat) : Option PV := match s with
  | .val d => some (.val d)
  | .own _ => some (.slot i)
  | .io _ => some (.slot i)
  | .un => none
theorem peekS_k {i : Nat} : peekS ρ i = pkK (getS ρ i) i := rfl
theorem pkK_val {d : D} {i : Nat} : pkK (.val d) i = some (.val d) := rfl
theorem pkK_own {d : D} {i : Nat} : pkK (.own d) i = some (.slot i) := rfl
theorem pkK_io {d : D} {i : Nat} : pkK (.io d) i = some (.slot i) := rfl
def sdK (s : SD) : Option D := match s with
  | .own d => some d
  | .io d => some d
  | .val d => some d
  | .un => none
theorem res_val {d : D} : PV.res ρ (.val d) = some d := rfl
theorem res_slot {i : Nat} : PV.res ρ (.slot i) = sdK (getS ρ i) := rfl
theorem sdK_val {d : D} : sdK (.val d) = some d := rfl
theorem sdK_own {d : D} : sdK (.own d) = some d := rfl
theorem sdK_io {d : D} : sdK (.io d) = some d := rfl
theorem evE_bin {o : BOp} {a b : RP} : evE Φ (.bin o a b) ρ = (evP Φ a ρ).bind (kB1 Φ o b) := by rw [evE]; rfl
theorem evE_neg {a : RE} : evE Φ (.neg a) ρ = (evE Φ a ρ).bind kN := by rw [evE]; rfl
theorem evE_cmp {o : COp} {a b : RP} : evE Φ (.cmp o a b) ρ = (evP Φ a ρ).bind (kC1 Φ o b) := by rw [evE]; rfl
theorem evE_isN {a : RP} : evE Φ (.isN a) ρ = (evP Φ a ρ).bind fun p => (p.1.res p.2).map fun x => (.val (.bool (isNone x)), p.2) := by rw [evE]
theorem evE_notN {a : RP} : evE Φ (.notN a) ρ = (evP Φ a ρ).bind fun p => (p.1.res p.2).map fun x => (.val (.bool (!isNone x)), p.2) := by rw [evE]
theorem evE_and {a b : RE} : evE Φ (.and a b) ρ = (evE Φ a ρ).bind (kAnd Φ b) := by rw [evE]; rfl
theorem evE_or {a b : RE} : evE Φ (.or a b) ρ = (evE Φ a ρ).bind (kOr Φ b) := by rw [evE]; rfl
theorem evE_nt {a : RE} : evE Φ (.nt a) ρ = (evE Φ a ρ).bind kNt := by rw [evE]; rfl
theorem evE_ite {t : RT} {a b : RE} : evE Φ (.ite t a b) ρ = (evT Φ t ρ).bind (kIte Φ a b) := by rw [evE]; rfl
theorem evE_tup {es : List RE} : evE Φ (.tup es) ρ = (evL Φ es ρ).bind kTup := by rw [evE]; rfl
theorem evE_lst {es : List RE} : evE Φ (.lst es) ρ = (evL Φ es ρ).bind kLst := by rw [evE]; rfl
theorem evE_dct : evE Φ .dct0 ρ = some (.own (.dict []), ρ) := by rw [evE]
theorem evE_ix {a : RP} {i : RE} : evE Φ (.ix a i) ρ = (evP Φ a ρ).bind (kIx Φ i) := by rw [evE]; rfl
theorem evE_sl {a : RP} {lo hi : RO} : evE Φ (.sl a lo hi) ρ = (evP Φ a ρ).bind (kSl Φ lo hi) := by rw [evE]; rfl
theorem evE_call {f : Nat} {x : String} {es : List RA} : evE Φ (.call f x es) ρ = (evA Φ es ρ).bind (kCall Φ f) := by rw [evE]; rfl
theorem evE_callK {f : Nat} {x : String} {es : List RA} {ks : List String} {ws : List RE} {pm : List Nat} : evE Φ (.callK f x es ks ws pm) ρ = (evA Φ es ρ).bind (kCK Φ f ws pm) := by rw [evE]; rfl
theorem evE_blt {b : Blt} {es : List RP} : evE Φ (.blt b es) ρ = (evPs Φ es ρ).bind (kBlt b) := by rw [evE]; rfl
theorem evE_isi {a : RP} {tys : List String} : evE Φ (.isi a tys) ρ = (evP Φ a ρ).bind fun p => (p.1.res p.2).map fun x => (.val (.bool (isiD x tys)), p.2) := by rw [evE]
theorem evE_get2 {a : RP} {k e : RE} : evE Φ (.get2 a k e) ρ = (evP Φ a ρ).bind (kG Φ k e) := by rw [evE]; rfl
theorem evT_tr {e : RP} : evT Φ (.tr e) ρ = (evP Φ e ρ).bind kTr := by rw [evT]; rfl
theorem evT_cmp {o : COp} {a b : RP} : evT Φ (.cmp o a b) ρ = (evP Φ a ρ).bind (kTC1 Φ o b) := by rw [evT]; rfl
theorem evT_isN {a : RP} : evT Φ (.isN a) ρ = (evP Φ a ρ).bind fun p => (p.1.res p.2).map fun x => (isNone x, p.2) := by rw [evT]
theorem evT_notN {a : RP} : evT Φ (.notN a) ρ = (evP Φ a ρ).bind fun p => (p.1.res p.2).map fun x => (!isNone x, p.2) := by rw [evT]
theorem evT_and {a b : RT} : evT Φ (.and a b) ρ = (evT Φ a ρ).bind (kTAnd Φ b) := by rw [evT]; rfl
theorem evT_or {a b : RT} : evT Φ (.or a b) ρ = (evT Φ a ρ).bind (kTOr Φ b) := by rw [evT]; rfl
theorem evT_nt {a : RT} : evT Φ (.nt a) ρ = (evT Φ a ρ).map fun p => (!p.1, p.2) := by rw [evT]
theorem evTo_n : evTo Φ none ρ = some (true, ρ) := by rw [evTo]
theorem evTo_s {t : RT} : evTo Φ (some t) ρ = evT Φ t ρ := by rw [evTo]
theorem evP_slot {i : Nat} : evP Φ (.slot i) ρ = (peekS ρ i).map fun p => (p, ρ) := by rw [evP]
theorem evP_ex {e : RE} : evP Φ (.ex e) ρ = (evE Φ e ρ).map fun p => (.val p.1.d, p.2) := by rw [evP]
theorem evPs_n : evPs Φ [] ρ = some ([], ρ) := by rw [evPs]
theorem evPs_c {e : RP} {es : List RP} : evPs Φ (e :: es) ρ = (evP Φ e ρ).bind (kPs Φ es) := by rw [evPs]; rfl
theorem evL_n : evL Φ [] ρ = some ([], ρ) := by rw [evL]
theorem evL_c {e : RE} {es : List RE} : evL Φ (e :: es) ρ = (evE Φ e ρ).bind (kLs Φ es) := by rw [evL]; rfl
theorem evA_n : evA Φ [] ρ = some ([], ρ) := by rw [evA]
theorem evA_e {e : RE} {es : List RA} : evA Φ (.e e :: es) ρ = (evE Φ e ρ).bind (kAs Φ es) := by rw [evA]; rfl
def ioK (s : SD) : Bool := match s with
  | .own _ => true
  | .io _ => true
  | _ => false
theorem ioK_own {d : D} : ioK (.own d) = true := rfl
theorem ioK_io {d : D} : ioK (.io d) = true := rfl
theorem evA_io {i : Nat} {es : List RA} : evA Φ (.io i :: es) ρ = if ioK (getS ρ i) = true then (evA Φ es ρ).map fun q => (.io i :: q.1, q.2) else none := by
  rw [evA]; cases getS ρ i <;> rfl
theorem evO_n : evO Φ .no ρ = some (none, ρ) := by rw [evO]
theorem evO_e {e : RE} : evO Φ (.e e) ρ = (evE Φ e ρ).bind kO := by rw [evO]; rfl
theorem evI_seq {e : RE} : evI Φ (.seq e) ρ = (evE Φ e ρ).bind fun p => (itemsOf p.1.d).map fun xs => (xs, p.2) := by rw [evI]
theorem evI_rng1 {e : RE} : evI Φ (.rng1 e) ρ = (evE Φ e ρ).bind kR1 := by rw [evI]; rfl
theorem evI_rng2 {a b : RE} : evI Φ (.rng2 a b) ρ = (evE Φ a ρ).bind (kR2 Φ b) := by rw [evI]; rfl
theorem evI_enum {e : RE} : evI Φ (.enum e) ρ = (evE Φ e ρ).bind fun p => (listOf p.1.d).map fun xs => (enumD 0 xs, p.2) := by rw [evI]
theorem evI_zip {a b : RE} : evI Φ (.zip a b) ρ = (evE Φ a ρ).bind (kZ Φ b) := by rw [evI]; rfl
theorem evS_asg {p : Pat} {e : RE} : evS Φ w (.asg p e) ρ = (evE Φ e ρ).bind (kAsg p) := by rw [evS]; rfl
theorem evS_par {is : List Nat} {es : List RE} : evS Φ w (.par is es) ρ = (evR Φ es ρ).bind (kPar is) := by rw [evS]; rfl
theorem evS_setIx {i : Nat} {k e : RE} : evS Φ w (.setIx i k e) ρ = if heldS ρ i = true then (evE Φ e ρ).bind (kSx Φ i k) else none := by rw [evS]; rfl
theorem evS_ex {e : RE} : evS Φ w (.ex e) ρ = (evE Φ e ρ).map fun q => .nx q.2 := by rw [evS]
theorem evS_mut {m : Mut} {i : Nat} {e : RE} : evS Φ w (.mut m i e) ρ = if lstS ρ i = true then (evE Φ e ρ).bind (kMut m i) else none := by rw [evS]; rfl
theorem evS_iF {t : RT} {a b : List RS} : evS Φ w (.iF t a b) ρ = (evT Φ t ρ).bind (kIf Φ w a b) := by rw [evS]; rfl
theorem evS_ret {e : RE} : evS Φ w (.ret e) ρ = (evE Φ e ρ).map fun q => .ret q.1 q.2 := by rw [evS]
def rsK (s : SD) (ρ : Env) (i : Nat) : Option Out := match s with
  | .val d => some (.ret (.val d) ρ)
  | .own d => some (.ret (.own d) (ρ.set i .un))
  | _ => none
theorem evS_retS {i : Nat} : evS Φ w (.retS i) ρ = rsK (getS ρ i) ρ i := by rw [evS]; rfl
theorem rsK_val {d : D} {i : Nat} : rsK (.val d) ρ i = some (.ret (.val d) ρ) := rfl
theorem rsK_own {d : D} {i : Nat} : rsK (.own d) ρ i = some (.ret (.own d) (ρ.set i .un)) := rfl
theorem evS_retN : evS Φ w .retN ρ = some (.ret (.val .none) ρ) := by rw [evS]
theorem evS_pass : evS Φ w .pass ρ = some (.nx ρ) := by rw [evS]
theorem evS_ct : evS Φ w .ct ρ = some (.ct ρ) := by rw [evS]
theorem evS_brk : evS Φ w .brk ρ = some (.brk ρ) := by rw [evS]
theorem resL_n : List.mapM (PV.res ρ) [] = some [] := rfl
theorem resL_c {p : PV} {ps : List PV} : List.mapM (PV.res ρ) (p :: ps) = (PV.res ρ p).bind fun x => (List.mapM (PV.res ρ) ps).map (x :: ·) := by
  rw [List.mapM_cons]; cases PV.res ρ p <;> simp [bind, Option.bind, pure]; cases List.mapM (PV.res ρ) ps <;> rfl
end
/-! the same, taken apart -/
section
variable {Φ : Fn} {w : Nat} {ρ : Env}
theorem kN_i {i : Int} {r : RV} : kN (r, ρ) = match r.d with | .int i => some (.val (.int (-i)), ρ) | _ => none := rfl
theorem kAnd_b {b : RE} {c : Bool} : kAnd Φ b (.val (.bool c), ρ) = if c = true then evE Φ b ρ else some (.val (.bool false), ρ) := by cases c <;> rfl
theorem kOr_b {b : RE} {c : Bool} : kOr Φ b (.val (.bool c), ρ) = if c = true then some (.val (.bool true), ρ) else evE Φ b ρ := by cases c <;> rfl
theorem kNt_b {c : Bool} : kNt (.val (.bool c), ρ) = some (.val (.bool !c), ρ) := rfl
theorem kO_i {i : Int} : kO (.val (.int i), ρ) = some (some i, ρ) := rfl
theorem kR1_i {j : Int} : kR1 (.val (.int j), ρ) = if j ≤ 16777216 ∧ -(2 ^ 62) ≤ j then some (rangeD 0 j.toNat, ρ) else none := rfl
theorem kR22_i {ρ' : Env} {i j : Int} : kR22 (.val (.int i), ρ') (.val (.int j), ρ) = if -(2 ^ 61) ≤ i ∧ i < 2 ^ 61 ∧ -(2 ^ 61) ≤ j ∧ j < 2 ^ 61 ∧ j - i ≤ 16777216 then some (rangeD i (j - i).toNat, ρ) else none := rfl
end
theorem evR_n {Φ : Fn} {ρ : Env} : evR Φ [] ρ = some ([], ρ) := rfl
theorem evR_c {Φ : Fn} {ρ : Env} {e : RE} {es : List RE} : evR Φ (e :: es) ρ = (evE Φ e ρ).bind (kRs Φ es) := rfl
/-! names stored -/
def noIo : SD → Bool
  | .io _ => false
  | _ => true
theorem noIo_un : noIo .un = true := rfl
theorem noIo_val {d : D} : noIo (.val d) = true := rfl
theorem noIo_own {d : D} : noIo (.own d) = true := rfl
theorem putS_k {ρ : Env} {i : Nat} {r : RV} (h : noIo (getS ρ i) = true) (hi : i < ρ.length) : putS ρ i r = some (ρ.set i (.of r)) := by
  unfold putS; cases hg : getS ρ i <;> simp_all [noIo]
theorem of_val {d : D} : SD.of (.val d) = .val d := rfl
theorem of_own {d : D} : SD.of (.own d) = .own d := rfl
def chK (s : SD) (ρ : Env) (i : Nat) (f : D → Option D) : Option Env := match s with
  | .own d => (f d).map fun d' => ρ.set i (.own d')
  | .io d => (f d).map fun d' => ρ.set i (.io d')
  | _ => none
theorem chgS_k {ρ : Env} {i : Nat} {f : D → Option D} : chgS ρ i f = chK (getS ρ i) ρ i f := rfl
theorem chK_own {ρ : Env} {d : D} {i : Nat} {f : D → Option D} : chK (.own d) ρ i f = (f d).map fun d' => ρ.set i (.own d') := rfl
theorem chK_io {ρ : Env} {d : D} {i : Nat} {f : D → Option D} : chK (.io d) ρ i f = (f d).map fun d' => ρ.set i (.io d') := rfl
theorem heldS_k {ρ : Env} {i : Nat} : heldS ρ i = ioK (getS ρ i) := rfl
def lsK (s : SD) : Bool := match s with
  | .own (.list _) => true
  | .io (.list _) => true
  | _ => false
theorem lstS_k {ρ : Env} {i : Nat} : lstS ρ i = lsK (getS ρ i) := rfl
theorem lsK_own {l : List D} : lsK (.own (.list l)) = true := rfl
theorem lsK_io {l : List D} : lsK (.io (.list l)) = true := rfl
theorem putV_nm {i : Nat} {r : RV} {ρ : Env} : putV (.nm i) r ρ = putS ρ i r := rfl
theorem putV_tup {ps : List Pat} {r : RV} {ρ : Env} : putV (.tup ps) r ρ = putP (.tup ps) r.d ρ := rfl
theorem putP_nm {i : Nat} {d : D} {ρ : Env} : putP (.nm i) d ρ = putS ρ i (.val d) := by rw [putP]
theorem putP_ixs {i : Nat} {k : Int} {d : D} {ρ : Env} : putP (.ixs i k) d ρ = chgS ρ i fun x => match x with
    | .list ds => (ixN ds.length k).map fun j => .list (ds.set j d)
    | _ => none := by rw [putP] <;> rfl
theorem putP_tup {ps : List Pat} {ds : List D} {ρ : Env} : putP (.tup ps) (.tuple ds) ρ = putPs ps ds ρ := by rw [putP]
theorem putPs_n {ρ : Env} : putPs [] [] ρ = some ρ := by rw [putPs]
theorem putPs_c {p : Pat} {ps : List Pat} {d : D} {ds : List D} {ρ : Env} : putPs (p :: ps) (d :: ds) ρ = (putP p d ρ).bind fun ρ' => putPs ps ds ρ' := by rw [putPs]
theorem putN_n {ρ : Env} : putN [] [] ρ = some ρ := rfl
theorem putN_c {i : Nat} {is : List Nat} {r : RV} {rs : List RV} {ρ : Env} : putN (i :: is) (r :: rs) ρ = (putS ρ i r).bind fun ρ' => putN is rs ρ' := rfl
/-! calls -/
def retV (ρ : Env) : Option (RV × List D) → Option (RV × Env)
  | some (x, []) => some (x, ρ)
  | _ => none
theorem retV_s {ρ : Env} {x : RV} : retV ρ (some (x, [])) = some (x, ρ) := rfl
def retI (ρ : Env) (i : Nat) (c : D → SD) : Option (RV × List D) → Option (RV × Env)
  | some (x, [d]) => some (x, ρ.set i (c d))
  | _ => none
theorem retI_s {ρ : Env} {i : Nat} {c : D → SD} {x : RV} {d : D} : retI ρ i c (some (x, [d])) = some (x, ρ.set i (c d)) := rfl
theorem backIo_nil {ρ : Env} {o : List D} {x : RV} : ((backIo ρ [] o).map fun ρ' => (x, ρ')) = retV ρ (some (x, o)) := by
  cases o <;> rfl
theorem callD_0 {Φ : Fn} {f : Nat} {ρ : Env} : callD Φ f [] ρ = retV ρ (Φ f []) := by
  simp only [callD, iosOf, resArgs, List.nodup_nil, if_true]
  rcases Φ f [] with _ | ⟨x, o⟩ <;> first | rfl | exact backIo_nil
theorem callD_1 {Φ : Fn} {f : Nat} {a : D} {ρ : Env} : callD Φ f [.val a] ρ = retV ρ (Φ f [.val a]) := by
  simp only [callD, iosOf, resArgs, List.nodup_nil, if_true, Option.map]
  rcases Φ f [.val a] with _ | ⟨x, o⟩ <;> first | rfl | exact backIo_nil
theorem callD_2 {Φ : Fn} {f : Nat} {a b : D} {ρ : Env} : callD Φ f [.val a, .val b] ρ = retV ρ (Φ f [.val a, .val b]) := by
  simp only [callD, iosOf, resArgs, List.nodup_nil, if_true, Option.map]
  rcases Φ f [.val a, .val b] with _ | ⟨x, o⟩ <;> first | rfl | exact backIo_nil
theorem callD_3 {Φ : Fn} {f : Nat} {a b c : D} {ρ : Env} : callD Φ f [.val a, .val b, .val c] ρ = retV ρ (Φ f [.val a, .val b, .val c]) := by
  simp only [callD, iosOf, resArgs, List.nodup_nil, if_true, Option.map]
  rcases Φ f [.val a, .val b, .val c] with _ | ⟨x, o⟩ <;> first | rfl | exact backIo_nil
theorem callD_4 {Φ : Fn} {f : Nat} {a b c d : D} {ρ : Env} : callD Φ f [.val a, .val b, .val c, .val d] ρ = retV ρ (Φ f [.val a, .val b, .val c, .val d]) := by
  simp only [callD, iosOf, resArgs, List.nodup_nil, if_true, Option.map]
  rcases Φ f [.val a, .val b, .val c, .val d] with _ | ⟨x, o⟩ <;> first | rfl | exact backIo_nil
def ciK (Φ : Fn) (f : Nat) (s : SD) (r : List AV) (ρ : Env) (i : Nat) : Option (RV × Env) := match s with
  | .own d => retI ρ i .own (Φ f (.io d :: r))
  | .io d => retI ρ i .io (Φ f (.io d :: r))
  | _ => none
theorem ciK_own {Φ : Fn} {f : Nat} {d : D} {r : List AV} {ρ : Env} {i : Nat} : ciK Φ f (.own d) r ρ i = retI ρ i .own (Φ f (.io d :: r)) := rfl
theorem ciK_io {Φ : Fn} {f : Nat} {d : D} {r : List AV} {ρ : Env} {i : Nat} : ciK Φ f (.io d) r ρ i = retI ρ i .io (Φ f (.io d :: r)) := rfl
theorem back1 {ρ : Env} {i : Nat} {o : List D} {x : RV} {d : D} (h : getS ρ i = .own d) : ((backIo ρ [i] o).map fun ρ' => (x, ρ')) = retI ρ i .own (some (x, o)) := by
  rcases o with _ | ⟨a, _ | ⟨b, o⟩⟩ <;> simp [backIo, h, retI]
theorem back2 {ρ : Env} {i : Nat} {o : List D} {x : RV} {d : D} (h : getS ρ i = .io d) : ((backIo ρ [i] o).map fun ρ' => (x, ρ')) = retI ρ i .io (some (x, o)) := by
  rcases o with _ | ⟨a, _ | ⟨b, o⟩⟩ <;> simp [backIo, h, retI]
theorem callD_i1 {Φ : Fn} {f i : Nat} {ρ : Env} : callD Φ f [.io i] ρ = ciK Φ f (getS ρ i) [] ρ i := by
  have hn : List.Nodup [i] := by simp
  simp only [callD, iosOf, resArgs, hn, if_true, Option.map]
  cases hg : getS ρ i with
  | un => rfl
  | val d => rfl
  | own d => simp only [ciK_own]; rcases Φ f [.io d] with _ | ⟨x, o⟩ <;> first | rfl | exact back1 hg
  | io d => simp only [ciK_io]; rcases Φ f [.io d] with _ | ⟨x, o⟩ <;> first | rfl | exact back2 hg
theorem callD_i2 {Φ : Fn} {f i : Nat} {a : D} {ρ : Env} : callD Φ f [.io i, .val a] ρ = ciK Φ f (getS ρ i) [.val a] ρ i := by
  have hn : List.Nodup [i] := by simp
  simp only [callD, iosOf, resArgs, hn, if_true, Option.map]
  cases hg : getS ρ i with
  | un => rfl
  | val d => rfl
  | own d => simp only [ciK_own]; rcases Φ f [.io d, .val a] with _ | ⟨x, o⟩ <;> first | rfl | exact back1 hg
  | io d => simp only [ciK_io]; rcases Φ f [.io d, .val a] with _ | ⟨x, o⟩ <;> first | rfl | exact back2 hg
/-! comprehensions that change nothing but their own names -/
theorem wipe_len {ρ : Env} : ∀ {vs : List Nat}, (wipeS ρ vs).length = ρ.length
  | [] => rfl
  | i :: is => by simp [wipeS, wipe_len (vs := is)]
theorem back_len {old ρ : Env} : ∀ {vs : List Nat}, (backS old ρ vs).length = ρ.length
  | [] => rfl
  | i :: is => by simp [backS, back_len (vs := is)]
theorem back_wipe {old : Env} : ∀ {vs : List Nat} {ρ : Env}, backS old ρ vs = backS old (wipeS ρ vs) vs := by
  intro vs ρ
  apply List.ext_getElem?
  intro k
  have gb : ∀ (vs : List Nat) (ρ : Env), (backS old ρ vs)[k]? = if k ∈ vs ∧ k < ρ.length then some (getS old k) else ρ[k]? := by
    intro vs ρ
    induction vs with
    | nil => simp [backS]
    | cons i is ih =>
      simp only [backS, List.getElem?_set, back_len]
      by_cases e : i = k
      · subst e
        by_cases hl : i < ρ.length <;> simp [hl, List.getElem?_eq_none_iff]
      · simp only [e, if_false, ih, List.mem_cons]
        have : (k = i ∨ k ∈ is) ↔ k ∈ is := ⟨fun h => h.resolve_left (fun h => e h.symm), .inr⟩
        simp only [this]
  have gw : ∀ (vs : List Nat) (ρ : Env), k ∉ vs → (wipeS ρ vs)[k]? = ρ[k]? := by
    intro vs ρ hk
    induction vs with
    | nil => rfl
    | cons i is ih =>
      simp only [wipeS, List.getElem?_set]
      rw [if_neg (fun h : i = k => hk (by rw [h]; exact List.mem_cons_self)), ih (fun h => hk (List.mem_cons_of_mem _ h))]
  rw [gb, gb, wipe_len]
  by_cases hk : k ∈ vs ∧ k < ρ.length
  · rw [if_pos hk, if_pos hk]
  · rw [if_neg hk, if_neg hk]
    by_cases hm : k ∈ vs
    · have : ρ.length ≤ k := by
        by_cases hl : k < ρ.length
        · exact absurd ⟨hm, hl⟩ hk
        · omega
      rw [List.getElem?_eq_none (by omega), List.getElem?_eq_none (by rw [wipe_len]; omega)]
    · rw [gw vs ρ hm]
theorem back_self {old : Env} : ∀ {vs : List Nat}, backS old old vs = old
  | [] => rfl
  | i :: is => by
    rw [backS, back_self (vs := is)]
    apply List.ext_getElem?
    intro k
    rw [List.getElem?_set]
    by_cases e : i = k
    · subst e
      rw [if_pos rfl]
      by_cases h : i < old.length
      · rw [if_pos h]; simp [getS, h]
      · rw [if_neg h, List.getElem?_eq_none (by omega)]
    · rw [if_neg e]
theorem comp_pure {Φ : Fn} {elt : RE} {tg : Pat} {ifs : Option RT} {vs : List Nat} {ρ1 : Env} (f : D → Option D) :
    ∀ (ds : List D), (∀ d ∈ ds, ∃ ρ', lcTurn Φ elt tg ifs d (wipeS ρ1 vs) = some (f d, ρ') ∧ wipeS ρ' vs = wipeS ρ1 vs) →
      compE Φ elt tg ifs vs ds ρ1 = some (.own (.list (ds.filterMap f)), ρ1) := by
  intro ds H
  have main : ∀ (ds : List D) (ρ2 : Env) (acc : List D), wipeS ρ2 vs = wipeS ρ1 vs → (∀ d ∈ ds, ∃ ρ', lcTurn Φ elt tg ifs d (wipeS ρ1 vs) = some (f d, ρ') ∧ wipeS ρ' vs = wipeS ρ1 vs) →
      ∃ ρ', compL (fun d ρ2 => lcTurn Φ elt tg ifs d (wipeS ρ2 vs)) ds ρ2 acc = some (acc ++ ds.filterMap f, ρ') ∧ wipeS ρ' vs = wipeS ρ1 vs := by
    intro ds
    induction ds with
    | nil => intro ρ2 acc h _; exact ⟨ρ2, by simp [compL], h⟩
    | cons d ds ih =>
      intro ρ2 acc h H
      obtain ⟨ρ', e, hw⟩ := H d List.mem_cons_self
      have H' := fun x hx => H x (List.mem_cons_of_mem d hx)
      cases hf : f d with
      | none =>
        obtain ⟨ρ3, e3, hw3⟩ := ih ρ' acc hw H'
        exact ⟨ρ3, by simp only [compL, h, e, hf, e3, List.filterMap_cons], hw3⟩
      | some x =>
        obtain ⟨ρ3, e3, hw3⟩ := ih ρ' (acc ++ [x]) hw H'
        exact ⟨ρ3, by simp only [compL, h, e, hf, e3, List.filterMap_cons, List.append_assoc, List.cons_append, List.nil_append], hw3⟩
  obtain ⟨ρ', e, hw⟩ := main ds ρ1 [] rfl H
  unfold compE
  rw [e, Option.map_some, List.nil_append, back_wipe, hw, ← back_wipe, back_self]
theorem lc_fm {α : Type _} {Φ : Fn} {elt : RE} {tg : Pat} {ifs : Option RT} {vs : List Nat} {ρ1 : Env} (g : α → D) (f : α → Option D) (xs : List α)
    (H : ∀ x ∈ xs, (lcTurn Φ elt tg ifs (g x) (wipeS ρ1 vs)).map (fun r => (r.1, wipeS r.2 vs)) = some (f x, wipeS ρ1 vs)) :
    compE Φ elt tg ifs vs (xs.map g) ρ1 = some (.own (.list (xs.filterMap f)), ρ1) := by
  have main : ∀ (xs : List α) (ρ2 : Env) (acc : List D), wipeS ρ2 vs = wipeS ρ1 vs → (∀ x ∈ xs, (lcTurn Φ elt tg ifs (g x) (wipeS ρ1 vs)).map (fun r => (r.1, wipeS r.2 vs)) = some (f x, wipeS ρ1 vs)) →
      ∃ ρ', compL (fun d ρ2 => lcTurn Φ elt tg ifs d (wipeS ρ2 vs)) (xs.map g) ρ2 acc = some (acc ++ xs.filterMap f, ρ') ∧ wipeS ρ' vs = wipeS ρ1 vs := by
    intro xs
    induction xs with
    | nil => intro ρ2 acc h _; exact ⟨ρ2, by simp [compL], h⟩
    | cons d ds ih =>
      intro ρ2 acc h H
      have H0 := H d List.mem_cons_self
      have H' := fun x hx => H x (List.mem_cons_of_mem d hx)
      cases e : lcTurn Φ elt tg ifs (g d) (wipeS ρ1 vs) with
      | none => rw [e] at H0; cases H0
      | some r =>
        obtain ⟨o, ρ'⟩ := r
        rw [e] at H0
        simp only [Option.map_some, Option.some.injEq, Prod.mk.injEq] at H0
        obtain ⟨ho, hw⟩ := H0
        subst ho
        cases hf : f d with
        | none =>
          rw [hf] at e
          obtain ⟨ρ3, e3, hw3⟩ := ih ρ' acc hw H'
          exact ⟨ρ3, by simp only [compL, h, e, hf, e3, List.map_cons, List.filterMap_cons], hw3⟩
        | some x =>
          rw [hf] at e
          obtain ⟨ρ3, e3, hw3⟩ := ih ρ' (acc ++ [x]) hw H'
          exact ⟨ρ3, by simp only [compL, h, e, hf, e3, List.map_cons, List.filterMap_cons, List.append_assoc, List.cons_append, List.nil_append], hw3⟩
  obtain ⟨ρ', e, hw⟩ := main xs ρ1 [] rfl H
  unfold compE
  rw [e, Option.map_some, List.nil_append, back_wipe, hw, ← back_wipe, back_self]
theorem lc_map {α : Type _} {Φ : Fn} {elt : RE} {tg : Pat} {ifs : Option RT} {vs : List Nat} {ρ1 : Env} (g : α → D) (f : α → D) (xs : List α)
    (H : ∀ x ∈ xs, (lcTurn Φ elt tg ifs (g x) (wipeS ρ1 vs)).map (fun r => (r.1, wipeS r.2 vs)) = some (some (f x), wipeS ρ1 vs)) :
    compE Φ elt tg ifs vs (xs.map g) ρ1 = some (.own (.list (xs.map f)), ρ1) := by
  rw [lc_fm g (fun x => some (f x)) xs H]
  rw [List.filterMap_eq_map']
theorem forL_n {tg : Pat} {body : Env → Option Out} {ρ : Env} : forL tg body [] ρ = some (.nx ρ) := rfl
theorem forL_nx {tg : Pat} {body : Env → Option Out} {d : D} {ds : List D} {ρ ρ2 : Env} (h : (putP tg d ρ).bind body = some (.nx ρ2)) : forL tg body (d :: ds) ρ = forL tg body ds ρ2 := by
  rw [forL]; cases e : putP tg d ρ with
  | none => rw [e] at h; cases h
  | some ρ' => rw [e, Option.bind_some] at h; simp only [h]
theorem forL_ct {tg : Pat} {body : Env → Option Out} {d : D} {ds : List D} {ρ ρ2 : Env} (h : (putP tg d ρ).bind body = some (.ct ρ2)) : forL tg body (d :: ds) ρ = forL tg body ds ρ2 := by
  rw [forL]; cases e : putP tg d ρ with
  | none => rw [e] at h; cases h
  | some ρ' => rw [e, Option.bind_some] at h; simp only [h]
theorem rangeD_eq : ∀ (n lo : Nat), rangeD (lo : Int) n = (List.range' lo n).map fun j => PyData.int (j : Nat)
  | 0, _ => rfl
  | n + 1, lo => by
    rw [rangeD, List.range'_succ, List.map_cons, ← rangeD_eq n (lo + 1)]; rfl
theorem enumD_eq {α : Type _} (g : α → D) : ∀ (xs : List α) (n : Nat), enumD n (xs.map g) = (xs.zipIdx n).map fun p => PyData.tuple [.int p.2, g p.1]
  | [], _ => rfl
  | x :: r, n => by rw [List.map_cons, enumD, enumD_eq g r (n + 1), List.zipIdx_cons, List.map_cons]
def avS : AV → SD
  | .val d => .val d
  | .io d => .io d
theorem avS_v {d : D} : avS (.val d) = .val d := rfl
theorem avS_i {d : D} : avS (.io d) = .io d := rfl
theorem startS_c {ns : Nat} {a : AV} {as : List AV} : startS (ns + 1) (a :: as) = avS a :: startS ns as := by
  simp only [startS, List.map_cons, List.length_cons, List.cons_append, Nat.reduceSubDiff]; cases a <;> rfl
theorem startS_z : startS 0 [] = [] := rfl
theorem startS_u {ns : Nat} : startS (ns + 1) [] = .un :: startS ns [] := by simp only [startS, List.map_nil, List.length_nil, List.nil_append, Nat.sub_zero, List.replicate_succ]
theorem isi_s {s : Str} : isiD (.str s) ["str"] = true := rfl
theorem isi_t {l : List D} : isiD (.tuple l) ["tuple"] = true := rfl
theorem isi_ll {l : List D} : isiD (.list l) ["list", "tuple"] = true := rfl
theorem isi_lt {l : List D} : isiD (.tuple l) ["list", "tuple"] = true := rfl
theorem isi_i {i : Int} : isiD (.int i) ["int"] = true := rfl
theorem isi_ib {i : Int} : isiD (.int i) ["bool"] = false := rfl
theorem truD_b {b : Bool} : truD (.bool b) = some b := rfl
theorem len_l {l : List D} : bltD .len [.list l] = some (.val (.int l.length)) := rfl
theorem len_t {l : List D} : bltD .len [.tuple l] = some (.val (.int l.length)) := rfl
theorem len_s {s : Str} (h : s.length ≤ sizeLine) : bltD .len [.str s] = some (.val (.int s.length)) := if_pos h
theorem max_ii {i j : Int} : bltD .max [.int i, .int j] = some (.val (.int (if j > i then j else i))) := rfl
theorem min_ii {i j : Int} : bltD .min [.int i, .int j] = some (.val (.int (if j < i then j else i))) := rfl
theorem int_i {i : Int} : bltD .int [.int i] = some (.val (.int i)) := rfl
theorem list_l {l : List D} : bltD .list [.list l] = some (.own (.list l)) := rfl
theorem list_t {l : List D} : bltD .list [.tuple l] = some (.own (.list l)) := rfl
theorem tuple_l {l : List D} : bltD .tuple [.list l] = some (.val (.tuple l)) := rfl
theorem tuple_t {l : List D} : bltD .tuple [.tuple l] = some (.val (.tuple l)) := rfl
theorem sum_l {l : List D} {ns : List Int} (h : intsOf l = some ns) : bltD .sum [.list l] = some (.val (.int ns.sum)) := by simp only [bltD, h, Option.map]
theorem all_l {l : List D} {bs : List Bool} (h : bolsOf l = some bs) : bltD .all [.list l] = some (.val (.bool (bs.all id))) := by simp only [bltD, h, Option.map]
theorem repr_d {d : D} (h : reprOk d = true) : bltD .repr [d] = some (.val (.str d.shown)) := if_pos h
theorem eqD_ss {a b : Str} : eqD (.str a) (.str b) = some (a == b) := rfl
theorem eqD_ii {a b : Int} : eqD (.int a) (.int b) = some (a == b) := rfl
theorem c_eq {x y : D} : cmpD .eq x y = eqD x y := rfl
theorem c_ne {x y : D} : cmpD .ne x y = (eqD x y).map (!·) := rfl
theorem c_lt {i j : Int} : cmpD .lt (.int i) (.int j) = some (decide (i < j)) := rfl
theorem c_le {i j : Int} : cmpD .le (.int i) (.int j) = some (decide (i ≤ j)) := rfl
theorem c_gt {i j : Int} : cmpD .gt (.int i) (.int j) = some (decide (j < i)) := rfl
theorem c_ge {i j : Int} : cmpD .ge (.int i) (.int j) = some (decide (j ≤ i)) := rfl
theorem b_add {i j : Int} : binD .add (.int i) (.int j) = some (.val (.int (i + j))) := rfl
theorem b_sub {i j : Int} : binD .sub (.int i) (.int j) = some (.val (.int (i - j))) := rfl
theorem b_addl {a b : List D} (h : a.length + b.length ≤ sizeLine) : binD .add (.list a) (.list b) = some (.own (.list (a ++ b))) := if_pos h
theorem b_mod {i j : Int} (h : 0 < j) : binD .mod (.int i) (.int j) = some (.val (.int (i % j))) := if_pos h
theorem b_div {i j : Int} (h : 0 < j) (h2 : j < 1073741824) : binD .fdiv (.int i) (.int j) = some (.val (.int (i / j))) := if_pos ⟨h, h2⟩
theorem b_mul {i j : Int} (h : small64 i = true ∨ small64 j = true) : binD .mul (.int i) (.int j) = some (.val (.int (i * j))) := if_pos (by rcases h with h | h <;> simp [h])
theorem items_l {l : List D} (h : l.length ≤ sizeLine) : itemsOf (.list l) = some l := if_pos h
theorem items_t {l : List D} (h : l.length ≤ sizeLine) : itemsOf (.tuple l) = some l := if_pos h
theorem listOf_l {l : List D} (h : l.length ≤ sizeLine) : listOf (.list l) = some l := if_pos h
theorem mut_a {l : List D} {d : D} (h : l.length < sizeLine) : mutD .append d (.list l) = some (.list (l ++ [d])) := if_pos h
theorem mut_e {l m : List D} (h : l.length + m.length ≤ sizeLine) : mutD .extend (.list m) (.list l) = some (.list (l ++ m)) := if_pos h
theorem isN_n : isNone .none = true := rfl
theorem isN_i {i : Int} : isNone (.int i) = false := rfl
theorem ixT0 {a : D} {l : List D} : ixD (.tuple (a :: l)) (.int 0) = some a := by
  have h : ixN (l.length + 1) 0 = some 0 := by unfold ixN; rw [if_pos (by decide), if_pos (by omega)]; rfl
  simp [ixD, atI, h]
theorem ixT1 {a b : D} {l : List D} : ixD (.tuple (a :: b :: l)) (.int 1) = some b := by
  have h : ixN (l.length + 1 + 1) 1 = some 1 := by unfold ixN; rw [if_pos (by decide), if_pos (by omega)]; rfl
  simp [ixD, atI, h]
theorem ixLn {l : List D} {i : Nat} {d : D} (h : l[i]? = some d) : ixD (.list l) (.int i) = some d := by
  have hl : i < l.length := by
    rcases Nat.lt_or_ge i l.length with h' | h'
    · exact h'
    · rw [List.getElem?_eq_none h'] at h; cases h
  have h1 : ixN l.length (i : Int) = some i := by unfold ixN; rw [if_pos (by omega), if_pos (by omega)]; simp
  simp [ixD, atI, h1, h]
theorem ixLlast {l : List D} {d : D} : ixD (.list (l ++ [d])) (.int (-1)) = some d := by
  have h1 : ixN (l.length + 1) (-1) = some l.length := by
    unfold ixN; rw [if_neg (by decide), if_pos (by omega)]; congr 1; omega
  simp [ixD, atI, h1]
theorem setLlast {l : List D} {d e : D} : setD (.int (-1)) e (.list (l ++ [d])) = some (.list (l ++ [e])) := by
  have h1 : ixN (l.length + 1) (-1) = some l.length := by
    unfold ixN; rw [if_neg (by decide), if_pos (by omega)]; congr 1; omega
  simp [setD, h1]
theorem run_eq {Φ : Fn} {w : Nat} {df : Df} {as : List AV} {ρ0 : Env} (hl : as.length = df.ps) (h0 : startS df.ns as = ρ0) :
    runD Φ w df as = match evB Φ w df.body ρ0 with
    | some (.nx ρ) => (outsOf as 0 ρ).map fun o => (.val .none, o)
    | some (.ret r ρ) => (outsOf as 0 ρ).map fun o => (r, o)
    | _ => none := by
  unfold runD; rw [if_pos hl, h0] <;> (rcases evB Φ w df.body ρ0 with _ | _ | _ | _ | _ <;> rfl)
theorem run_ret {Φ : Fn} {w : Nat} {df : Df} {as : List AV} {ρ0 ρ : Env} {r : RV} {o : List D} (hl : as.length = df.ps) (h0 : startS df.ns as = ρ0)
    (hb : evB Φ w df.body ρ0 = some (.ret r ρ)) (ho : outsOf as 0 ρ = some o) : runD Φ w df as = some (r, o) := by
  rw [run_eq hl h0, hb]; simp only [ho, Option.map]
end PL

/-! V2: what the defs of k82's program are worth, on patches and lines. -/
namespace K82
open PySem PySem.Spec PyProof.Rows L2 PL
variable {W n : Nat}
inductive Ed where | put (ls : List Str) | keep (k : Nat) | take (k : Nat)
  deriving DecidableEq
def sD (ls : List Str) : List D := ls.map .str
def edD : Ed → D
  | .put ls => .tuple [.str "put", .tuple (sD ls)]
  | .keep k => .tuple [.str "keep", .int (k : Nat)]
  | .take k => .tuple [.str "take", .int (k : Nat)]
def paD (p : List Ed) : D := .tuple (p.map edD)
abbrev En := Str × Option Nat
def opD : Option Nat → D
  | none => .none
  | some k => .int (k : Nat)
def enD (p : En) : D := .tuple [.str p.1, opD p.2]
def trD (t : List En) : List D := t.map enD
def lnD (b : Bool) (ls : List Str) : D := if b then .tuple (sD ls) else .list (sD ls)
def LnOk (s : Str) : Prop := s.length ≤ 10 ∧ PyData.strOk s = true
def EdOk : Ed → Prop
  | .put ls => ls ≠ [] ∧ ls.length ≤ 1000 ∧ ∀ s ∈ ls, LnOk s
  | .keep k => 0 < k ∧ k ≤ 1000
  | .take k => 0 < k ∧ k ≤ 1000
def spanE : Ed → Nat
  | .put _ => 0
  | .keep k => k
  | .take k => k
def lateE : Ed → Nat
  | .put ls => ls.length
  | .keep k => k
  | .take _ => 0
def costE : Ed → Nat
  | .put ls => ls.length
  | .keep _ => 0
  | .take k => k
def spanOf (p : List Ed) : Nat := (p.map spanE).sum
def lateOf (p : List Ed) : Nat := (p.map lateE).sum
def costOf (p : List Ed) : Nat := (p.map costE).sum
theorem sz1 {k : Nat} (h : k ≤ 10000000) : k ≤ sizeLine := Nat.le_trans h (by decide)
theorem sz2 {k : Nat} (h : k ≤ 10000000) : k < sizeLine := Nat.lt_of_le_of_lt h (by decide)
theorem len_sD {ls : List Str} : (sD ls).length = ls.length := by simp [sD]
theorem len_trD {t : List En} : (trD t).length = t.length := by simp [trD]
theorem s_pp : (Str.ofString "put" == Str.ofString "put") = true := by decide +kernel
theorem s_kp : (Str.ofString "keep" == Str.ofString "put") = false := by decide +kernel
theorem s_tp : (Str.ofString "take" == Str.ofString "put") = false := by decide +kernel
theorem s_kk : (Str.ofString "keep" == Str.ofString "keep") = true := by decide +kernel
theorem s_tt : (Str.ofString "take" == Str.ofString "take") = true := by decide +kernel
theorem s_tk : (Str.ofString "take" == Str.ofString "keep") = false := by decide +kernel
theorem s_kt : (Str.ofString "keep" == Str.ofString "take") = false := by decide +kernel
theorem s_pk : (Str.ofString "put" == Str.ofString "keep") = false := by decide +kernel
theorem s_pt : (Str.ofString "put" == Str.ofString "take") = false := by decide +kernel
/-! ### sD, bools, ints -/
theorem bolsOf_t {α : Type _} (xs : List α) : bolsOf (xs.map fun _ => .bool true) = some (xs.map fun _ => true) := by
  induction xs with
  | nil => rfl
  | cons a l ih => simp only [List.map_cons, bolsOf, ih, Option.map]
theorem all_t {α : Type _} (xs : List α) : bltD .all [.list (xs.map fun _ => .bool true)] = some (.val (.bool true)) := by
  rw [all_l (bolsOf_t xs)]; congr 3; simp
theorem intsOf_m {α : Type _} (f : α → Int) (xs : List α) : intsOf (xs.map fun x => .int (f x)) = some (xs.map f) := by
  induction xs with
  | nil => rfl
  | cons a l ih => simp only [List.map_cons, intsOf, ih, Option.map]
theorem sum_m {α : Type _} (f : α → Nat) (xs : List α) : bltD .sum [.list (xs.map fun x => .int (f x : Nat))] = some (.val (.int ((xs.map f).sum : Nat))) := by
  rw [sum_l (intsOf_m (fun x => (f x : Int)) xs)]; congr 3
  induction xs with
  | nil => rfl
  | cons a l ih => simp only [List.map_cons, List.sum_cons, ih]; omega
/-! ### the small defs -/
theorem run_0 (as : List AV) : callF T W (n+1) 0 as = runD (callF T W n) W d_is_integer as := rfl
theorem run_1 (as : List AV) : callF T W (n+1) 1 as = runD (callF T W n) W d_is_count as := rfl
theorem run_2 (as : List AV) : callF T W (n+1) 2 as = runD (callF T W n) W d_is_list as := rfl
theorem run_3 (as : List AV) : callF T W (n+1) 3 as = runD (callF T W n) W d_is_tuple as := rfl
theorem run_4 (as : List AV) : callF T W (n+1) 4 as = runD (callF T W n) W d_is_line_any as := rfl
theorem run_5 (as : List AV) : callF T W (n+1) 5 as = runD (callF T W n) W d_are_lines_any as := rfl
theorem run_6 (as : List AV) : callF T W (n+1) 6 as = runD (callF T W n) W d_is_edit_any as := rfl
theorem run_7 (as : List AV) : callF T W (n+1) 7 as = runD (callF T W n) W d_is_patch_of as := rfl
theorem run_8 (as : List AV) : callF T W (n+1) 8 as = runD (callF T W n) W d_want_lines as := rfl
theorem run_9 (as : List AV) : callF T W (n+1) 9 as = runD (callF T W n) W d_want_patch as := rfl
theorem run_10 (as : List AV) : callF T W (n+1) 10 as = runD (callF T W n) W d_trace_of as := rfl
theorem run_11 (as : List AV) : callF T W (n+1) 11 as = runD (callF T W n) W d_edits_put_together as := rfl
theorem run_12 (as : List AV) : callF T W (n+1) 12 as = runD (callF T W n) W d_patch_of_trace as := rfl
theorem run_13 (as : List AV) : callF T W (n+1) 13 as = runD (callF T W n) W d_lines_patched as := rfl
theorem run_14 (as : List AV) : callF T W (n+1) 14 as = runD (callF T W n) W d_cost_of_patch as := rfl
theorem run_15 (as : List AV) : callF T W (n+1) 15 as = runD (callF T W n) W d_is_patch as := rfl
theorem run_16 (as : List AV) : callF T W (n+1) 16 as = runD (callF T W n) W d_patched as := rfl
theorem run_17 (as : List AV) : callF T W (n+1) 17 as = runD (callF T W n) W d_patch_cost as := rfl
theorem run_18 (as : List AV) : callF T W (n+1) 18 as = runD (callF T W n) W d_normalized as := rfl
theorem run_19 (as : List AV) : callF T W (n+1) 19 as = runD (callF T W n) W d_turned_about as := rfl
theorem run_20 (as : List AV) : callF T W (n+1) 20 as = runD (callF T W n) W d_joined_patch as := rfl
theorem run_21 (as : List AV) : callF T W (n+1) 21 as = runD (callF T W n) W d__law_draw as := rfl
theorem run_22 (as : List AV) : callF T W (n+1) 22 as = runD (callF T W n) W d__law_pick as := rfl
theorem run_23 (as : List AV) : callF T W (n+1) 23 as = runD (callF T W n) W d__law_lines_drawn as := rfl
theorem run_24 (as : List AV) : callF T W (n+1) 24 as = runD (callF T W n) W d__law_patch as := rfl
theorem run_25 (as : List AV) : callF T W (n+1) 25 as = runD (callF T W n) W d__law_trace as := rfl
theorem run_26 (as : List AV) : callF T W (n+1) 26 as = runD (callF T W n) W d__law_normal as := rfl
theorem run_27 (as : List AV) : callF T W (n+1) 27 as = runD (callF T W n) W d__law_cost as := rfl
theorem run_28 (as : List AV) : callF T W (n+1) 28 as = runD (callF T W n) W d__law_right as := rfl
theorem e_is_integer (i : Int) : callF T W (n+1) 0 [.val (.int i)] = some (.val (.bool true), []) := by
  rw [run_0, run_eq rfl rfl]
  simp -implicitDefEqProofs only [d_is_integer, seqO_nx, seqO_ret, seqO_ct, seqO_brk, getS_z, getS_s, set_z, set_s, evB_nil, evB_cons, evS_for, evE_lc, lcTurn_k, evE_c, evE_g, evE_v, takeS_k, tkK_val, tkK_own, peekS_k, pkK_val, pkK_own, pkK_io, res_val, res_slot, sdK_val, sdK_own, sdK_io, evE_bin, evE_neg, evE_cmp, evE_isN, evE_notN, evE_and, evE_or, evE_nt, evE_ite, evE_tup, evE_lst, evE_dct, evE_ix, evE_sl, evE_call, evE_callK, evE_blt, evE_isi, evE_get2, evT_tr, evT_cmp, evT_isN, evT_notN, evT_and, evT_or, evT_nt, evTo_n, evTo_s, evP_slot, evP_ex, evPs_n, evPs_c, evL_n, evL_c, evA_n, evA_e, ioK_own, ioK_io, evA_io, evO_n, evO_e, evI_seq, evI_rng1, evI_rng2, evI_enum, evI_zip, evS_asg, evS_par, evS_setIx, evS_ex, evS_mut, evS_iF, evS_ret, evS_retS, rsK_val, rsK_own, evS_retN, evS_pass, evS_ct, evS_brk, resL_n, resL_c, kAnd_b, kOr_b, kNt_b, kO_i, kR1_i, kR22_i, evR_n, evR_c, noIo_un, noIo_val, noIo_own, of_val, of_own, chgS_k, chK_own, chK_io, heldS_k, lstS_k, lsK_own, lsK_io, putV_nm, putV_tup, putP_nm, putP_ixs, putP_tup, putPs_n, putPs_c, putN_n, putN_c, retV_s, retI_s, callD_0, callD_1, callD_2, callD_3, callD_4, ciK_own, ciK_io, callD_i1, callD_i2, forL_n, avS_v, avS_i, startS_c, startS_z, startS_u, isi_s, isi_t, isi_ll, isi_lt, isi_i, isi_ib, truD_b, len_l, len_t, max_ii, min_ii, int_i, list_l, list_t, tuple_l, tuple_t, eqD_ss, eqD_ii, c_eq, c_ne, c_lt, c_le, c_gt, c_ge, b_add, b_sub, isN_n, isN_i, ixT0, ixT1, kB1, kC1, kN, kIte, kIx, kSl, kCall, kCK2, kCK, kBlt, kG2, kG1, kG, kTr, kTC1, kTAnd, kTOr, kPs, kLs, kAs, kR2, kZ2, kZ, kFor, kLT2, kLT1, kLc, kIf, kAsg, kPar, kSx2, kSx, kMut, kRs, putS_k, RV.d, Option.bind_some, Option.bind_none, Option.map_some, Option.map_none, hideS, wipeS, backS, List.map_cons, List.map_nil, List.length_cons, List.length_nil, if_true, if_false, Bool.false_eq_true, eq_self, outsOf, decide_true, decide_false, Bool.not_true, Bool.not_false, Nat.reduceAdd, Nat.reduceLT, Nat.zero_add]
theorem e_is_count (k : Nat) : callF T W (n+2) 1 [.val (.int (k : Nat))] = some (.val (.bool true), []) := by
  have h : (0 : Int) ≤ (k : Nat) := by omega
  rw [run_1, run_eq rfl rfl]
  simp -implicitDefEqProofs only [d_is_count, seqO_nx, seqO_ret, seqO_ct, seqO_brk, getS_z, getS_s, set_z, set_s, evB_nil, evB_cons, evS_for, evE_lc, lcTurn_k, evE_c, evE_g, evE_v, takeS_k, tkK_val, tkK_own, peekS_k, pkK_val, pkK_own, pkK_io, res_val, res_slot, sdK_val, sdK_own, sdK_io, evE_bin, evE_neg, evE_cmp, evE_isN, evE_notN, evE_and, evE_or, evE_nt, evE_ite, evE_tup, evE_lst, evE_dct, evE_ix, evE_sl, evE_call, evE_callK, evE_blt, evE_isi, evE_get2, evT_tr, evT_cmp, evT_isN, evT_notN, evT_and, evT_or, evT_nt, evTo_n, evTo_s, evP_slot, evP_ex, evPs_n, evPs_c, evL_n, evL_c, evA_n, evA_e, ioK_own, ioK_io, evA_io, evO_n, evO_e, evI_seq, evI_rng1, evI_rng2, evI_enum, evI_zip, evS_asg, evS_par, evS_setIx, evS_ex, evS_mut, evS_iF, evS_ret, evS_retS, rsK_val, rsK_own, evS_retN, evS_pass, evS_ct, evS_brk, resL_n, resL_c, kAnd_b, kOr_b, kNt_b, kO_i, kR1_i, kR22_i, evR_n, evR_c, noIo_un, noIo_val, noIo_own, of_val, of_own, chgS_k, chK_own, chK_io, heldS_k, lstS_k, lsK_own, lsK_io, putV_nm, putV_tup, putP_nm, putP_ixs, putP_tup, putPs_n, putPs_c, putN_n, putN_c, retV_s, retI_s, callD_0, callD_1, callD_2, callD_3, callD_4, ciK_own, ciK_io, callD_i1, callD_i2, forL_n, avS_v, avS_i, startS_c, startS_z, startS_u, isi_s, isi_t, isi_ll, isi_lt, isi_i, isi_ib, truD_b, len_l, len_t, max_ii, min_ii, int_i, list_l, list_t, tuple_l, tuple_t, eqD_ss, eqD_ii, c_eq, c_ne, c_lt, c_le, c_gt, c_ge, b_add, b_sub, isN_n, isN_i, ixT0, ixT1, kB1, kC1, kN, kIte, kIx, kSl, kCall, kCK2, kCK, kBlt, kG2, kG1, kG, kTr, kTC1, kTAnd, kTOr, kPs, kLs, kAs, kR2, kZ2, kZ, kFor, kLT2, kLT1, kLc, kIf, kAsg, kPar, kSx2, kSx, kMut, kRs, putS_k, RV.d, Option.bind_some, Option.bind_none, Option.map_some, Option.map_none, hideS, wipeS, backS, List.map_cons, List.map_nil, List.length_cons, List.length_nil, if_true, if_false, Bool.false_eq_true, eq_self, outsOf, decide_true, decide_false, Bool.not_true, Bool.not_false, Nat.reduceAdd, Nat.reduceLT, Nat.zero_add, e_is_integer, h]
theorem e_is_list (b : Bool) (ls : List Str) : callF T W (n+1) 2 [.val (lnD b ls)] = some (.val (.bool true), []) := by
  rw [run_2, run_eq rfl rfl]
  cases b <;> simp -implicitDefEqProofs only [lnD, d_is_list, seqO_nx, seqO_ret, seqO_ct, seqO_brk, getS_z, getS_s, set_z, set_s, evB_nil, evB_cons, evS_for, evE_lc, lcTurn_k, evE_c, evE_g, evE_v, takeS_k, tkK_val, tkK_own, peekS_k, pkK_val, pkK_own, pkK_io, res_val, res_slot, sdK_val, sdK_own, sdK_io, evE_bin, evE_neg, evE_cmp, evE_isN, evE_notN, evE_and, evE_or, evE_nt, evE_ite, evE_tup, evE_lst, evE_dct, evE_ix, evE_sl, evE_call, evE_callK, evE_blt, evE_isi, evE_get2, evT_tr, evT_cmp, evT_isN, evT_notN, evT_and, evT_or, evT_nt, evTo_n, evTo_s, evP_slot, evP_ex, evPs_n, evPs_c, evL_n, evL_c, evA_n, evA_e, ioK_own, ioK_io, evA_io, evO_n, evO_e, evI_seq, evI_rng1, evI_rng2, evI_enum, evI_zip, evS_asg, evS_par, evS_setIx, evS_ex, evS_mut, evS_iF, evS_ret, evS_retS, rsK_val, rsK_own, evS_retN, evS_pass, evS_ct, evS_brk, resL_n, resL_c, kAnd_b, kOr_b, kNt_b, kO_i, kR1_i, kR22_i, evR_n, evR_c, noIo_un, noIo_val, noIo_own, of_val, of_own, chgS_k, chK_own, chK_io, heldS_k, lstS_k, lsK_own, lsK_io, putV_nm, putV_tup, putP_nm, putP_ixs, putP_tup, putPs_n, putPs_c, putN_n, putN_c, retV_s, retI_s, callD_0, callD_1, callD_2, callD_3, callD_4, ciK_own, ciK_io, callD_i1, callD_i2, forL_n, avS_v, avS_i, startS_c, startS_z, startS_u, isi_s, isi_t, isi_ll, isi_lt, isi_i, isi_ib, truD_b, len_l, len_t, max_ii, min_ii, int_i, list_l, list_t, tuple_l, tuple_t, eqD_ss, eqD_ii, c_eq, c_ne, c_lt, c_le, c_gt, c_ge, b_add, b_sub, isN_n, isN_i, ixT0, ixT1, kB1, kC1, kN, kIte, kIx, kSl, kCall, kCK2, kCK, kBlt, kG2, kG1, kG, kTr, kTC1, kTAnd, kTOr, kPs, kLs, kAs, kR2, kZ2, kZ, kFor, kLT2, kLT1, kLc, kIf, kAsg, kPar, kSx2, kSx, kMut, kRs, putS_k, RV.d, Option.bind_some, Option.bind_none, Option.map_some, Option.map_none, hideS, wipeS, backS, List.map_cons, List.map_nil, List.length_cons, List.length_nil, if_true, if_false, Bool.false_eq_true, eq_self, outsOf, decide_true, decide_false, Bool.not_true, Bool.not_false, Nat.reduceAdd, Nat.reduceLT, Nat.zero_add]
theorem e_is_tuple (l : List D) : callF T W (n+1) 3 [.val (.tuple l), .val (.int 2)] = some (.val (.bool ((l.length : Int) == 2)), []) := by
  rw [run_3, run_eq rfl rfl]
  simp -implicitDefEqProofs only [d_is_tuple, seqO_nx, seqO_ret, seqO_ct, seqO_brk, getS_z, getS_s, set_z, set_s, evB_nil, evB_cons, evS_for, evE_lc, lcTurn_k, evE_c, evE_g, evE_v, takeS_k, tkK_val, tkK_own, peekS_k, pkK_val, pkK_own, pkK_io, res_val, res_slot, sdK_val, sdK_own, sdK_io, evE_bin, evE_neg, evE_cmp, evE_isN, evE_notN, evE_and, evE_or, evE_nt, evE_ite, evE_tup, evE_lst, evE_dct, evE_ix, evE_sl, evE_call, evE_callK, evE_blt, evE_isi, evE_get2, evT_tr, evT_cmp, evT_isN, evT_notN, evT_and, evT_or, evT_nt, evTo_n, evTo_s, evP_slot, evP_ex, evPs_n, evPs_c, evL_n, evL_c, evA_n, evA_e, ioK_own, ioK_io, evA_io, evO_n, evO_e, evI_seq, evI_rng1, evI_rng2, evI_enum, evI_zip, evS_asg, evS_par, evS_setIx, evS_ex, evS_mut, evS_iF, evS_ret, evS_retS, rsK_val, rsK_own, evS_retN, evS_pass, evS_ct, evS_brk, resL_n, resL_c, kAnd_b, kOr_b, kNt_b, kO_i, kR1_i, kR22_i, evR_n, evR_c, noIo_un, noIo_val, noIo_own, of_val, of_own, chgS_k, chK_own, chK_io, heldS_k, lstS_k, lsK_own, lsK_io, putV_nm, putV_tup, putP_nm, putP_ixs, putP_tup, putPs_n, putPs_c, putN_n, putN_c, retV_s, retI_s, callD_0, callD_1, callD_2, callD_3, callD_4, ciK_own, ciK_io, callD_i1, callD_i2, forL_n, avS_v, avS_i, startS_c, startS_z, startS_u, isi_s, isi_t, isi_ll, isi_lt, isi_i, isi_ib, truD_b, len_l, len_t, max_ii, min_ii, int_i, list_l, list_t, tuple_l, tuple_t, eqD_ss, eqD_ii, c_eq, c_ne, c_lt, c_le, c_gt, c_ge, b_add, b_sub, isN_n, isN_i, ixT0, ixT1, kB1, kC1, kN, kIte, kIx, kSl, kCall, kCK2, kCK, kBlt, kG2, kG1, kG, kTr, kTC1, kTAnd, kTOr, kPs, kLs, kAs, kR2, kZ2, kZ, kFor, kLT2, kLT1, kLc, kIf, kAsg, kPar, kSx2, kSx, kMut, kRs, putS_k, RV.d, Option.bind_some, Option.bind_none, Option.map_some, Option.map_none, hideS, wipeS, backS, List.map_cons, List.map_nil, List.length_cons, List.length_nil, if_true, if_false, Bool.false_eq_true, eq_self, outsOf, decide_true, decide_false, Bool.not_true, Bool.not_false, Nat.reduceAdd, Nat.reduceLT, Nat.zero_add]
theorem e_is_line_any (s : Str) (h : LnOk s) : callF T W (n+1) 4 [.val (.str s)] = some (.val (.bool true), []) := by
  have h1 := h.1
  have h2 : s.length ≤ sizeLine := sz1 (by omega)
  have h3 : (s.length : Int) ≤ 2000 := by omega
  rw [run_4, run_eq rfl rfl]
  simp -implicitDefEqProofs only [d_is_line_any, seqO_nx, seqO_ret, seqO_ct, seqO_brk, getS_z, getS_s, set_z, set_s, evB_nil, evB_cons, evS_for, evE_lc, lcTurn_k, evE_c, evE_g, evE_v, takeS_k, tkK_val, tkK_own, peekS_k, pkK_val, pkK_own, pkK_io, res_val, res_slot, sdK_val, sdK_own, sdK_io, evE_bin, evE_neg, evE_cmp, evE_isN, evE_notN, evE_and, evE_or, evE_nt, evE_ite, evE_tup, evE_lst, evE_dct, evE_ix, evE_sl, evE_call, evE_callK, evE_blt, evE_isi, evE_get2, evT_tr, evT_cmp, evT_isN, evT_notN, evT_and, evT_or, evT_nt, evTo_n, evTo_s, evP_slot, evP_ex, evPs_n, evPs_c, evL_n, evL_c, evA_n, evA_e, ioK_own, ioK_io, evA_io, evO_n, evO_e, evI_seq, evI_rng1, evI_rng2, evI_enum, evI_zip, evS_asg, evS_par, evS_setIx, evS_ex, evS_mut, evS_iF, evS_ret, evS_retS, rsK_val, rsK_own, evS_retN, evS_pass, evS_ct, evS_brk, resL_n, resL_c, kAnd_b, kOr_b, kNt_b, kO_i, kR1_i, kR22_i, evR_n, evR_c, noIo_un, noIo_val, noIo_own, of_val, of_own, chgS_k, chK_own, chK_io, heldS_k, lstS_k, lsK_own, lsK_io, putV_nm, putV_tup, putP_nm, putP_ixs, putP_tup, putPs_n, putPs_c, putN_n, putN_c, retV_s, retI_s, callD_0, callD_1, callD_2, callD_3, callD_4, ciK_own, ciK_io, callD_i1, callD_i2, forL_n, avS_v, avS_i, startS_c, startS_z, startS_u, isi_s, isi_t, isi_ll, isi_lt, isi_i, isi_ib, truD_b, len_l, len_t, max_ii, min_ii, int_i, list_l, list_t, tuple_l, tuple_t, eqD_ss, eqD_ii, c_eq, c_ne, c_lt, c_le, c_gt, c_ge, b_add, b_sub, isN_n, isN_i, ixT0, ixT1, kB1, kC1, kN, kIte, kIx, kSl, kCall, kCK2, kCK, kBlt, kG2, kG1, kG, kTr, kTC1, kTAnd, kTOr, kPs, kLs, kAs, kR2, kZ2, kZ, kFor, kLT2, kLT1, kLc, kIf, kAsg, kPar, kSx2, kSx, kMut, kRs, putS_k, RV.d, Option.bind_some, Option.bind_none, Option.map_some, Option.map_none, hideS, wipeS, backS, List.map_cons, List.map_nil, List.length_cons, List.length_nil, if_true, if_false, Bool.false_eq_true, eq_self, outsOf, decide_true, decide_false, Bool.not_true, Bool.not_false, Nat.reduceAdd, Nat.reduceLT, Nat.zero_add, len_s h2, h3]
theorem e_are_lines_any (b : Bool) (ls : List Str) (h : ls.length ≤ 200) (hl : ∀ s ∈ ls, LnOk s) : callF T W (n+2) 5 [.val (lnD b ls)] = some (.val (.bool true), []) := by
  have h3 : (ls.length : Int) ≤ 200 := by omega
  have hi : ls.length ≤ sizeLine := sz1 (by omega)
  rw [run_5, run_eq rfl rfl]
  have hc : ∀ a : SD, compE (callF T W (n+1)) (.call 4 "is_line_any" [(.e (.v 1))]) (.nm 1) none [1] (ls.map .str) [a, .un] = some (.own (.list (ls.map fun _ => .bool true)), [a, .un]) := by
    intro a
    apply lc_map
    intro s hs
    simp -implicitDefEqProofs only [seqO_nx, seqO_ret, seqO_ct, seqO_brk, getS_z, getS_s, set_z, set_s, evB_nil, evB_cons, evS_for, evE_lc, lcTurn_k, evE_c, evE_g, evE_v, takeS_k, tkK_val, tkK_own, peekS_k, pkK_val, pkK_own, pkK_io, res_val, res_slot, sdK_val, sdK_own, sdK_io, evE_bin, evE_neg, evE_cmp, evE_isN, evE_notN, evE_and, evE_or, evE_nt, evE_ite, evE_tup, evE_lst, evE_dct, evE_ix, evE_sl, evE_call, evE_callK, evE_blt, evE_isi, evE_get2, evT_tr, evT_cmp, evT_isN, evT_notN, evT_and, evT_or, evT_nt, evTo_n, evTo_s, evP_slot, evP_ex, evPs_n, evPs_c, evL_n, evL_c, evA_n, evA_e, ioK_own, ioK_io, evA_io, evO_n, evO_e, evI_seq, evI_rng1, evI_rng2, evI_enum, evI_zip, evS_asg, evS_par, evS_setIx, evS_ex, evS_mut, evS_iF, evS_ret, evS_retS, rsK_val, rsK_own, evS_retN, evS_pass, evS_ct, evS_brk, resL_n, resL_c, kAnd_b, kOr_b, kNt_b, kO_i, kR1_i, kR22_i, evR_n, evR_c, noIo_un, noIo_val, noIo_own, of_val, of_own, chgS_k, chK_own, chK_io, heldS_k, lstS_k, lsK_own, lsK_io, putV_nm, putV_tup, putP_nm, putP_ixs, putP_tup, putPs_n, putPs_c, putN_n, putN_c, retV_s, retI_s, callD_0, callD_1, callD_2, callD_3, callD_4, ciK_own, ciK_io, callD_i1, callD_i2, forL_n, avS_v, avS_i, startS_c, startS_z, startS_u, isi_s, isi_t, isi_ll, isi_lt, isi_i, isi_ib, truD_b, len_l, len_t, max_ii, min_ii, int_i, list_l, list_t, tuple_l, tuple_t, eqD_ss, eqD_ii, c_eq, c_ne, c_lt, c_le, c_gt, c_ge, b_add, b_sub, isN_n, isN_i, ixT0, ixT1, kB1, kC1, kN, kIte, kIx, kSl, kCall, kCK2, kCK, kBlt, kG2, kG1, kG, kTr, kTC1, kTAnd, kTOr, kPs, kLs, kAs, kR2, kZ2, kZ, kFor, kLT2, kLT1, kLc, kIf, kAsg, kPar, kSx2, kSx, kMut, kRs, putS_k, RV.d, Option.bind_some, Option.bind_none, Option.map_some, Option.map_none, hideS, wipeS, backS, List.map_cons, List.map_nil, List.length_cons, List.length_nil, if_true, if_false, Bool.false_eq_true, eq_self, outsOf, decide_true, decide_false, Bool.not_true, Bool.not_false, Nat.reduceAdd, Nat.reduceLT, Nat.zero_add, e_is_line_any s (hl s hs)]
  have e1 := e_is_list (W := W) (n := n) b ls
  cases b <;> simp only [lnD, Bool.false_eq_true, if_true, if_false] at e1 ⊢ <;> simp -implicitDefEqProofs only [d_are_lines_any, seqO_nx, seqO_ret, seqO_ct, seqO_brk, getS_z, getS_s, set_z, set_s, evB_nil, evB_cons, evS_for, evE_lc, lcTurn_k, evE_c, evE_g, evE_v, takeS_k, tkK_val, tkK_own, peekS_k, pkK_val, pkK_own, pkK_io, res_val, res_slot, sdK_val, sdK_own, sdK_io, evE_bin, evE_neg, evE_cmp, evE_isN, evE_notN, evE_and, evE_or, evE_nt, evE_ite, evE_tup, evE_lst, evE_dct, evE_ix, evE_sl, evE_call, evE_callK, evE_blt, evE_isi, evE_get2, evT_tr, evT_cmp, evT_isN, evT_notN, evT_and, evT_or, evT_nt, evTo_n, evTo_s, evP_slot, evP_ex, evPs_n, evPs_c, evL_n, evL_c, evA_n, evA_e, ioK_own, ioK_io, evA_io, evO_n, evO_e, evI_seq, evI_rng1, evI_rng2, evI_enum, evI_zip, evS_asg, evS_par, evS_setIx, evS_ex, evS_mut, evS_iF, evS_ret, evS_retS, rsK_val, rsK_own, evS_retN, evS_pass, evS_ct, evS_brk, resL_n, resL_c, kAnd_b, kOr_b, kNt_b, kO_i, kR1_i, kR22_i, evR_n, evR_c, noIo_un, noIo_val, noIo_own, of_val, of_own, chgS_k, chK_own, chK_io, heldS_k, lstS_k, lsK_own, lsK_io, putV_nm, putV_tup, putP_nm, putP_ixs, putP_tup, putPs_n, putPs_c, putN_n, putN_c, retV_s, retI_s, callD_0, callD_1, callD_2, callD_3, callD_4, ciK_own, ciK_io, callD_i1, callD_i2, forL_n, avS_v, avS_i, startS_c, startS_z, startS_u, isi_s, isi_t, isi_ll, isi_lt, isi_i, isi_ib, truD_b, len_l, len_t, max_ii, min_ii, int_i, list_l, list_t, tuple_l, tuple_t, eqD_ss, eqD_ii, c_eq, c_ne, c_lt, c_le, c_gt, c_ge, b_add, b_sub, isN_n, isN_i, ixT0, ixT1, kB1, kC1, kN, kIte, kIx, kSl, kCall, kCK2, kCK, kBlt, kG2, kG1, kG, kTr, kTC1, kTAnd, kTOr, kPs, kLs, kAs, kR2, kZ2, kZ, kFor, kLT2, kLT1, kLc, kIf, kAsg, kPar, kSx2, kSx, kMut, kRs, putS_k, RV.d, Option.bind_some, Option.bind_none, Option.map_some, Option.map_none, hideS, wipeS, backS, List.map_cons, List.map_nil, List.length_cons, List.length_nil, if_true, if_false, Bool.false_eq_true, eq_self, outsOf, decide_true, decide_false, Bool.not_true, Bool.not_false, Nat.reduceAdd, Nat.reduceLT, Nat.zero_add, e1, len_sD, h3, items_l (l := sD ls) (by rw [len_sD]; exact hi), items_t (l := sD ls) (by rw [len_sD]; exact hi)] <;> simp -implicitDefEqProofs only [sD, hc, seqO_nx, seqO_ret, seqO_ct, seqO_brk, getS_z, getS_s, set_z, set_s, evB_nil, evB_cons, evS_for, evE_lc, lcTurn_k, evE_c, evE_g, evE_v, takeS_k, tkK_val, tkK_own, peekS_k, pkK_val, pkK_own, pkK_io, res_val, res_slot, sdK_val, sdK_own, sdK_io, evE_bin, evE_neg, evE_cmp, evE_isN, evE_notN, evE_and, evE_or, evE_nt, evE_ite, evE_tup, evE_lst, evE_dct, evE_ix, evE_sl, evE_call, evE_callK, evE_blt, evE_isi, evE_get2, evT_tr, evT_cmp, evT_isN, evT_notN, evT_and, evT_or, evT_nt, evTo_n, evTo_s, evP_slot, evP_ex, evPs_n, evPs_c, evL_n, evL_c, evA_n, evA_e, ioK_own, ioK_io, evA_io, evO_n, evO_e, evI_seq, evI_rng1, evI_rng2, evI_enum, evI_zip, evS_asg, evS_par, evS_setIx, evS_ex, evS_mut, evS_iF, evS_ret, evS_retS, rsK_val, rsK_own, evS_retN, evS_pass, evS_ct, evS_brk, resL_n, resL_c, kAnd_b, kOr_b, kNt_b, kO_i, kR1_i, kR22_i, evR_n, evR_c, noIo_un, noIo_val, noIo_own, of_val, of_own, chgS_k, chK_own, chK_io, heldS_k, lstS_k, lsK_own, lsK_io, putV_nm, putV_tup, putP_nm, putP_ixs, putP_tup, putPs_n, putPs_c, putN_n, putN_c, retV_s, retI_s, callD_0, callD_1, callD_2, callD_3, callD_4, ciK_own, ciK_io, callD_i1, callD_i2, forL_n, avS_v, avS_i, startS_c, startS_z, startS_u, isi_s, isi_t, isi_ll, isi_lt, isi_i, isi_ib, truD_b, len_l, len_t, max_ii, min_ii, int_i, list_l, list_t, tuple_l, tuple_t, eqD_ss, eqD_ii, c_eq, c_ne, c_lt, c_le, c_gt, c_ge, b_add, b_sub, isN_n, isN_i, ixT0, ixT1, kB1, kC1, kN, kIte, kIx, kSl, kCall, kCK2, kCK, kBlt, kG2, kG1, kG, kTr, kTC1, kTAnd, kTOr, kPs, kLs, kAs, kR2, kZ2, kZ, kFor, kLT2, kLT1, kLc, kIf, kAsg, kPar, kSx2, kSx, kMut, kRs, putS_k, RV.d, Option.bind_some, Option.bind_none, Option.map_some, Option.map_none, hideS, wipeS, backS, List.map_cons, List.map_nil, List.length_cons, List.length_nil, if_true, if_false, Bool.false_eq_true, eq_self, outsOf, decide_true, decide_false, Bool.not_true, Bool.not_false, Nat.reduceAdd, Nat.reduceLT, Nat.zero_add, all_t]
theorem ev_tup2 {a b : D} : ([a, b] : List D).length = 2 := rfl
theorem sh_tup {l : List D} (h : SeqAt.shaped (.tuple l) = true) (b : D) (r : List D) (e : l = b :: r) : eqD (.tuple l) (.tuple []) = some false := by
  have h2 : SeqAt.shaped (.tuple ([] : List D)) = true := rfl
  unfold eqD; rw [h, h2]; simp only [Bool.and_self, Bool.or_true, if_true]; subst e; simp [PyData.eqv, PyData.eqvAll]
theorem canLay_sD : ∀ {ls : List Str}, (∀ s ∈ ls, LnOk s) → PyData.canLayAll0 (sD ls) = true
  | [], _ => rfl
  | s :: r, h => by
    have h1 := (h s List.mem_cons_self).2
    have h2 := canLay_sD (ls := r) fun x hx => h x (List.mem_cons_of_mem _ hx)
    simp only [sD, List.map_cons, PyData.canLayAll0, PyData.canLay0, h1, Bool.true_and]; exact h2
theorem depth_sD : ∀ {ls : List Str}, PyData.depthAll (sD ls) = 0
  | [] => rfl
  | s :: r => by
    have h2 := depth_sD (ls := r)
    simp only [sD, List.map_cons, PyData.depthAll, PyData.depth] at h2 ⊢; rw [h2]; rfl
theorem shaped_sDt {ls : List Str} (h : ∀ s ∈ ls, LnOk s) : SeqAt.shaped (.tuple (sD ls)) = true := by
  simp [SeqAt.shaped, PyData.canLay0, PyData.depth, canLay_sD h, depth_sD]
theorem shaped_sDl {ls : List Str} (h : ∀ s ∈ ls, LnOk s) : SeqAt.shaped (.list (sD ls)) = true := by
  simp [SeqAt.shaped, PyData.canLay0, PyData.depth, canLay_sD h, depth_sD]
theorem ne_sDt {ls : List Str} (h : ∀ s ∈ ls, LnOk s) (hn : ls ≠ []) : eqD (.tuple (sD ls)) (.tuple []) = some false := by
  cases ls with
  | nil => exact absurd rfl hn
  | cons a r => exact sh_tup (shaped_sDt h) (.str a) (sD r) rfl
theorem ls_nil {l : List D} (h : SeqAt.shaped (.list l) = true) : eqD (.list l) (.list []) = some l.isEmpty := by
  have h2 : SeqAt.shaped (.list ([] : List D)) = true := rfl
  unfold eqD; rw [h, h2]; simp only [Bool.and_self, Bool.or_true, if_true]; cases l <;> simp [PyData.eqv, PyData.eqvAll]
theorem m_kk : memD (.str "keep") [.str "keep", .str "take"] = some true := by decide +kernel
theorem m_tk : memD (.str "take") [.str "keep", .str "take"] = some true := by decide +kernel
theorem c_memt {x : D} {l : List D} : cmpD .mem x (.tuple l) = memD x l := rfl
theorem kTup2 {a b : D} {ρ : PL.Env} : kTup ([a, b], ρ) = some (.val (.tuple [a, b]), ρ) := rfl
theorem kTup0 {ρ : PL.Env} : kTup ([], ρ) = some (.val (.tuple []), ρ) := rfl
theorem kLst0 {ρ : PL.Env} : kLst ([], ρ) = some (.own (.list []), ρ) := rfl
theorem kLst1 {a : D} {ρ : PL.Env} : kLst ([a], ρ) = some (.own (.list [a]), ρ) := rfl
theorem kLst2 {a b : D} {ρ : PL.Env} : kLst ([a, b], ρ) = some (.own (.list [a, b]), ρ) := rfl
theorem kLst4 {a b c d : D} {ρ : PL.Env} : kLst ([a, b, c, d], ρ) = some (.own (.list [a, b, c, d]), ρ) := rfl
theorem two_two : ((2 : Nat) : Int) == 2 := by decide
theorem e_is_edit_any (e : Ed) (h : EdOk e) : callF T W (n+3) 6 [.val (edD e)] = some (.val (.bool true), []) := by
  rw [run_6, run_eq rfl rfl]
  cases e with
  | put ls =>
    obtain ⟨h1, h2, h3⟩ := h
    have hc : ∀ a : SD, compE (callF T W (n+2)) (.call 4 "is_line_any" [(.e (.v 1))]) (.nm 1) none [1] (sD ls) [a, .un] = some (.own (.list (ls.map fun _ => .bool true)), [a, .un]) := by
      intro a
      apply lc_map
      intro s hs
      simp -implicitDefEqProofs only [seqO_nx, seqO_ret, seqO_ct, seqO_brk, getS_z, getS_s, set_z, set_s, evB_nil, evB_cons, evS_for, evE_lc, lcTurn_k, evE_c, evE_g, evE_v, takeS_k, tkK_val, tkK_own, peekS_k, pkK_val, pkK_own, pkK_io, res_val, res_slot, sdK_val, sdK_own, sdK_io, evE_bin, evE_neg, evE_cmp, evE_isN, evE_notN, evE_and, evE_or, evE_nt, evE_ite, evE_tup, evE_lst, evE_dct, evE_ix, evE_sl, evE_call, evE_callK, evE_blt, evE_isi, evE_get2, evT_tr, evT_cmp, evT_isN, evT_notN, evT_and, evT_or, evT_nt, evTo_n, evTo_s, evP_slot, evP_ex, evPs_n, evPs_c, evL_n, evL_c, evA_n, evA_e, ioK_own, ioK_io, evA_io, evO_n, evO_e, evI_seq, evI_rng1, evI_rng2, evI_enum, evI_zip, evS_asg, evS_par, evS_setIx, evS_ex, evS_mut, evS_iF, evS_ret, evS_retS, rsK_val, rsK_own, evS_retN, evS_pass, evS_ct, evS_brk, resL_n, resL_c, kAnd_b, kOr_b, kNt_b, kO_i, kR1_i, kR22_i, evR_n, evR_c, noIo_un, noIo_val, noIo_own, of_val, of_own, chgS_k, chK_own, chK_io, heldS_k, lstS_k, lsK_own, lsK_io, putV_nm, putV_tup, putP_nm, putP_ixs, putP_tup, putPs_n, putPs_c, putN_n, putN_c, retV_s, retI_s, callD_0, callD_1, callD_2, callD_3, callD_4, ciK_own, ciK_io, callD_i1, callD_i2, forL_n, avS_v, avS_i, startS_c, startS_z, startS_u, isi_s, isi_t, isi_ll, isi_lt, isi_i, isi_ib, truD_b, len_l, len_t, max_ii, min_ii, int_i, list_l, list_t, tuple_l, tuple_t, eqD_ss, eqD_ii, c_eq, c_ne, c_lt, c_le, c_gt, c_ge, b_add, b_sub, isN_n, isN_i, ixT0, ixT1, kB1, kC1, kN, kIte, kIx, kSl, kCall, kCK2, kCK, kBlt, kG2, kG1, kG, kTr, kTC1, kTAnd, kTOr, kPs, kLs, kAs, kR2, kZ2, kZ, kFor, kLT2, kLT1, kLc, kIf, kAsg, kPar, kSx2, kSx, kMut, kRs, putS_k, RV.d, Option.bind_some, Option.bind_none, Option.map_some, Option.map_none, hideS, wipeS, backS, List.map_cons, List.map_nil, List.length_cons, List.length_nil, if_true, if_false, Bool.false_eq_true, eq_self, outsOf, decide_true, decide_false, Bool.not_true, Bool.not_false, Nat.reduceAdd, Nat.reduceLT, Nat.zero_add, e_is_line_any s (h3 s hs)]
    simp -implicitDefEqProofs only [d_is_edit_any, edD, seqO_nx, seqO_ret, seqO_ct, seqO_brk, getS_z, getS_s, set_z, set_s, evB_nil, evB_cons, evS_for, evE_lc, lcTurn_k, evE_c, evE_g, evE_v, takeS_k, tkK_val, tkK_own, peekS_k, pkK_val, pkK_own, pkK_io, res_val, res_slot, sdK_val, sdK_own, sdK_io, evE_bin, evE_neg, evE_cmp, evE_isN, evE_notN, evE_and, evE_or, evE_nt, evE_ite, evE_tup, evE_lst, evE_dct, evE_ix, evE_sl, evE_call, evE_callK, evE_blt, evE_isi, evE_get2, evT_tr, evT_cmp, evT_isN, evT_notN, evT_and, evT_or, evT_nt, evTo_n, evTo_s, evP_slot, evP_ex, evPs_n, evPs_c, evL_n, evL_c, evA_n, evA_e, ioK_own, ioK_io, evA_io, evO_n, evO_e, evI_seq, evI_rng1, evI_rng2, evI_enum, evI_zip, evS_asg, evS_par, evS_setIx, evS_ex, evS_mut, evS_iF, evS_ret, evS_retS, rsK_val, rsK_own, evS_retN, evS_pass, evS_ct, evS_brk, resL_n, resL_c, kAnd_b, kOr_b, kNt_b, kO_i, kR1_i, kR22_i, evR_n, evR_c, noIo_un, noIo_val, noIo_own, of_val, of_own, chgS_k, chK_own, chK_io, heldS_k, lstS_k, lsK_own, lsK_io, putV_nm, putV_tup, putP_nm, putP_ixs, putP_tup, putPs_n, putPs_c, putN_n, putN_c, retV_s, retI_s, callD_0, callD_1, callD_2, callD_3, callD_4, ciK_own, ciK_io, callD_i1, callD_i2, forL_n, avS_v, avS_i, startS_c, startS_z, startS_u, isi_s, isi_t, isi_ll, isi_lt, isi_i, isi_ib, truD_b, len_l, len_t, max_ii, min_ii, int_i, list_l, list_t, tuple_l, tuple_t, eqD_ss, eqD_ii, c_eq, c_ne, c_lt, c_le, c_gt, c_ge, b_add, b_sub, isN_n, isN_i, ixT0, ixT1, kB1, kC1, kN, kIte, kIx, kSl, kCall, kCK2, kCK, kBlt, kG2, kG1, kG, kTr, kTC1, kTAnd, kTOr, kPs, kLs, kAs, kR2, kZ2, kZ, kFor, kLT2, kLT1, kLc, kIf, kAsg, kPar, kSx2, kSx, kMut, kRs, putS_k, RV.d, Option.bind_some, Option.bind_none, Option.map_some, Option.map_none, hideS, wipeS, backS, List.map_cons, List.map_nil, List.length_cons, List.length_nil, if_true, if_false, Bool.false_eq_true, eq_self, outsOf, decide_true, decide_false, Bool.not_true, Bool.not_false, Nat.reduceAdd, Nat.reduceLT, Nat.zero_add, e_is_tuple, kTup0, s_pp, ne_sDt h3 h1, items_t (l := sD ls) (by rw [len_sD]; exact sz1 (by omega)), hc, all_t, two_two]
  | keep k =>
    have hk : (0 : Int) < (k : Nat) := by have := h.1; omega
    simp -implicitDefEqProofs only [d_is_edit_any, edD, seqO_nx, seqO_ret, seqO_ct, seqO_brk, getS_z, getS_s, set_z, set_s, evB_nil, evB_cons, evS_for, evE_lc, lcTurn_k, evE_c, evE_g, evE_v, takeS_k, tkK_val, tkK_own, peekS_k, pkK_val, pkK_own, pkK_io, res_val, res_slot, sdK_val, sdK_own, sdK_io, evE_bin, evE_neg, evE_cmp, evE_isN, evE_notN, evE_and, evE_or, evE_nt, evE_ite, evE_tup, evE_lst, evE_dct, evE_ix, evE_sl, evE_call, evE_callK, evE_blt, evE_isi, evE_get2, evT_tr, evT_cmp, evT_isN, evT_notN, evT_and, evT_or, evT_nt, evTo_n, evTo_s, evP_slot, evP_ex, evPs_n, evPs_c, evL_n, evL_c, evA_n, evA_e, ioK_own, ioK_io, evA_io, evO_n, evO_e, evI_seq, evI_rng1, evI_rng2, evI_enum, evI_zip, evS_asg, evS_par, evS_setIx, evS_ex, evS_mut, evS_iF, evS_ret, evS_retS, rsK_val, rsK_own, evS_retN, evS_pass, evS_ct, evS_brk, resL_n, resL_c, kAnd_b, kOr_b, kNt_b, kO_i, kR1_i, kR22_i, evR_n, evR_c, noIo_un, noIo_val, noIo_own, of_val, of_own, chgS_k, chK_own, chK_io, heldS_k, lstS_k, lsK_own, lsK_io, putV_nm, putV_tup, putP_nm, putP_ixs, putP_tup, putPs_n, putPs_c, putN_n, putN_c, retV_s, retI_s, callD_0, callD_1, callD_2, callD_3, callD_4, ciK_own, ciK_io, callD_i1, callD_i2, forL_n, avS_v, avS_i, startS_c, startS_z, startS_u, isi_s, isi_t, isi_ll, isi_lt, isi_i, isi_ib, truD_b, len_l, len_t, max_ii, min_ii, int_i, list_l, list_t, tuple_l, tuple_t, eqD_ss, eqD_ii, c_eq, c_ne, c_lt, c_le, c_gt, c_ge, b_add, b_sub, isN_n, isN_i, ixT0, ixT1, kB1, kC1, kN, kIte, kIx, kSl, kCall, kCK2, kCK, kBlt, kG2, kG1, kG, kTr, kTC1, kTAnd, kTOr, kPs, kLs, kAs, kR2, kZ2, kZ, kFor, kLT2, kLT1, kLc, kIf, kAsg, kPar, kSx2, kSx, kMut, kRs, putS_k, RV.d, Option.bind_some, Option.bind_none, Option.map_some, Option.map_none, hideS, wipeS, backS, List.map_cons, List.map_nil, List.length_cons, List.length_nil, if_true, if_false, Bool.false_eq_true, eq_self, outsOf, decide_true, decide_false, Bool.not_true, Bool.not_false, Nat.reduceAdd, Nat.reduceLT, Nat.zero_add, e_is_tuple, kTup2, s_kp, m_kk, e_is_count, hk, two_two, c_memt]
  | take k =>
    have hk : (0 : Int) < (k : Nat) := by have := h.1; omega
    simp -implicitDefEqProofs only [d_is_edit_any, edD, seqO_nx, seqO_ret, seqO_ct, seqO_brk, getS_z, getS_s, set_z, set_s, evB_nil, evB_cons, evS_for, evE_lc, lcTurn_k, evE_c, evE_g, evE_v, takeS_k, tkK_val, tkK_own, peekS_k, pkK_val, pkK_own, pkK_io, res_val, res_slot, sdK_val, sdK_own, sdK_io, evE_bin, evE_neg, evE_cmp, evE_isN, evE_notN, evE_and, evE_or, evE_nt, evE_ite, evE_tup, evE_lst, evE_dct, evE_ix, evE_sl, evE_call, evE_callK, evE_blt, evE_isi, evE_get2, evT_tr, evT_cmp, evT_isN, evT_notN, evT_and, evT_or, evT_nt, evTo_n, evTo_s, evP_slot, evP_ex, evPs_n, evPs_c, evL_n, evL_c, evA_n, evA_e, ioK_own, ioK_io, evA_io, evO_n, evO_e, evI_seq, evI_rng1, evI_rng2, evI_enum, evI_zip, evS_asg, evS_par, evS_setIx, evS_ex, evS_mut, evS_iF, evS_ret, evS_retS, rsK_val, rsK_own, evS_retN, evS_pass, evS_ct, evS_brk, resL_n, resL_c, kAnd_b, kOr_b, kNt_b, kO_i, kR1_i, kR22_i, evR_n, evR_c, noIo_un, noIo_val, noIo_own, of_val, of_own, chgS_k, chK_own, chK_io, heldS_k, lstS_k, lsK_own, lsK_io, putV_nm, putV_tup, putP_nm, putP_ixs, putP_tup, putPs_n, putPs_c, putN_n, putN_c, retV_s, retI_s, callD_0, callD_1, callD_2, callD_3, callD_4, ciK_own, ciK_io, callD_i1, callD_i2, forL_n, avS_v, avS_i, startS_c, startS_z, startS_u, isi_s, isi_t, isi_ll, isi_lt, isi_i, isi_ib, truD_b, len_l, len_t, max_ii, min_ii, int_i, list_l, list_t, tuple_l, tuple_t, eqD_ss, eqD_ii, c_eq, c_ne, c_lt, c_le, c_gt, c_ge, b_add, b_sub, isN_n, isN_i, ixT0, ixT1, kB1, kC1, kN, kIte, kIx, kSl, kCall, kCK2, kCK, kBlt, kG2, kG1, kG, kTr, kTC1, kTAnd, kTOr, kPs, kLs, kAs, kR2, kZ2, kZ, kFor, kLT2, kLT1, kLc, kIf, kAsg, kPar, kSx2, kSx, kMut, kRs, putS_k, RV.d, Option.bind_some, Option.bind_none, Option.map_some, Option.map_none, hideS, wipeS, backS, List.map_cons, List.map_nil, List.length_cons, List.length_nil, if_true, if_false, Bool.false_eq_true, eq_self, outsOf, decide_true, decide_false, Bool.not_true, Bool.not_false, Nat.reduceAdd, Nat.reduceLT, Nat.zero_add, e_is_tuple, kTup2, s_tp, m_tk, e_is_count, hk, two_two, c_memt]
/-! ### is_patch_of, want_lines, want_patch -/
def PaOk (p : List Ed) : Prop := p.length ≤ 400 ∧ (∀ e ∈ p, EdOk e) ∧ lateOf p ≤ 200
theorem lenTake (e : Ed) : edD e = .tuple [match e with | .put _ => .str "put" | .keep _ => .str "keep" | .take _ => .str "take", match e with | .put ls => .tuple (sD ls) | .keep k => .int (k : Nat) | .take k => .int (k : Nat)] := by cases e <;> rfl
def nputE : Ed → Option Nat
  | .put _ => none
  | .keep k => some k
  | .take k => some k
theorem sum_fm (f : Ed → Option Nat) (xs : List Ed) : bltD .sum [.list (xs.filterMap fun e => (f e).map fun k => .int (k : Nat))] = some (.val (.int (((xs.filterMap f).sum : Nat) : Int))) := by
  have h := sum_m (fun k : Nat => k) (xs.filterMap f)
  rw [List.map_filterMap] at h
  simpa using h
theorem npu_span (p : List Ed) : (p.filterMap nputE).sum = spanOf p := by
  induction p with
  | nil => rfl
  | cons e r ih => cases e <;> simp [nputE, spanOf, spanE, List.filterMap_cons] at ih ⊢ <;> omega
theorem lc_any (p : List Ed) (h : ∀ e ∈ p, EdOk e) (a b c d : SD) : compE (callF T W (n+3)) (.call 6 "is_edit_any" [(.e (.v 4))]) (.nm 4) none [4] (p.map edD) [a, b, c, d, .un] = some (.own (.list (p.map fun _ => .bool true)), [a, b, c, d, .un]) := by
  apply lc_map
  intro e he
  simp -implicitDefEqProofs only [seqO_nx, seqO_ret, seqO_ct, seqO_brk, getS_z, getS_s, set_z, set_s, evB_nil, evB_cons, evS_for, evE_lc, lcTurn_k, evE_c, evE_g, evE_v, takeS_k, tkK_val, tkK_own, peekS_k, pkK_val, pkK_own, pkK_io, res_val, res_slot, sdK_val, sdK_own, sdK_io, evE_bin, evE_neg, evE_cmp, evE_isN, evE_notN, evE_and, evE_or, evE_nt, evE_ite, evE_tup, evE_lst, evE_dct, evE_ix, evE_sl, evE_call, evE_callK, evE_blt, evE_isi, evE_get2, evT_tr, evT_cmp, evT_isN, evT_notN, evT_and, evT_or, evT_nt, evTo_n, evTo_s, evP_slot, evP_ex, evPs_n, evPs_c, evL_n, evL_c, evA_n, evA_e, ioK_own, ioK_io, evA_io, evO_n, evO_e, evI_seq, evI_rng1, evI_rng2, evI_enum, evI_zip, evS_asg, evS_par, evS_setIx, evS_ex, evS_mut, evS_iF, evS_ret, evS_retS, rsK_val, rsK_own, evS_retN, evS_pass, evS_ct, evS_brk, resL_n, resL_c, kAnd_b, kOr_b, kNt_b, kO_i, kR1_i, kR22_i, evR_n, evR_c, noIo_un, noIo_val, noIo_own, of_val, of_own, chgS_k, chK_own, chK_io, heldS_k, lstS_k, lsK_own, lsK_io, putV_nm, putV_tup, putP_nm, putP_ixs, putP_tup, putPs_n, putPs_c, putN_n, putN_c, retV_s, retI_s, callD_0, callD_1, callD_2, callD_3, callD_4, ciK_own, ciK_io, callD_i1, callD_i2, forL_n, avS_v, avS_i, startS_c, startS_z, startS_u, isi_s, isi_t, isi_ll, isi_lt, isi_i, isi_ib, truD_b, len_l, len_t, max_ii, min_ii, int_i, list_l, list_t, tuple_l, tuple_t, eqD_ss, eqD_ii, c_eq, c_ne, c_lt, c_le, c_gt, c_ge, b_add, b_sub, isN_n, isN_i, ixT0, ixT1, kB1, kC1, kN, kIte, kIx, kSl, kCall, kCK2, kCK, kBlt, kG2, kG1, kG, kTr, kTC1, kTAnd, kTOr, kPs, kLs, kAs, kR2, kZ2, kZ, kFor, kLT2, kLT1, kLc, kIf, kAsg, kPar, kSx2, kSx, kMut, kRs, putS_k, RV.d, Option.bind_some, Option.bind_none, Option.map_some, Option.map_none, hideS, wipeS, backS, List.map_cons, List.map_nil, List.length_cons, List.length_nil, if_true, if_false, Bool.false_eq_true, eq_self, outsOf, decide_true, decide_false, Bool.not_true, Bool.not_false, Nat.reduceAdd, Nat.reduceLT, Nat.zero_add, e_is_edit_any e (h e he)]
theorem lc_nput (Φ : Fn) (p : List Ed) (a b c d : SD) : compE Φ (.ix (.slot 3) (.c (.int 1))) (.nm 3) (some (.cmp .ne (.ex (.ix (.slot 3) (.c (.int 0)))) (.ex (.g "PUT" (.str "put"))))) [3] (p.map edD) [a, b, c, .un, d] = some (.own (.list (p.filterMap fun e => (nputE e).map fun k => .int (k : Nat))), [a, b, c, .un, d]) := by
  apply lc_fm
  intro e he
  cases e <;> simp -implicitDefEqProofs only [edD, nputE, seqO_nx, seqO_ret, seqO_ct, seqO_brk, getS_z, getS_s, set_z, set_s, evB_nil, evB_cons, evS_for, evE_lc, lcTurn_k, evE_c, evE_g, evE_v, takeS_k, tkK_val, tkK_own, peekS_k, pkK_val, pkK_own, pkK_io, res_val, res_slot, sdK_val, sdK_own, sdK_io, evE_bin, evE_neg, evE_cmp, evE_isN, evE_notN, evE_and, evE_or, evE_nt, evE_ite, evE_tup, evE_lst, evE_dct, evE_ix, evE_sl, evE_call, evE_callK, evE_blt, evE_isi, evE_get2, evT_tr, evT_cmp, evT_isN, evT_notN, evT_and, evT_or, evT_nt, evTo_n, evTo_s, evP_slot, evP_ex, evPs_n, evPs_c, evL_n, evL_c, evA_n, evA_e, ioK_own, ioK_io, evA_io, evO_n, evO_e, evI_seq, evI_rng1, evI_rng2, evI_enum, evI_zip, evS_asg, evS_par, evS_setIx, evS_ex, evS_mut, evS_iF, evS_ret, evS_retS, rsK_val, rsK_own, evS_retN, evS_pass, evS_ct, evS_brk, resL_n, resL_c, kAnd_b, kOr_b, kNt_b, kO_i, kR1_i, kR22_i, evR_n, evR_c, noIo_un, noIo_val, noIo_own, of_val, of_own, chgS_k, chK_own, chK_io, heldS_k, lstS_k, lsK_own, lsK_io, putV_nm, putV_tup, putP_nm, putP_ixs, putP_tup, putPs_n, putPs_c, putN_n, putN_c, retV_s, retI_s, callD_0, callD_1, callD_2, callD_3, callD_4, ciK_own, ciK_io, callD_i1, callD_i2, forL_n, avS_v, avS_i, startS_c, startS_z, startS_u, isi_s, isi_t, isi_ll, isi_lt, isi_i, isi_ib, truD_b, len_l, len_t, max_ii, min_ii, int_i, list_l, list_t, tuple_l, tuple_t, eqD_ss, eqD_ii, c_eq, c_ne, c_lt, c_le, c_gt, c_ge, b_add, b_sub, isN_n, isN_i, ixT0, ixT1, kB1, kC1, kN, kIte, kIx, kSl, kCall, kCK2, kCK, kBlt, kG2, kG1, kG, kTr, kTC1, kTAnd, kTOr, kPs, kLs, kAs, kR2, kZ2, kZ, kFor, kLT2, kLT1, kLc, kIf, kAsg, kPar, kSx2, kSx, kMut, kRs, putS_k, RV.d, Option.bind_some, Option.bind_none, Option.map_some, Option.map_none, hideS, wipeS, backS, List.map_cons, List.map_nil, List.length_cons, List.length_nil, if_true, if_false, Bool.false_eq_true, eq_self, outsOf, decide_true, decide_false, Bool.not_true, Bool.not_false, Nat.reduceAdd, Nat.reduceLT, Nat.zero_add, s_pp, s_kp, s_tp]
theorem lc_late (Φ : Fn) (p : List Ed) (h : ∀ e ∈ p, EdOk e) (a b c d : SD) : compE Φ (.ite (.cmp .eq (.ex (.ix (.slot 3) (.c (.int 0)))) (.ex (.g "PUT" (.str "put")))) (.blt .len [(.ex (.ix (.slot 3) (.c (.int 1))))]) (.ite (.cmp .eq (.ex (.ix (.slot 3) (.c (.int 0)))) (.ex (.g "KEEP" (.str "keep")))) (.ix (.slot 3) (.c (.int 1))) (.c (.int 0)))) (.nm 3) none [3] (p.map edD) [a, b, c, .un, d] = some (.own (.list (p.map fun e => .int (lateE e : Nat))), [a, b, c, .un, d]) := by
  apply lc_map
  intro e he
  cases e <;> simp -implicitDefEqProofs only [edD, lateE, seqO_nx, seqO_ret, seqO_ct, seqO_brk, getS_z, getS_s, set_z, set_s, evB_nil, evB_cons, evS_for, evE_lc, lcTurn_k, evE_c, evE_g, evE_v, takeS_k, tkK_val, tkK_own, peekS_k, pkK_val, pkK_own, pkK_io, res_val, res_slot, sdK_val, sdK_own, sdK_io, evE_bin, evE_neg, evE_cmp, evE_isN, evE_notN, evE_and, evE_or, evE_nt, evE_ite, evE_tup, evE_lst, evE_dct, evE_ix, evE_sl, evE_call, evE_callK, evE_blt, evE_isi, evE_get2, evT_tr, evT_cmp, evT_isN, evT_notN, evT_and, evT_or, evT_nt, evTo_n, evTo_s, evP_slot, evP_ex, evPs_n, evPs_c, evL_n, evL_c, evA_n, evA_e, ioK_own, ioK_io, evA_io, evO_n, evO_e, evI_seq, evI_rng1, evI_rng2, evI_enum, evI_zip, evS_asg, evS_par, evS_setIx, evS_ex, evS_mut, evS_iF, evS_ret, evS_retS, rsK_val, rsK_own, evS_retN, evS_pass, evS_ct, evS_brk, resL_n, resL_c, kAnd_b, kOr_b, kNt_b, kO_i, kR1_i, kR22_i, evR_n, evR_c, noIo_un, noIo_val, noIo_own, of_val, of_own, chgS_k, chK_own, chK_io, heldS_k, lstS_k, lsK_own, lsK_io, putV_nm, putV_tup, putP_nm, putP_ixs, putP_tup, putPs_n, putPs_c, putN_n, putN_c, retV_s, retI_s, callD_0, callD_1, callD_2, callD_3, callD_4, ciK_own, ciK_io, callD_i1, callD_i2, forL_n, avS_v, avS_i, startS_c, startS_z, startS_u, isi_s, isi_t, isi_ll, isi_lt, isi_i, isi_ib, truD_b, len_l, len_t, max_ii, min_ii, int_i, list_l, list_t, tuple_l, tuple_t, eqD_ss, eqD_ii, c_eq, c_ne, c_lt, c_le, c_gt, c_ge, b_add, b_sub, isN_n, isN_i, ixT0, ixT1, kB1, kC1, kN, kIte, kIx, kSl, kCall, kCK2, kCK, kBlt, kG2, kG1, kG, kTr, kTC1, kTAnd, kTOr, kPs, kLs, kAs, kR2, kZ2, kZ, kFor, kLT2, kLT1, kLc, kIf, kAsg, kPar, kSx2, kSx, kMut, kRs, putS_k, RV.d, Option.bind_some, Option.bind_none, Option.map_some, Option.map_none, hideS, wipeS, backS, List.map_cons, List.map_nil, List.length_cons, List.length_nil, if_true, if_false, Bool.false_eq_true, eq_self, outsOf, decide_true, decide_false, Bool.not_true, Bool.not_false, Nat.reduceAdd, Nat.reduceLT, Nat.zero_add, s_pp, s_kp, s_tp, s_kk, s_tk, len_sD] <;> rfl
theorem e_is_patch_of (b : Bool) (l : List D) (p : List Ed) (h : PaOk p) (hs : spanOf p = l.length) :
    callF T W (n+4) 7 [.val (if b then .tuple l else .list l), .val (paD p)] = some (.val (.bool true), []) := by
  rw [run_7, run_eq rfl rfl]
  obtain ⟨h1, h2, h3⟩ := h
  have i1 : ¬ (400 : Int) < (p.length : Nat) := by omega
  have i2 : (lateOf p : Int) ≤ 200 := by omega
  have i3 : (p.map edD).length ≤ sizeLine := by rw [List.length_map]; exact sz1 (by omega)
  have i4 : ((p.map lateE).sum : Int) ≤ 200 := i2
  have i5 : (((l.length : Nat) : Int) == (l.length : Nat)) = true := by simp
  cases b <;> simp -implicitDefEqProofs only [d_is_patch_of, paD, seqO_nx, seqO_ret, seqO_ct, seqO_brk, getS_z, getS_s, set_z, set_s, evB_nil, evB_cons, evS_for, evE_lc, lcTurn_k, evE_c, evE_g, evE_v, takeS_k, tkK_val, tkK_own, peekS_k, pkK_val, pkK_own, pkK_io, res_val, res_slot, sdK_val, sdK_own, sdK_io, evE_bin, evE_neg, evE_cmp, evE_isN, evE_notN, evE_and, evE_or, evE_nt, evE_ite, evE_tup, evE_lst, evE_dct, evE_ix, evE_sl, evE_call, evE_callK, evE_blt, evE_isi, evE_get2, evT_tr, evT_cmp, evT_isN, evT_notN, evT_and, evT_or, evT_nt, evTo_n, evTo_s, evP_slot, evP_ex, evPs_n, evPs_c, evL_n, evL_c, evA_n, evA_e, ioK_own, ioK_io, evA_io, evO_n, evO_e, evI_seq, evI_rng1, evI_rng2, evI_enum, evI_zip, evS_asg, evS_par, evS_setIx, evS_ex, evS_mut, evS_iF, evS_ret, evS_retS, rsK_val, rsK_own, evS_retN, evS_pass, evS_ct, evS_brk, resL_n, resL_c, kAnd_b, kOr_b, kNt_b, kO_i, kR1_i, kR22_i, evR_n, evR_c, noIo_un, noIo_val, noIo_own, of_val, of_own, chgS_k, chK_own, chK_io, heldS_k, lstS_k, lsK_own, lsK_io, putV_nm, putV_tup, putP_nm, putP_ixs, putP_tup, putPs_n, putPs_c, putN_n, putN_c, retV_s, retI_s, callD_0, callD_1, callD_2, callD_3, callD_4, ciK_own, ciK_io, callD_i1, callD_i2, forL_n, avS_v, avS_i, startS_c, startS_z, startS_u, isi_s, isi_t, isi_ll, isi_lt, isi_i, isi_ib, truD_b, len_l, len_t, max_ii, min_ii, int_i, list_l, list_t, tuple_l, tuple_t, eqD_ss, eqD_ii, c_eq, c_ne, c_lt, c_le, c_gt, c_ge, b_add, b_sub, isN_n, isN_i, ixT0, ixT1, kB1, kC1, kN, kIte, kIx, kSl, kCall, kCK2, kCK, kBlt, kG2, kG1, kG, kTr, kTC1, kTAnd, kTOr, kPs, kLs, kAs, kR2, kZ2, kZ, kFor, kLT2, kLT1, kLc, kIf, kAsg, kPar, kSx2, kSx, kMut, kRs, putS_k, RV.d, Option.bind_some, Option.bind_none, Option.map_some, Option.map_none, hideS, wipeS, backS, List.map_cons, List.map_nil, List.length_cons, List.length_nil, if_true, if_false, Bool.false_eq_true, eq_self, outsOf, decide_true, decide_false, Bool.not_true, Bool.not_false, Nat.reduceAdd, Nat.reduceLT, Nat.zero_add, i1, items_t i3, lc_any p h2, all_t, List.length_map, lc_nput, sum_fm, npu_span, hs, lc_late _ p h2, sum_m, i4, i5]
theorem e_want_lines (b : Bool) (ls : List Str) (h : ls.length ≤ 200) (hl : ∀ s ∈ ls, LnOk s) : callF T W (n+3) 8 [.val (lnD b ls)] = some (.val .none, []) := by
  rw [run_8, run_eq rfl rfl]
  simp -implicitDefEqProofs only [d_want_lines, seqO_nx, seqO_ret, seqO_ct, seqO_brk, getS_z, getS_s, set_z, set_s, evB_nil, evB_cons, evS_for, evE_lc, lcTurn_k, evE_c, evE_g, evE_v, takeS_k, tkK_val, tkK_own, peekS_k, pkK_val, pkK_own, pkK_io, res_val, res_slot, sdK_val, sdK_own, sdK_io, evE_bin, evE_neg, evE_cmp, evE_isN, evE_notN, evE_and, evE_or, evE_nt, evE_ite, evE_tup, evE_lst, evE_dct, evE_ix, evE_sl, evE_call, evE_callK, evE_blt, evE_isi, evE_get2, evT_tr, evT_cmp, evT_isN, evT_notN, evT_and, evT_or, evT_nt, evTo_n, evTo_s, evP_slot, evP_ex, evPs_n, evPs_c, evL_n, evL_c, evA_n, evA_e, ioK_own, ioK_io, evA_io, evO_n, evO_e, evI_seq, evI_rng1, evI_rng2, evI_enum, evI_zip, evS_asg, evS_par, evS_setIx, evS_ex, evS_mut, evS_iF, evS_ret, evS_retS, rsK_val, rsK_own, evS_retN, evS_pass, evS_ct, evS_brk, resL_n, resL_c, kAnd_b, kOr_b, kNt_b, kO_i, kR1_i, kR22_i, evR_n, evR_c, noIo_un, noIo_val, noIo_own, of_val, of_own, chgS_k, chK_own, chK_io, heldS_k, lstS_k, lsK_own, lsK_io, putV_nm, putV_tup, putP_nm, putP_ixs, putP_tup, putPs_n, putPs_c, putN_n, putN_c, retV_s, retI_s, callD_0, callD_1, callD_2, callD_3, callD_4, ciK_own, ciK_io, callD_i1, callD_i2, forL_n, avS_v, avS_i, startS_c, startS_z, startS_u, isi_s, isi_t, isi_ll, isi_lt, isi_i, isi_ib, truD_b, len_l, len_t, max_ii, min_ii, int_i, list_l, list_t, tuple_l, tuple_t, eqD_ss, eqD_ii, c_eq, c_ne, c_lt, c_le, c_gt, c_ge, b_add, b_sub, isN_n, isN_i, ixT0, ixT1, kB1, kC1, kN, kIte, kIx, kSl, kCall, kCK2, kCK, kBlt, kG2, kG1, kG, kTr, kTC1, kTAnd, kTOr, kPs, kLs, kAs, kR2, kZ2, kZ, kFor, kLT2, kLT1, kLc, kIf, kAsg, kPar, kSx2, kSx, kMut, kRs, putS_k, RV.d, Option.bind_some, Option.bind_none, Option.map_some, Option.map_none, hideS, wipeS, backS, List.map_cons, List.map_nil, List.length_cons, List.length_nil, if_true, if_false, Bool.false_eq_true, eq_self, outsOf, decide_true, decide_false, Bool.not_true, Bool.not_false, Nat.reduceAdd, Nat.reduceLT, Nat.zero_add, e_are_lines_any b ls h hl]
theorem ln_if (b : Bool) (ls : List Str) : lnD b ls = if b then .tuple (sD ls) else .list (sD ls) := rfl
theorem e_want_patch (b : Bool) (ls : List Str) (h : ls.length ≤ 200) (hl : ∀ s ∈ ls, LnOk s) (p : List Ed) (hp : PaOk p) (hs : spanOf p = ls.length) :
    callF T W (n+5) 9 [.val (lnD b ls), .val (paD p)] = some (.val .none, []) := by
  rw [run_9, run_eq rfl rfl]
  have e1 := e_is_patch_of (W := W) (n := n) b (sD ls) p hp (by rw [len_sD]; exact hs)
  rw [← ln_if] at e1
  simp -implicitDefEqProofs only [d_want_patch, seqO_nx, seqO_ret, seqO_ct, seqO_brk, getS_z, getS_s, set_z, set_s, evB_nil, evB_cons, evS_for, evE_lc, lcTurn_k, evE_c, evE_g, evE_v, takeS_k, tkK_val, tkK_own, peekS_k, pkK_val, pkK_own, pkK_io, res_val, res_slot, sdK_val, sdK_own, sdK_io, evE_bin, evE_neg, evE_cmp, evE_isN, evE_notN, evE_and, evE_or, evE_nt, evE_ite, evE_tup, evE_lst, evE_dct, evE_ix, evE_sl, evE_call, evE_callK, evE_blt, evE_isi, evE_get2, evT_tr, evT_cmp, evT_isN, evT_notN, evT_and, evT_or, evT_nt, evTo_n, evTo_s, evP_slot, evP_ex, evPs_n, evPs_c, evL_n, evL_c, evA_n, evA_e, ioK_own, ioK_io, evA_io, evO_n, evO_e, evI_seq, evI_rng1, evI_rng2, evI_enum, evI_zip, evS_asg, evS_par, evS_setIx, evS_ex, evS_mut, evS_iF, evS_ret, evS_retS, rsK_val, rsK_own, evS_retN, evS_pass, evS_ct, evS_brk, resL_n, resL_c, kAnd_b, kOr_b, kNt_b, kO_i, kR1_i, kR22_i, evR_n, evR_c, noIo_un, noIo_val, noIo_own, of_val, of_own, chgS_k, chK_own, chK_io, heldS_k, lstS_k, lsK_own, lsK_io, putV_nm, putV_tup, putP_nm, putP_ixs, putP_tup, putPs_n, putPs_c, putN_n, putN_c, retV_s, retI_s, callD_0, callD_1, callD_2, callD_3, callD_4, ciK_own, ciK_io, callD_i1, callD_i2, forL_n, avS_v, avS_i, startS_c, startS_z, startS_u, isi_s, isi_t, isi_ll, isi_lt, isi_i, isi_ib, truD_b, len_l, len_t, max_ii, min_ii, int_i, list_l, list_t, tuple_l, tuple_t, eqD_ss, eqD_ii, c_eq, c_ne, c_lt, c_le, c_gt, c_ge, b_add, b_sub, isN_n, isN_i, ixT0, ixT1, kB1, kC1, kN, kIte, kIx, kSl, kCall, kCK2, kCK, kBlt, kG2, kG1, kG, kTr, kTC1, kTAnd, kTOr, kPs, kLs, kAs, kR2, kZ2, kZ, kFor, kLT2, kLT1, kLc, kIf, kAsg, kPar, kSx2, kSx, kMut, kRs, putS_k, RV.d, Option.bind_some, Option.bind_none, Option.map_some, Option.map_none, hideS, wipeS, backS, List.map_cons, List.map_nil, List.length_cons, List.length_nil, if_true, if_false, Bool.false_eq_true, eq_self, outsOf, decide_true, decide_false, Bool.not_true, Bool.not_false, Nat.reduceAdd, Nat.reduceLT, Nat.zero_add, e_want_lines b ls h hl, e1]
theorem e_is_patch (b : Bool) (ls : List Str) (h : ls.length ≤ 200) (hl : ∀ s ∈ ls, LnOk s) (p : List Ed) (hp : PaOk p) (hs : spanOf p = ls.length) :
    callF T W (n+5) 15 [.val (lnD b ls), .val (paD p)] = some (.val (.bool true), []) := by
  rw [run_15, run_eq rfl rfl]
  have e1 := e_is_patch_of (W := W) (n := n) b (sD ls) p hp (by rw [len_sD]; exact hs)
  rw [← ln_if] at e1
  simp -implicitDefEqProofs only [d_is_patch, seqO_nx, seqO_ret, seqO_ct, seqO_brk, getS_z, getS_s, set_z, set_s, evB_nil, evB_cons, evS_for, evE_lc, lcTurn_k, evE_c, evE_g, evE_v, takeS_k, tkK_val, tkK_own, peekS_k, pkK_val, pkK_own, pkK_io, res_val, res_slot, sdK_val, sdK_own, sdK_io, evE_bin, evE_neg, evE_cmp, evE_isN, evE_notN, evE_and, evE_or, evE_nt, evE_ite, evE_tup, evE_lst, evE_dct, evE_ix, evE_sl, evE_call, evE_callK, evE_blt, evE_isi, evE_get2, evT_tr, evT_cmp, evT_isN, evT_notN, evT_and, evT_or, evT_nt, evTo_n, evTo_s, evP_slot, evP_ex, evPs_n, evPs_c, evL_n, evL_c, evA_n, evA_e, ioK_own, ioK_io, evA_io, evO_n, evO_e, evI_seq, evI_rng1, evI_rng2, evI_enum, evI_zip, evS_asg, evS_par, evS_setIx, evS_ex, evS_mut, evS_iF, evS_ret, evS_retS, rsK_val, rsK_own, evS_retN, evS_pass, evS_ct, evS_brk, resL_n, resL_c, kAnd_b, kOr_b, kNt_b, kO_i, kR1_i, kR22_i, evR_n, evR_c, noIo_un, noIo_val, noIo_own, of_val, of_own, chgS_k, chK_own, chK_io, heldS_k, lstS_k, lsK_own, lsK_io, putV_nm, putV_tup, putP_nm, putP_ixs, putP_tup, putPs_n, putPs_c, putN_n, putN_c, retV_s, retI_s, callD_0, callD_1, callD_2, callD_3, callD_4, ciK_own, ciK_io, callD_i1, callD_i2, forL_n, avS_v, avS_i, startS_c, startS_z, startS_u, isi_s, isi_t, isi_ll, isi_lt, isi_i, isi_ib, truD_b, len_l, len_t, max_ii, min_ii, int_i, list_l, list_t, tuple_l, tuple_t, eqD_ss, eqD_ii, c_eq, c_ne, c_lt, c_le, c_gt, c_ge, b_add, b_sub, isN_n, isN_i, ixT0, ixT1, kB1, kC1, kN, kIte, kIx, kSl, kCall, kCK2, kCK, kBlt, kG2, kG1, kG, kTr, kTC1, kTAnd, kTOr, kPs, kLs, kAs, kR2, kZ2, kZ, kFor, kLT2, kLT1, kLc, kIf, kAsg, kPar, kSx2, kSx, kMut, kRs, putS_k, RV.d, Option.bind_some, Option.bind_none, Option.map_some, Option.map_none, hideS, wipeS, backS, List.map_cons, List.map_nil, List.length_cons, List.length_nil, if_true, if_false, Bool.false_eq_true, eq_self, outsOf, decide_true, decide_false, Bool.not_true, Bool.not_false, Nat.reduceAdd, Nat.reduceLT, Nat.zero_add, e_want_lines b ls h hl, e1]
end K82

/-! V3: traces and patches of traces, as the program and the law reckon them. -/
namespace K82
open PySem PySem.Spec PyProof.Rows L2 PL
variable {W n : Nat}
def traceF (L : List Str) : List Ed → Nat → List En
  | [], _ => []
  | .put ls :: r, a => ls.map (fun s => (s, none)) ++ traceF L r a
  | .keep k :: r, a => (List.range' a k).map (fun i => (L.getD i default, some i)) ++ traceF L r (a + k)
  | .take k :: r, a => traceF L r (a + k)
theorem span_c {e : Ed} {r : List Ed} : spanOf (e :: r) = spanE e + spanOf r := by simp [spanOf]
theorem late_c {e : Ed} {r : List Ed} : lateOf (e :: r) = lateE e + lateOf r := by simp [lateOf]
theorem cost_c {e : Ed} {r : List Ed} : costOf (e :: r) = costE e + costOf r := by simp [costOf]
theorem ixL_sD {L : List Str} {i : Nat} (h : i < L.length) : ixD (.list (sD L)) (.int (i : Nat)) = some (.str (L.getD i default)) := by
  apply ixLn
  simp [sD, h]
theorem lc_news (Φ : Fn) (ls : List Str) (a b c d e f g : SD) : compE Φ (.tup [(.v 6), (.c .none)]) (.nm 6) none [6] (sD ls) [a, b, c, d, e, f, .un, g] = some (.own (.list (trD (ls.map fun s => (s, none)))), [a, b, c, d, e, f, .un, g]) := by
  have h := lc_map (Φ := Φ) (elt := .tup [(.v 6), (.c .none)]) (tg := .nm 6) (ifs := none) (vs := [6]) (ρ1 := [a, b, c, d, e, f, .un, g]) (fun s : Str => PyData.str s) (fun s => .tuple [.str s, .none]) ls (by
    intro s hs
    simp -implicitDefEqProofs only [seqO_nx, seqO_ret, seqO_ct, seqO_brk, getS_z, getS_s, set_z, set_s, evB_nil, evB_cons, evS_for, evE_lc, lcTurn_k, evE_c, evE_g, evE_v, takeS_k, tkK_val, tkK_own, peekS_k, pkK_val, pkK_own, pkK_io, res_val, res_slot, sdK_val, sdK_own, sdK_io, evE_bin, evE_neg, evE_cmp, evE_isN, evE_notN, evE_and, evE_or, evE_nt, evE_ite, evE_tup, evE_lst, evE_dct, evE_ix, evE_sl, evE_call, evE_callK, evE_blt, evE_isi, evE_get2, evT_tr, evT_cmp, evT_isN, evT_notN, evT_and, evT_or, evT_nt, evTo_n, evTo_s, evP_slot, evP_ex, evPs_n, evPs_c, evL_n, evL_c, evA_n, evA_e, ioK_own, ioK_io, evA_io, evO_n, evO_e, evI_seq, evI_rng1, evI_rng2, evI_enum, evI_zip, evS_asg, evS_par, evS_setIx, evS_ex, evS_mut, evS_iF, evS_ret, evS_retS, rsK_val, rsK_own, evS_retN, evS_pass, evS_ct, evS_brk, resL_n, resL_c, kAnd_b, kOr_b, kNt_b, kO_i, kR1_i, kR22_i, evR_n, evR_c, noIo_un, noIo_val, noIo_own, of_val, of_own, chgS_k, chK_own, chK_io, heldS_k, lstS_k, lsK_own, lsK_io, putV_nm, putV_tup, putP_nm, putP_ixs, putP_tup, putPs_n, putPs_c, putN_n, putN_c, retV_s, retI_s, callD_0, callD_1, callD_2, callD_3, callD_4, ciK_own, ciK_io, callD_i1, callD_i2, forL_n, avS_v, avS_i, startS_c, startS_z, startS_u, isi_s, isi_t, isi_ll, isi_lt, isi_i, isi_ib, truD_b, len_l, len_t, max_ii, min_ii, int_i, list_l, list_t, tuple_l, tuple_t, eqD_ss, eqD_ii, c_eq, c_ne, c_lt, c_le, c_gt, c_ge, b_add, b_sub, isN_n, isN_i, ixT0, ixT1, kB1, kC1, kN, kIte, kIx, kSl, kCall, kCK2, kCK, kBlt, kG2, kG1, kG, kTr, kTC1, kTAnd, kTOr, kPs, kLs, kAs, kR2, kZ2, kZ, kFor, kLT2, kLT1, kLc, kIf, kAsg, kPar, kSx2, kSx, kMut, kRs, putS_k, RV.d, Option.bind_some, Option.bind_none, Option.map_some, Option.map_none, hideS, wipeS, backS, List.map_cons, List.map_nil, List.length_cons, List.length_nil, if_true, if_false, Bool.false_eq_true, eq_self, outsOf, decide_true, decide_false, Bool.not_true, Bool.not_false, Nat.reduceAdd, Nat.reduceLT, Nat.zero_add, kTup2])
  simp only [sD, trD, List.map_map]; exact h
theorem lc_olds (Φ : Fn) (L : List Str) (k at_ : Nat) (hk : at_ + k ≤ L.length) (b c d e f g : SD) : compE Φ (.tup [(.ix (.slot 0) (.v 7)), (.v 7)]) (.nm 7) none [7] (rangeD (at_ : Int) k) [.val (.list (sD L)), b, c, d, e, f, g, .un] = some (.own (.list (trD ((List.range' at_ k).map fun i => (L.getD i default, some i)))), [.val (.list (sD L)), b, c, d, e, f, g, .un]) := by
  have h := lc_map (Φ := Φ) (elt := .tup [(.ix (.slot 0) (.v 7)), (.v 7)]) (tg := .nm 7) (ifs := none) (vs := [7]) (ρ1 := [.val (.list (sD L)), b, c, d, e, f, g, .un]) (fun i : Nat => PyData.int (i : Nat)) (fun i => .tuple [.str (L.getD i default), .int (i : Nat)]) (List.range' at_ k) (by
    intro i hi
    have hi2 : i < L.length := by have := List.mem_range'_1.mp hi; omega
    simp -implicitDefEqProofs only [seqO_nx, seqO_ret, seqO_ct, seqO_brk, getS_z, getS_s, set_z, set_s, evB_nil, evB_cons, evS_for, evE_lc, lcTurn_k, evE_c, evE_g, evE_v, takeS_k, tkK_val, tkK_own, peekS_k, pkK_val, pkK_own, pkK_io, res_val, res_slot, sdK_val, sdK_own, sdK_io, evE_bin, evE_neg, evE_cmp, evE_isN, evE_notN, evE_and, evE_or, evE_nt, evE_ite, evE_tup, evE_lst, evE_dct, evE_ix, evE_sl, evE_call, evE_callK, evE_blt, evE_isi, evE_get2, evT_tr, evT_cmp, evT_isN, evT_notN, evT_and, evT_or, evT_nt, evTo_n, evTo_s, evP_slot, evP_ex, evPs_n, evPs_c, evL_n, evL_c, evA_n, evA_e, ioK_own, ioK_io, evA_io, evO_n, evO_e, evI_seq, evI_rng1, evI_rng2, evI_enum, evI_zip, evS_asg, evS_par, evS_setIx, evS_ex, evS_mut, evS_iF, evS_ret, evS_retS, rsK_val, rsK_own, evS_retN, evS_pass, evS_ct, evS_brk, resL_n, resL_c, kAnd_b, kOr_b, kNt_b, kO_i, kR1_i, kR22_i, evR_n, evR_c, noIo_un, noIo_val, noIo_own, of_val, of_own, chgS_k, chK_own, chK_io, heldS_k, lstS_k, lsK_own, lsK_io, putV_nm, putV_tup, putP_nm, putP_ixs, putP_tup, putPs_n, putPs_c, putN_n, putN_c, retV_s, retI_s, callD_0, callD_1, callD_2, callD_3, callD_4, ciK_own, ciK_io, callD_i1, callD_i2, forL_n, avS_v, avS_i, startS_c, startS_z, startS_u, isi_s, isi_t, isi_ll, isi_lt, isi_i, isi_ib, truD_b, len_l, len_t, max_ii, min_ii, int_i, list_l, list_t, tuple_l, tuple_t, eqD_ss, eqD_ii, c_eq, c_ne, c_lt, c_le, c_gt, c_ge, b_add, b_sub, isN_n, isN_i, ixT0, ixT1, kB1, kC1, kN, kIte, kIx, kSl, kCall, kCK2, kCK, kBlt, kG2, kG1, kG, kTr, kTC1, kTAnd, kTOr, kPs, kLs, kAs, kR2, kZ2, kZ, kFor, kLT2, kLT1, kLc, kIf, kAsg, kPar, kSx2, kSx, kMut, kRs, putS_k, RV.d, Option.bind_some, Option.bind_none, Option.map_some, Option.map_none, hideS, wipeS, backS, List.map_cons, List.map_nil, List.length_cons, List.length_nil, if_true, if_false, Bool.false_eq_true, eq_self, outsOf, decide_true, decide_false, Bool.not_true, Bool.not_false, Nat.reduceAdd, Nat.reduceLT, Nat.zero_add, kTup2, ixL_sD hi2])
  rw [rangeD_eq]; simp only [trD, List.map_map]; exact h
theorem trD_app {a b : List En} : trD (a ++ b) = trD a ++ trD b := by simp [trD]
theorem rng_ok {a k : Nat} (h : a + k ≤ 2000) : (-(2 ^ 61) ≤ (a : Int) ∧ (a : Int) < 2 ^ 61 ∧ -(2 ^ 61) ≤ (a : Int) + k ∧ (a : Int) + k < 2 ^ 61 ∧ (a : Int) + k - a ≤ 16777216) = True := by
  simp only [eq_iff_iff, iff_true]; omega
theorem rng_len {a k : Nat} : ((a : Int) + k - a).toNat = k := by omega
theorem st_put (Φ : Fn) (L : List Str) (P : SD) (ls : List Str) (acc : List D) (a : Nat) (s4 s5 : SD) (h4 : noIo s4 = true) (h5 : noIo s5 = true) (hsz : acc.length + (trD (ls.map fun s => (s, none))).length ≤ sizeLine) (hl : ls.length ≤ sizeLine) :
    (putP (.tup [(.nm 4), (.nm 5)]) (edD (.put ls)) [.val (.list (sD L)), P, .own (.list acc), .val (.int (a : Nat)), s4, s5, .un, .un]).bind (evB Φ W b_trace_of_0)
      = some (.ct [.val (.list (sD L)), P, .own (.list (acc ++ trD (ls.map fun s => (s, none)))), .val (.int (a : Nat)), .val (.str "put"), .val (.tuple (sD ls)), .un, .un]) := by
  simp -implicitDefEqProofs only [edD, b_trace_of_0, seqO_nx, seqO_ret, seqO_ct, seqO_brk, getS_z, getS_s, set_z, set_s, evB_nil, evB_cons, evS_for, evE_lc, lcTurn_k, evE_c, evE_g, evE_v, takeS_k, tkK_val, tkK_own, peekS_k, pkK_val, pkK_own, pkK_io, res_val, res_slot, sdK_val, sdK_own, sdK_io, evE_bin, evE_neg, evE_cmp, evE_isN, evE_notN, evE_and, evE_or, evE_nt, evE_ite, evE_tup, evE_lst, evE_dct, evE_ix, evE_sl, evE_call, evE_callK, evE_blt, evE_isi, evE_get2, evT_tr, evT_cmp, evT_isN, evT_notN, evT_and, evT_or, evT_nt, evTo_n, evTo_s, evP_slot, evP_ex, evPs_n, evPs_c, evL_n, evL_c, evA_n, evA_e, ioK_own, ioK_io, evA_io, evO_n, evO_e, evI_seq, evI_rng1, evI_rng2, evI_enum, evI_zip, evS_asg, evS_par, evS_setIx, evS_ex, evS_mut, evS_iF, evS_ret, evS_retS, rsK_val, rsK_own, evS_retN, evS_pass, evS_ct, evS_brk, resL_n, resL_c, kAnd_b, kOr_b, kNt_b, kO_i, kR1_i, kR22_i, evR_n, evR_c, noIo_un, noIo_val, noIo_own, of_val, of_own, chgS_k, chK_own, chK_io, heldS_k, lstS_k, lsK_own, lsK_io, putV_nm, putV_tup, putP_nm, putP_ixs, putP_tup, putPs_n, putPs_c, putN_n, putN_c, retV_s, retI_s, callD_0, callD_1, callD_2, callD_3, callD_4, ciK_own, ciK_io, callD_i1, callD_i2, forL_n, avS_v, avS_i, startS_c, startS_z, startS_u, isi_s, isi_t, isi_ll, isi_lt, isi_i, isi_ib, truD_b, len_l, len_t, max_ii, min_ii, int_i, list_l, list_t, tuple_l, tuple_t, eqD_ss, eqD_ii, c_eq, c_ne, c_lt, c_le, c_gt, c_ge, b_add, b_sub, isN_n, isN_i, ixT0, ixT1, kB1, kC1, kN, kIte, kIx, kSl, kCall, kCK2, kCK, kBlt, kG2, kG1, kG, kTr, kTC1, kTAnd, kTOr, kPs, kLs, kAs, kR2, kZ2, kZ, kFor, kLT2, kLT1, kLc, kIf, kAsg, kPar, kSx2, kSx, kMut, kRs, putS_k, RV.d, Option.bind_some, Option.bind_none, Option.map_some, Option.map_none, hideS, wipeS, backS, List.map_cons, List.map_nil, List.length_cons, List.length_nil, if_true, if_false, Bool.false_eq_true, eq_self, outsOf, decide_true, decide_false, Bool.not_true, Bool.not_false, Nat.reduceAdd, Nat.reduceLT, Nat.zero_add, h4, h5, s_pp, items_t (l := sD ls) (by rw [len_sD]; exact hl), lc_news, mut_e hsz]
theorem st_keep (Φ : Fn) (L : List Str) (P : SD) (k : Nat) (acc : List D) (a : Nat) (s4 s5 : SD) (h4 : noIo s4 = true) (h5 : noIo s5 = true) (hL : L.length ≤ 2000) (hk : a + k ≤ L.length) (hsz : acc.length + (trD ((List.range' a k).map fun i => (L.getD i default, some i))).length ≤ sizeLine) :
    (putP (.tup [(.nm 4), (.nm 5)]) (edD (.keep k)) [.val (.list (sD L)), P, .own (.list acc), .val (.int (a : Nat)), s4, s5, .un, .un]).bind (evB Φ W b_trace_of_0)
      = some (.nx [.val (.list (sD L)), P, .own (.list (acc ++ trD ((List.range' a k).map fun i => (L.getD i default, some i)))), .val (.int ((a : Int) + k)), .val (.str "keep"), .val (.int (k : Nat)), .un, .un]) := by
  simp -implicitDefEqProofs only [edD, b_trace_of_0, seqO_nx, seqO_ret, seqO_ct, seqO_brk, getS_z, getS_s, set_z, set_s, evB_nil, evB_cons, evS_for, evE_lc, lcTurn_k, evE_c, evE_g, evE_v, takeS_k, tkK_val, tkK_own, peekS_k, pkK_val, pkK_own, pkK_io, res_val, res_slot, sdK_val, sdK_own, sdK_io, evE_bin, evE_neg, evE_cmp, evE_isN, evE_notN, evE_and, evE_or, evE_nt, evE_ite, evE_tup, evE_lst, evE_dct, evE_ix, evE_sl, evE_call, evE_callK, evE_blt, evE_isi, evE_get2, evT_tr, evT_cmp, evT_isN, evT_notN, evT_and, evT_or, evT_nt, evTo_n, evTo_s, evP_slot, evP_ex, evPs_n, evPs_c, evL_n, evL_c, evA_n, evA_e, ioK_own, ioK_io, evA_io, evO_n, evO_e, evI_seq, evI_rng1, evI_rng2, evI_enum, evI_zip, evS_asg, evS_par, evS_setIx, evS_ex, evS_mut, evS_iF, evS_ret, evS_retS, rsK_val, rsK_own, evS_retN, evS_pass, evS_ct, evS_brk, resL_n, resL_c, kAnd_b, kOr_b, kNt_b, kO_i, kR1_i, kR22_i, evR_n, evR_c, noIo_un, noIo_val, noIo_own, of_val, of_own, chgS_k, chK_own, chK_io, heldS_k, lstS_k, lsK_own, lsK_io, putV_nm, putV_tup, putP_nm, putP_ixs, putP_tup, putPs_n, putPs_c, putN_n, putN_c, retV_s, retI_s, callD_0, callD_1, callD_2, callD_3, callD_4, ciK_own, ciK_io, callD_i1, callD_i2, forL_n, avS_v, avS_i, startS_c, startS_z, startS_u, isi_s, isi_t, isi_ll, isi_lt, isi_i, isi_ib, truD_b, len_l, len_t, max_ii, min_ii, int_i, list_l, list_t, tuple_l, tuple_t, eqD_ss, eqD_ii, c_eq, c_ne, c_lt, c_le, c_gt, c_ge, b_add, b_sub, isN_n, isN_i, ixT0, ixT1, kB1, kC1, kN, kIte, kIx, kSl, kCall, kCK2, kCK, kBlt, kG2, kG1, kG, kTr, kTC1, kTAnd, kTOr, kPs, kLs, kAs, kR2, kZ2, kZ, kFor, kLT2, kLT1, kLc, kIf, kAsg, kPar, kSx2, kSx, kMut, kRs, putS_k, RV.d, Option.bind_some, Option.bind_none, Option.map_some, Option.map_none, hideS, wipeS, backS, List.map_cons, List.map_nil, List.length_cons, List.length_nil, if_true, if_false, Bool.false_eq_true, eq_self, outsOf, decide_true, decide_false, Bool.not_true, Bool.not_false, Nat.reduceAdd, Nat.reduceLT, Nat.zero_add, h4, h5, s_kp, s_kk, rng_ok (a := a) (k := k) (by omega), rng_len, lc_olds Φ L k a hk, mut_e hsz]
theorem st_take (Φ : Fn) (L : List Str) (P : SD) (k : Nat) (acc : List D) (a : Nat) (s4 s5 : SD) (h4 : noIo s4 = true) (h5 : noIo s5 = true) :
    (putP (.tup [(.nm 4), (.nm 5)]) (edD (.take k)) [.val (.list (sD L)), P, .own (.list acc), .val (.int (a : Nat)), s4, s5, .un, .un]).bind (evB Φ W b_trace_of_0)
      = some (.nx [.val (.list (sD L)), P, .own (.list acc), .val (.int ((a : Int) + k)), .val (.str "take"), .val (.int (k : Nat)), .un, .un]) := by
  simp -implicitDefEqProofs only [edD, b_trace_of_0, seqO_nx, seqO_ret, seqO_ct, seqO_brk, getS_z, getS_s, set_z, set_s, evB_nil, evB_cons, evS_for, evE_lc, lcTurn_k, evE_c, evE_g, evE_v, takeS_k, tkK_val, tkK_own, peekS_k, pkK_val, pkK_own, pkK_io, res_val, res_slot, sdK_val, sdK_own, sdK_io, evE_bin, evE_neg, evE_cmp, evE_isN, evE_notN, evE_and, evE_or, evE_nt, evE_ite, evE_tup, evE_lst, evE_dct, evE_ix, evE_sl, evE_call, evE_callK, evE_blt, evE_isi, evE_get2, evT_tr, evT_cmp, evT_isN, evT_notN, evT_and, evT_or, evT_nt, evTo_n, evTo_s, evP_slot, evP_ex, evPs_n, evPs_c, evL_n, evL_c, evA_n, evA_e, ioK_own, ioK_io, evA_io, evO_n, evO_e, evI_seq, evI_rng1, evI_rng2, evI_enum, evI_zip, evS_asg, evS_par, evS_setIx, evS_ex, evS_mut, evS_iF, evS_ret, evS_retS, rsK_val, rsK_own, evS_retN, evS_pass, evS_ct, evS_brk, resL_n, resL_c, kAnd_b, kOr_b, kNt_b, kO_i, kR1_i, kR22_i, evR_n, evR_c, noIo_un, noIo_val, noIo_own, of_val, of_own, chgS_k, chK_own, chK_io, heldS_k, lstS_k, lsK_own, lsK_io, putV_nm, putV_tup, putP_nm, putP_ixs, putP_tup, putPs_n, putPs_c, putN_n, putN_c, retV_s, retI_s, callD_0, callD_1, callD_2, callD_3, callD_4, ciK_own, ciK_io, callD_i1, callD_i2, forL_n, avS_v, avS_i, startS_c, startS_z, startS_u, isi_s, isi_t, isi_ll, isi_lt, isi_i, isi_ib, truD_b, len_l, len_t, max_ii, min_ii, int_i, list_l, list_t, tuple_l, tuple_t, eqD_ss, eqD_ii, c_eq, c_ne, c_lt, c_le, c_gt, c_ge, b_add, b_sub, isN_n, isN_i, ixT0, ixT1, kB1, kC1, kN, kIte, kIx, kSl, kCall, kCK2, kCK, kBlt, kG2, kG1, kG, kTr, kTC1, kTAnd, kTOr, kPs, kLs, kAs, kR2, kZ2, kZ, kFor, kLT2, kLT1, kLc, kIf, kAsg, kPar, kSx2, kSx, kMut, kRs, putS_k, RV.d, Option.bind_some, Option.bind_none, Option.map_some, Option.map_none, hideS, wipeS, backS, List.map_cons, List.map_nil, List.length_cons, List.length_nil, if_true, if_false, Bool.false_eq_true, eq_self, outsOf, decide_true, decide_false, Bool.not_true, Bool.not_false, Nat.reduceAdd, Nat.reduceLT, Nat.zero_add, h4, h5, s_tp, s_tk]
theorem loop_trace (Φ : Fn) (L : List Str) (hL : L.length ≤ 2000) (P : SD) : ∀ (p : List Ed) (acc : List D) (a : Nat) (s4 s5 : SD), noIo s4 = true → noIo s5 = true → a + spanOf p ≤ L.length → acc.length + lateOf p ≤ 1000000 →
    ∃ t4 t5, forL (.tup [(.nm 4), (.nm 5)]) (evB Φ W b_trace_of_0) (p.map edD) [.val (.list (sD L)), P, .own (.list acc), .val (.int (a : Nat)), s4, s5, .un, .un]
      = some (.nx [.val (.list (sD L)), P, .own (.list (acc ++ trD (traceF L p a))), .val (.int ((a + spanOf p : Nat) : Int)), t4, t5, .un, .un]) := by
  intro p
  induction p with
  | nil => intro acc a s4 s5 h4 h5 _ _; exact ⟨s4, s5, by simp only [List.map_nil, forL_n, traceF, trD, spanOf, List.append_nil, List.sum_nil, Nat.add_zero]⟩
  | cons e r ih =>
    intro acc a s4 s5 h4 h5 hs hl
    rw [span_c] at hs ⊢
    rw [late_c] at hl
    cases e with
    | put ls =>
      simp only [spanE, lateE] at hs hl ⊢
      obtain ⟨t4, t5, h⟩ := ih (acc ++ trD (ls.map fun s => (s, none))) a _ _ noIo_val noIo_val (by omega) (by rw [List.length_append, len_trD, List.length_map]; omega)
      refine ⟨t4, t5, ?_⟩
      rw [List.map_cons, forL_ct (st_put Φ L P ls acc a s4 s5 h4 h5 (sz1 (by rw [len_trD, List.length_map]; omega)) (sz1 (by omega))), h, traceF, trD_app, List.append_assoc, Nat.zero_add]
    | keep k =>
      simp only [spanE, lateE] at hs hl ⊢
      have hst := st_keep (W := W) Φ L P k acc a s4 s5 h4 h5 hL (by omega) (sz1 (by rw [len_trD, List.length_map, List.length_range']; omega))
      obtain ⟨t4, t5, h⟩ := ih (acc ++ trD ((List.range' a k).map fun i => (L.getD i default, some i))) (a + k) _ _ noIo_val noIo_val (by omega) (by rw [List.length_append, len_trD, List.length_map, List.length_range']; omega)
      refine ⟨t4, t5, ?_⟩
      rw [← Int.natCast_add] at hst
      rw [List.map_cons, forL_nx hst, h, traceF, trD_app, List.append_assoc, Nat.add_assoc]
    | take k =>
      simp only [spanE, lateE] at hs hl ⊢
      have hst := st_take (W := W) Φ L P k acc a s4 s5 h4 h5
      obtain ⟨t4, t5, h⟩ := ih acc (a + k) _ _ noIo_val noIo_val (by omega) (by omega)
      refine ⟨t4, t5, ?_⟩
      rw [← Int.natCast_add] at hst
      rw [List.map_cons, forL_nx hst, h, traceF, Nat.add_assoc]
theorem e_trace_of (L : List Str) (hL : L.length ≤ 2000) (p : List Ed) (hp : p.length ≤ 100000) (hs : spanOf p ≤ L.length) (hl : lateOf p ≤ 1000000) :
    callF T W (n+1) 10 [.val (.list (sD L)), .val (paD p)] = some (.own (.list (trD (traceF L p 0))), []) := by
  rw [run_10, run_eq rfl rfl]
  obtain ⟨t4, t5, h⟩ := loop_trace (W := W) (callF T W n) L hL (.val (paD p)) p [] 0 .un .un rfl rfl (by omega) (by simpa using hl)
  have i3 : (p.map edD).length ≤ sizeLine := by rw [List.length_map]; exact sz1 (by omega)
  simp only [Int.ofNat_zero, List.nil_append, Int.cast_ofNat_Int] at h
  simp -implicitDefEqProofs only [d_trace_of, seqO_nx, seqO_ret, seqO_ct, seqO_brk, getS_z, getS_s, set_z, set_s, evB_nil, evB_cons, evS_for, evE_lc, lcTurn_k, evE_c, evE_g, evE_v, takeS_k, tkK_val, tkK_own, peekS_k, pkK_val, pkK_own, pkK_io, res_val, res_slot, sdK_val, sdK_own, sdK_io, evE_bin, evE_neg, evE_cmp, evE_isN, evE_notN, evE_and, evE_or, evE_nt, evE_ite, evE_tup, evE_lst, evE_dct, evE_ix, evE_sl, evE_call, evE_callK, evE_blt, evE_isi, evE_get2, evT_tr, evT_cmp, evT_isN, evT_notN, evT_and, evT_or, evT_nt, evTo_n, evTo_s, evP_slot, evP_ex, evPs_n, evPs_c, evL_n, evL_c, evA_n, evA_e, ioK_own, ioK_io, evA_io, evO_n, evO_e, evI_seq, evI_rng1, evI_rng2, evI_enum, evI_zip, evS_asg, evS_par, evS_setIx, evS_ex, evS_mut, evS_iF, evS_ret, evS_retS, rsK_val, rsK_own, evS_retN, evS_pass, evS_ct, evS_brk, resL_n, resL_c, kAnd_b, kOr_b, kNt_b, kO_i, kR1_i, kR22_i, evR_n, evR_c, noIo_un, noIo_val, noIo_own, of_val, of_own, chgS_k, chK_own, chK_io, heldS_k, lstS_k, lsK_own, lsK_io, putV_nm, putV_tup, putP_nm, putP_ixs, putP_tup, putPs_n, putPs_c, putN_n, putN_c, retV_s, retI_s, callD_0, callD_1, callD_2, callD_3, callD_4, ciK_own, ciK_io, callD_i1, callD_i2, forL_n, avS_v, avS_i, startS_c, startS_z, startS_u, isi_s, isi_t, isi_ll, isi_lt, isi_i, isi_ib, truD_b, len_l, len_t, max_ii, min_ii, int_i, list_l, list_t, tuple_l, tuple_t, eqD_ss, eqD_ii, c_eq, c_ne, c_lt, c_le, c_gt, c_ge, b_add, b_sub, isN_n, isN_i, ixT0, ixT1, kB1, kC1, kN, kIte, kIx, kSl, kCall, kCK2, kCK, kBlt, kG2, kG1, kG, kTr, kTC1, kTAnd, kTOr, kPs, kLs, kAs, kR2, kZ2, kZ, kFor, kLT2, kLT1, kLc, kIf, kAsg, kPar, kSx2, kSx, kMut, kRs, putS_k, RV.d, Option.bind_some, Option.bind_none, Option.map_some, Option.map_none, hideS, wipeS, backS, List.map_cons, List.map_nil, List.length_cons, List.length_nil, if_true, if_false, Bool.false_eq_true, eq_self, outsOf, decide_true, decide_false, Bool.not_true, Bool.not_false, Nat.reduceAdd, Nat.reduceLT, Nat.zero_add, kLst0]
  simp only [paD] at h ⊢
  simp -implicitDefEqProofs only [items_t i3, seqO_nx, seqO_ret, seqO_ct, seqO_brk, getS_z, getS_s, set_z, set_s, evB_nil, evB_cons, evS_for, evE_lc, lcTurn_k, evE_c, evE_g, evE_v, takeS_k, tkK_val, tkK_own, peekS_k, pkK_val, pkK_own, pkK_io, res_val, res_slot, sdK_val, sdK_own, sdK_io, evE_bin, evE_neg, evE_cmp, evE_isN, evE_notN, evE_and, evE_or, evE_nt, evE_ite, evE_tup, evE_lst, evE_dct, evE_ix, evE_sl, evE_call, evE_callK, evE_blt, evE_isi, evE_get2, evT_tr, evT_cmp, evT_isN, evT_notN, evT_and, evT_or, evT_nt, evTo_n, evTo_s, evP_slot, evP_ex, evPs_n, evPs_c, evL_n, evL_c, evA_n, evA_e, ioK_own, ioK_io, evA_io, evO_n, evO_e, evI_seq, evI_rng1, evI_rng2, evI_enum, evI_zip, evS_asg, evS_par, evS_setIx, evS_ex, evS_mut, evS_iF, evS_ret, evS_retS, rsK_val, rsK_own, evS_retN, evS_pass, evS_ct, evS_brk, resL_n, resL_c, kAnd_b, kOr_b, kNt_b, kO_i, kR1_i, kR22_i, evR_n, evR_c, noIo_un, noIo_val, noIo_own, of_val, of_own, chgS_k, chK_own, chK_io, heldS_k, lstS_k, lsK_own, lsK_io, putV_nm, putV_tup, putP_nm, putP_ixs, putP_tup, putPs_n, putPs_c, putN_n, putN_c, retV_s, retI_s, callD_0, callD_1, callD_2, callD_3, callD_4, ciK_own, ciK_io, callD_i1, callD_i2, forL_n, avS_v, avS_i, startS_c, startS_z, startS_u, isi_s, isi_t, isi_ll, isi_lt, isi_i, isi_ib, truD_b, len_l, len_t, max_ii, min_ii, int_i, list_l, list_t, tuple_l, tuple_t, eqD_ss, eqD_ii, c_eq, c_ne, c_lt, c_le, c_gt, c_ge, b_add, b_sub, isN_n, isN_i, ixT0, ixT1, kB1, kC1, kN, kIte, kIx, kSl, kCall, kCK2, kCK, kBlt, kG2, kG1, kG, kTr, kTC1, kTAnd, kTOr, kPs, kLs, kAs, kR2, kZ2, kZ, kFor, kLT2, kLT1, kLc, kIf, kAsg, kPar, kSx2, kSx, kMut, kRs, putS_k, RV.d, Option.bind_some, Option.bind_none, Option.map_some, Option.map_none, hideS, wipeS, backS, List.map_cons, List.map_nil, List.length_cons, List.length_nil, if_true, if_false, Bool.false_eq_true, eq_self, outsOf, decide_true, decide_false, Bool.not_true, Bool.not_false, Nat.reduceAdd, Nat.reduceLT, Nat.zero_add, h]
/-! ### the law's own trace -/
theorem sl_put (Φ : Fn) (L : List Str) (P : SD) (ls : List Str) (acc : List D) (a : Nat) (s4 s5 : SD) (h4 : noIo s4 = true) (h5 : noIo s5 = true) (hsz : acc.length + (trD (ls.map fun s => (s, none))).length ≤ sizeLine) (hl : ls.length ≤ sizeLine) :
    (putP (.tup [(.nm 4), (.nm 5)]) (edD (.put ls)) [.val (.list (sD L)), P, .own (.list acc), .val (.int (a : Nat)), s4, s5, .un, .un]).bind (evB Φ W b__law_trace_0)
      = some (.nx [.val (.list (sD L)), P, .own (.list (acc ++ trD (ls.map fun s => (s, none)))), .val (.int (a : Nat)), .val (.str "put"), .val (.tuple (sD ls)), .un, .un]) := by
  simp -implicitDefEqProofs only [edD, b__law_trace_0, seqO_nx, seqO_ret, seqO_ct, seqO_brk, getS_z, getS_s, set_z, set_s, evB_nil, evB_cons, evS_for, evE_lc, lcTurn_k, evE_c, evE_g, evE_v, takeS_k, tkK_val, tkK_own, peekS_k, pkK_val, pkK_own, pkK_io, res_val, res_slot, sdK_val, sdK_own, sdK_io, evE_bin, evE_neg, evE_cmp, evE_isN, evE_notN, evE_and, evE_or, evE_nt, evE_ite, evE_tup, evE_lst, evE_dct, evE_ix, evE_sl, evE_call, evE_callK, evE_blt, evE_isi, evE_get2, evT_tr, evT_cmp, evT_isN, evT_notN, evT_and, evT_or, evT_nt, evTo_n, evTo_s, evP_slot, evP_ex, evPs_n, evPs_c, evL_n, evL_c, evA_n, evA_e, ioK_own, ioK_io, evA_io, evO_n, evO_e, evI_seq, evI_rng1, evI_rng2, evI_enum, evI_zip, evS_asg, evS_par, evS_setIx, evS_ex, evS_mut, evS_iF, evS_ret, evS_retS, rsK_val, rsK_own, evS_retN, evS_pass, evS_ct, evS_brk, resL_n, resL_c, kAnd_b, kOr_b, kNt_b, kO_i, kR1_i, kR22_i, evR_n, evR_c, noIo_un, noIo_val, noIo_own, of_val, of_own, chgS_k, chK_own, chK_io, heldS_k, lstS_k, lsK_own, lsK_io, putV_nm, putV_tup, putP_nm, putP_ixs, putP_tup, putPs_n, putPs_c, putN_n, putN_c, retV_s, retI_s, callD_0, callD_1, callD_2, callD_3, callD_4, ciK_own, ciK_io, callD_i1, callD_i2, forL_n, avS_v, avS_i, startS_c, startS_z, startS_u, isi_s, isi_t, isi_ll, isi_lt, isi_i, isi_ib, truD_b, len_l, len_t, max_ii, min_ii, int_i, list_l, list_t, tuple_l, tuple_t, eqD_ss, eqD_ii, c_eq, c_ne, c_lt, c_le, c_gt, c_ge, b_add, b_sub, isN_n, isN_i, ixT0, ixT1, kB1, kC1, kN, kIte, kIx, kSl, kCall, kCK2, kCK, kBlt, kG2, kG1, kG, kTr, kTC1, kTAnd, kTOr, kPs, kLs, kAs, kR2, kZ2, kZ, kFor, kLT2, kLT1, kLc, kIf, kAsg, kPar, kSx2, kSx, kMut, kRs, putS_k, RV.d, Option.bind_some, Option.bind_none, Option.map_some, Option.map_none, hideS, wipeS, backS, List.map_cons, List.map_nil, List.length_cons, List.length_nil, if_true, if_false, Bool.false_eq_true, eq_self, outsOf, decide_true, decide_false, Bool.not_true, Bool.not_false, Nat.reduceAdd, Nat.reduceLT, Nat.zero_add, h4, h5, s_pp, items_t (l := sD ls) (by rw [len_sD]; exact hl), lc_news, mut_e hsz]
theorem sl_keep (Φ : Fn) (L : List Str) (P : SD) (k : Nat) (acc : List D) (a : Nat) (s4 s5 : SD) (h4 : noIo s4 = true) (h5 : noIo s5 = true) (hL : L.length ≤ 2000) (hk : a + k ≤ L.length) (hsz : acc.length + (trD ((List.range' a k).map fun i => (L.getD i default, some i))).length ≤ sizeLine) :
    (putP (.tup [(.nm 4), (.nm 5)]) (edD (.keep k)) [.val (.list (sD L)), P, .own (.list acc), .val (.int (a : Nat)), s4, s5, .un, .un]).bind (evB Φ W b__law_trace_0)
      = some (.nx [.val (.list (sD L)), P, .own (.list (acc ++ trD ((List.range' a k).map fun i => (L.getD i default, some i)))), .val (.int ((a : Int) + k)), .val (.str "keep"), .val (.int (k : Nat)), .un, .un]) := by
  simp -implicitDefEqProofs only [edD, b__law_trace_0, seqO_nx, seqO_ret, seqO_ct, seqO_brk, getS_z, getS_s, set_z, set_s, evB_nil, evB_cons, evS_for, evE_lc, lcTurn_k, evE_c, evE_g, evE_v, takeS_k, tkK_val, tkK_own, peekS_k, pkK_val, pkK_own, pkK_io, res_val, res_slot, sdK_val, sdK_own, sdK_io, evE_bin, evE_neg, evE_cmp, evE_isN, evE_notN, evE_and, evE_or, evE_nt, evE_ite, evE_tup, evE_lst, evE_dct, evE_ix, evE_sl, evE_call, evE_callK, evE_blt, evE_isi, evE_get2, evT_tr, evT_cmp, evT_isN, evT_notN, evT_and, evT_or, evT_nt, evTo_n, evTo_s, evP_slot, evP_ex, evPs_n, evPs_c, evL_n, evL_c, evA_n, evA_e, ioK_own, ioK_io, evA_io, evO_n, evO_e, evI_seq, evI_rng1, evI_rng2, evI_enum, evI_zip, evS_asg, evS_par, evS_setIx, evS_ex, evS_mut, evS_iF, evS_ret, evS_retS, rsK_val, rsK_own, evS_retN, evS_pass, evS_ct, evS_brk, resL_n, resL_c, kAnd_b, kOr_b, kNt_b, kO_i, kR1_i, kR22_i, evR_n, evR_c, noIo_un, noIo_val, noIo_own, of_val, of_own, chgS_k, chK_own, chK_io, heldS_k, lstS_k, lsK_own, lsK_io, putV_nm, putV_tup, putP_nm, putP_ixs, putP_tup, putPs_n, putPs_c, putN_n, putN_c, retV_s, retI_s, callD_0, callD_1, callD_2, callD_3, callD_4, ciK_own, ciK_io, callD_i1, callD_i2, forL_n, avS_v, avS_i, startS_c, startS_z, startS_u, isi_s, isi_t, isi_ll, isi_lt, isi_i, isi_ib, truD_b, len_l, len_t, max_ii, min_ii, int_i, list_l, list_t, tuple_l, tuple_t, eqD_ss, eqD_ii, c_eq, c_ne, c_lt, c_le, c_gt, c_ge, b_add, b_sub, isN_n, isN_i, ixT0, ixT1, kB1, kC1, kN, kIte, kIx, kSl, kCall, kCK2, kCK, kBlt, kG2, kG1, kG, kTr, kTC1, kTAnd, kTOr, kPs, kLs, kAs, kR2, kZ2, kZ, kFor, kLT2, kLT1, kLc, kIf, kAsg, kPar, kSx2, kSx, kMut, kRs, putS_k, RV.d, Option.bind_some, Option.bind_none, Option.map_some, Option.map_none, hideS, wipeS, backS, List.map_cons, List.map_nil, List.length_cons, List.length_nil, if_true, if_false, Bool.false_eq_true, eq_self, outsOf, decide_true, decide_false, Bool.not_true, Bool.not_false, Nat.reduceAdd, Nat.reduceLT, Nat.zero_add, h4, h5, s_kp, s_kk, rng_ok (a := a) (k := k) (by omega), rng_len, lc_olds Φ L k a hk, mut_e hsz]
theorem sl_take (Φ : Fn) (L : List Str) (P : SD) (k : Nat) (acc : List D) (a : Nat) (s4 s5 : SD) (h4 : noIo s4 = true) (h5 : noIo s5 = true) (hsz : acc.length ≤ sizeLine) :
    (putP (.tup [(.nm 4), (.nm 5)]) (edD (.take k)) [.val (.list (sD L)), P, .own (.list acc), .val (.int (a : Nat)), s4, s5, .un, .un]).bind (evB Φ W b__law_trace_0)
      = some (.nx [.val (.list (sD L)), P, .own (.list acc), .val (.int ((a : Int) + k)), .val (.str "take"), .val (.int (k : Nat)), .un, .un]) := by
  have hm : acc.length + ([] : List D).length ≤ sizeLine := hsz
  simp -implicitDefEqProofs only [edD, b__law_trace_0, seqO_nx, seqO_ret, seqO_ct, seqO_brk, getS_z, getS_s, set_z, set_s, evB_nil, evB_cons, evS_for, evE_lc, lcTurn_k, evE_c, evE_g, evE_v, takeS_k, tkK_val, tkK_own, peekS_k, pkK_val, pkK_own, pkK_io, res_val, res_slot, sdK_val, sdK_own, sdK_io, evE_bin, evE_neg, evE_cmp, evE_isN, evE_notN, evE_and, evE_or, evE_nt, evE_ite, evE_tup, evE_lst, evE_dct, evE_ix, evE_sl, evE_call, evE_callK, evE_blt, evE_isi, evE_get2, evT_tr, evT_cmp, evT_isN, evT_notN, evT_and, evT_or, evT_nt, evTo_n, evTo_s, evP_slot, evP_ex, evPs_n, evPs_c, evL_n, evL_c, evA_n, evA_e, ioK_own, ioK_io, evA_io, evO_n, evO_e, evI_seq, evI_rng1, evI_rng2, evI_enum, evI_zip, evS_asg, evS_par, evS_setIx, evS_ex, evS_mut, evS_iF, evS_ret, evS_retS, rsK_val, rsK_own, evS_retN, evS_pass, evS_ct, evS_brk, resL_n, resL_c, kAnd_b, kOr_b, kNt_b, kO_i, kR1_i, kR22_i, evR_n, evR_c, noIo_un, noIo_val, noIo_own, of_val, of_own, chgS_k, chK_own, chK_io, heldS_k, lstS_k, lsK_own, lsK_io, putV_nm, putV_tup, putP_nm, putP_ixs, putP_tup, putPs_n, putPs_c, putN_n, putN_c, retV_s, retI_s, callD_0, callD_1, callD_2, callD_3, callD_4, ciK_own, ciK_io, callD_i1, callD_i2, forL_n, avS_v, avS_i, startS_c, startS_z, startS_u, isi_s, isi_t, isi_ll, isi_lt, isi_i, isi_ib, truD_b, len_l, len_t, max_ii, min_ii, int_i, list_l, list_t, tuple_l, tuple_t, eqD_ss, eqD_ii, c_eq, c_ne, c_lt, c_le, c_gt, c_ge, b_add, b_sub, isN_n, isN_i, ixT0, ixT1, kB1, kC1, kN, kIte, kIx, kSl, kCall, kCK2, kCK, kBlt, kG2, kG1, kG, kTr, kTC1, kTAnd, kTOr, kPs, kLs, kAs, kR2, kZ2, kZ, kFor, kLT2, kLT1, kLc, kIf, kAsg, kPar, kSx2, kSx, kMut, kRs, putS_k, RV.d, Option.bind_some, Option.bind_none, Option.map_some, Option.map_none, hideS, wipeS, backS, List.map_cons, List.map_nil, List.length_cons, List.length_nil, if_true, if_false, Bool.false_eq_true, eq_self, outsOf, decide_true, decide_false, Bool.not_true, Bool.not_false, Nat.reduceAdd, Nat.reduceLT, Nat.zero_add, h4, h5, s_tp, s_tk, kLst0, mut_e hm, List.append_nil]
theorem loop_ltrace (Φ : Fn) (L : List Str) (hL : L.length ≤ 2000) (P : SD) : ∀ (p : List Ed) (acc : List D) (a : Nat) (s4 s5 : SD), noIo s4 = true → noIo s5 = true → a + spanOf p ≤ L.length → acc.length + lateOf p ≤ 1000000 →
    ∃ t4 t5, forL (.tup [(.nm 4), (.nm 5)]) (evB Φ W b__law_trace_0) (p.map edD) [.val (.list (sD L)), P, .own (.list acc), .val (.int (a : Nat)), s4, s5, .un, .un]
      = some (.nx [.val (.list (sD L)), P, .own (.list (acc ++ trD (traceF L p a))), .val (.int ((a + spanOf p : Nat) : Int)), t4, t5, .un, .un]) := by
  intro p
  induction p with
  | nil => intro acc a s4 s5 h4 h5 _ _; exact ⟨s4, s5, by simp only [List.map_nil, forL_n, traceF, trD, spanOf, List.append_nil, List.sum_nil, Nat.add_zero]⟩
  | cons e r ih =>
    intro acc a s4 s5 h4 h5 hs hl
    rw [span_c] at hs ⊢
    rw [late_c] at hl
    cases e with
    | put ls =>
      simp only [spanE, lateE] at hs hl ⊢
      obtain ⟨t4, t5, h⟩ := ih (acc ++ trD (ls.map fun s => (s, none))) a _ _ noIo_val noIo_val (by omega) (by rw [List.length_append, len_trD, List.length_map]; omega)
      refine ⟨t4, t5, ?_⟩
      rw [List.map_cons, forL_nx (sl_put Φ L P ls acc a s4 s5 h4 h5 (sz1 (by rw [len_trD, List.length_map]; omega)) (sz1 (by omega))), h, traceF, trD_app, List.append_assoc, Nat.zero_add]
    | keep k =>
      simp only [spanE, lateE] at hs hl ⊢
      have hst := sl_keep (W := W) Φ L P k acc a s4 s5 h4 h5 hL (by omega) (sz1 (by rw [len_trD, List.length_map, List.length_range']; omega))
      obtain ⟨t4, t5, h⟩ := ih (acc ++ trD ((List.range' a k).map fun i => (L.getD i default, some i))) (a + k) _ _ noIo_val noIo_val (by omega) (by rw [List.length_append, len_trD, List.length_map, List.length_range']; omega)
      refine ⟨t4, t5, ?_⟩
      rw [← Int.natCast_add] at hst
      rw [List.map_cons, forL_nx hst, h, traceF, trD_app, List.append_assoc, Nat.add_assoc]
    | take k =>
      simp only [spanE, lateE] at hs hl ⊢
      have hst := sl_take (W := W) Φ L P k acc a s4 s5 h4 h5 (sz1 (by omega))
      obtain ⟨t4, t5, h⟩ := ih acc (a + k) _ _ noIo_val noIo_val (by omega) (by omega)
      refine ⟨t4, t5, ?_⟩
      rw [← Int.natCast_add] at hst
      rw [List.map_cons, forL_nx hst, h, traceF, Nat.add_assoc]
theorem e_law_trace (L : List Str) (hL : L.length ≤ 2000) (p : List Ed) (hp : p.length ≤ 100000) (hs : spanOf p ≤ L.length) (hl : lateOf p ≤ 1000000) :
    callF T W (n+1) 25 [.val (.list (sD L)), .val (paD p)] = some (.own (.list (trD (traceF L p 0))), []) := by
  rw [run_25, run_eq rfl rfl]
  obtain ⟨t4, t5, h⟩ := loop_ltrace (W := W) (callF T W n) L hL (.val (paD p)) p [] 0 .un .un rfl rfl (by omega) (by simpa using hl)
  have i3 : (p.map edD).length ≤ sizeLine := by rw [List.length_map]; exact sz1 (by omega)
  simp only [Int.ofNat_zero, List.nil_append, Int.cast_ofNat_Int] at h
  simp -implicitDefEqProofs only [d__law_trace, seqO_nx, seqO_ret, seqO_ct, seqO_brk, getS_z, getS_s, set_z, set_s, evB_nil, evB_cons, evS_for, evE_lc, lcTurn_k, evE_c, evE_g, evE_v, takeS_k, tkK_val, tkK_own, peekS_k, pkK_val, pkK_own, pkK_io, res_val, res_slot, sdK_val, sdK_own, sdK_io, evE_bin, evE_neg, evE_cmp, evE_isN, evE_notN, evE_and, evE_or, evE_nt, evE_ite, evE_tup, evE_lst, evE_dct, evE_ix, evE_sl, evE_call, evE_callK, evE_blt, evE_isi, evE_get2, evT_tr, evT_cmp, evT_isN, evT_notN, evT_and, evT_or, evT_nt, evTo_n, evTo_s, evP_slot, evP_ex, evPs_n, evPs_c, evL_n, evL_c, evA_n, evA_e, ioK_own, ioK_io, evA_io, evO_n, evO_e, evI_seq, evI_rng1, evI_rng2, evI_enum, evI_zip, evS_asg, evS_par, evS_setIx, evS_ex, evS_mut, evS_iF, evS_ret, evS_retS, rsK_val, rsK_own, evS_retN, evS_pass, evS_ct, evS_brk, resL_n, resL_c, kAnd_b, kOr_b, kNt_b, kO_i, kR1_i, kR22_i, evR_n, evR_c, noIo_un, noIo_val, noIo_own, of_val, of_own, chgS_k, chK_own, chK_io, heldS_k, lstS_k, lsK_own, lsK_io, putV_nm, putV_tup, putP_nm, putP_ixs, putP_tup, putPs_n, putPs_c, putN_n, putN_c, retV_s, retI_s, callD_0, callD_1, callD_2, callD_3, callD_4, ciK_own, ciK_io, callD_i1, callD_i2, forL_n, avS_v, avS_i, startS_c, startS_z, startS_u, isi_s, isi_t, isi_ll, isi_lt, isi_i, isi_ib, truD_b, len_l, len_t, max_ii, min_ii, int_i, list_l, list_t, tuple_l, tuple_t, eqD_ss, eqD_ii, c_eq, c_ne, c_lt, c_le, c_gt, c_ge, b_add, b_sub, isN_n, isN_i, ixT0, ixT1, kB1, kC1, kN, kIte, kIx, kSl, kCall, kCK2, kCK, kBlt, kG2, kG1, kG, kTr, kTC1, kTAnd, kTOr, kPs, kLs, kAs, kR2, kZ2, kZ, kFor, kLT2, kLT1, kLc, kIf, kAsg, kPar, kSx2, kSx, kMut, kRs, putS_k, RV.d, Option.bind_some, Option.bind_none, Option.map_some, Option.map_none, hideS, wipeS, backS, List.map_cons, List.map_nil, List.length_cons, List.length_nil, if_true, if_false, Bool.false_eq_true, eq_self, outsOf, decide_true, decide_false, Bool.not_true, Bool.not_false, Nat.reduceAdd, Nat.reduceLT, Nat.zero_add, kLst0]
  simp only [paD] at h ⊢
  simp -implicitDefEqProofs only [items_t i3, seqO_nx, seqO_ret, seqO_ct, seqO_brk, getS_z, getS_s, set_z, set_s, evB_nil, evB_cons, evS_for, evE_lc, lcTurn_k, evE_c, evE_g, evE_v, takeS_k, tkK_val, tkK_own, peekS_k, pkK_val, pkK_own, pkK_io, res_val, res_slot, sdK_val, sdK_own, sdK_io, evE_bin, evE_neg, evE_cmp, evE_isN, evE_notN, evE_and, evE_or, evE_nt, evE_ite, evE_tup, evE_lst, evE_dct, evE_ix, evE_sl, evE_call, evE_callK, evE_blt, evE_isi, evE_get2, evT_tr, evT_cmp, evT_isN, evT_notN, evT_and, evT_or, evT_nt, evTo_n, evTo_s, evP_slot, evP_ex, evPs_n, evPs_c, evL_n, evL_c, evA_n, evA_e, ioK_own, ioK_io, evA_io, evO_n, evO_e, evI_seq, evI_rng1, evI_rng2, evI_enum, evI_zip, evS_asg, evS_par, evS_setIx, evS_ex, evS_mut, evS_iF, evS_ret, evS_retS, rsK_val, rsK_own, evS_retN, evS_pass, evS_ct, evS_brk, resL_n, resL_c, kAnd_b, kOr_b, kNt_b, kO_i, kR1_i, kR22_i, evR_n, evR_c, noIo_un, noIo_val, noIo_own, of_val, of_own, chgS_k, chK_own, chK_io, heldS_k, lstS_k, lsK_own, lsK_io, putV_nm, putV_tup, putP_nm, putP_ixs, putP_tup, putPs_n, putPs_c, putN_n, putN_c, retV_s, retI_s, callD_0, callD_1, callD_2, callD_3, callD_4, ciK_own, ciK_io, callD_i1, callD_i2, forL_n, avS_v, avS_i, startS_c, startS_z, startS_u, isi_s, isi_t, isi_ll, isi_lt, isi_i, isi_ib, truD_b, len_l, len_t, max_ii, min_ii, int_i, list_l, list_t, tuple_l, tuple_t, eqD_ss, eqD_ii, c_eq, c_ne, c_lt, c_le, c_gt, c_ge, b_add, b_sub, isN_n, isN_i, ixT0, ixT1, kB1, kC1, kN, kIte, kIx, kSl, kCall, kCK2, kCK, kBlt, kG2, kG1, kG, kTr, kTC1, kTAnd, kTOr, kPs, kLs, kAs, kR2, kZ2, kZ, kFor, kLT2, kLT1, kLc, kIf, kAsg, kPar, kSx2, kSx, kMut, kRs, putS_k, RV.d, Option.bind_some, Option.bind_none, Option.map_some, Option.map_none, hideS, wipeS, backS, List.map_cons, List.map_nil, List.length_cons, List.length_nil, if_true, if_false, Bool.false_eq_true, eq_self, outsOf, decide_true, decide_false, Bool.not_true, Bool.not_false, Nat.reduceAdd, Nat.reduceLT, Nat.zero_add, h]
/-! ### lines patched, costs -/
theorem len_trace (L : List Str) : ∀ (p : List Ed) (a : Nat), (traceF L p a).length = lateOf p
  | [], _ => rfl
  | .put ls :: r, a => by rw [traceF, List.length_append, List.length_map, len_trace L r, late_c]; rfl
  | .keep k :: r, a => by rw [traceF, List.length_append, List.length_map, List.length_range', len_trace L r, late_c]; rfl
  | .take k :: r, a => by rw [traceF, len_trace L r, late_c]; simp [lateE]
def linesT (t : List En) : List Str := t.map (·.1)
theorem e_lines_patched (L : List Str) (hL : L.length ≤ 2000) (p : List Ed) (hp : p.length ≤ 100000) (hs : spanOf p ≤ L.length) (hl : lateOf p ≤ 1000000) :
    callF T W (n+2) 13 [.val (.list (sD L)), .val (paD p)] = some (.own (.list (sD (linesT (traceF L p 0)))), []) := by
  rw [run_13, run_eq rfl rfl]
  have hc : ∀ a b : SD, compE (callF T W (n+1)) (.v 2) (.tup [.nm 2, .nm 3]) none [2, 3] (trD (traceF L p 0)) [a, b, .un, .un] = some (.own (.list (sD (linesT (traceF L p 0)))), [a, b, .un, .un]) := by
    intro a b
    have h := lc_map (Φ := callF T W (n+1)) (elt := .v 2) (tg := .tup [.nm 2, .nm 3]) (ifs := none) (vs := [2, 3]) (ρ1 := [a, b, .un, .un]) enD (fun e => .str e.1) (traceF L p 0) (by
      intro e he
      simp -implicitDefEqProofs only [enD, seqO_nx, seqO_ret, seqO_ct, seqO_brk, getS_z, getS_s, set_z, set_s, evB_nil, evB_cons, evS_for, evE_lc, lcTurn_k, evE_c, evE_g, evE_v, takeS_k, tkK_val, tkK_own, peekS_k, pkK_val, pkK_own, pkK_io, res_val, res_slot, sdK_val, sdK_own, sdK_io, evE_bin, evE_neg, evE_cmp, evE_isN, evE_notN, evE_and, evE_or, evE_nt, evE_ite, evE_tup, evE_lst, evE_dct, evE_ix, evE_sl, evE_call, evE_callK, evE_blt, evE_isi, evE_get2, evT_tr, evT_cmp, evT_isN, evT_notN, evT_and, evT_or, evT_nt, evTo_n, evTo_s, evP_slot, evP_ex, evPs_n, evPs_c, evL_n, evL_c, evA_n, evA_e, ioK_own, ioK_io, evA_io, evO_n, evO_e, evI_seq, evI_rng1, evI_rng2, evI_enum, evI_zip, evS_asg, evS_par, evS_setIx, evS_ex, evS_mut, evS_iF, evS_ret, evS_retS, rsK_val, rsK_own, evS_retN, evS_pass, evS_ct, evS_brk, resL_n, resL_c, kAnd_b, kOr_b, kNt_b, kO_i, kR1_i, kR22_i, evR_n, evR_c, noIo_un, noIo_val, noIo_own, of_val, of_own, chgS_k, chK_own, chK_io, heldS_k, lstS_k, lsK_own, lsK_io, putV_nm, putV_tup, putP_nm, putP_ixs, putP_tup, putPs_n, putPs_c, putN_n, putN_c, retV_s, retI_s, callD_0, callD_1, callD_2, callD_3, callD_4, ciK_own, ciK_io, callD_i1, callD_i2, forL_n, avS_v, avS_i, startS_c, startS_z, startS_u, isi_s, isi_t, isi_ll, isi_lt, isi_i, isi_ib, truD_b, len_l, len_t, max_ii, min_ii, int_i, list_l, list_t, tuple_l, tuple_t, eqD_ss, eqD_ii, c_eq, c_ne, c_lt, c_le, c_gt, c_ge, b_add, b_sub, isN_n, isN_i, ixT0, ixT1, kB1, kC1, kN, kIte, kIx, kSl, kCall, kCK2, kCK, kBlt, kG2, kG1, kG, kTr, kTC1, kTAnd, kTOr, kPs, kLs, kAs, kR2, kZ2, kZ, kFor, kLT2, kLT1, kLc, kIf, kAsg, kPar, kSx2, kSx, kMut, kRs, putS_k, RV.d, Option.bind_some, Option.bind_none, Option.map_some, Option.map_none, hideS, wipeS, backS, List.map_cons, List.map_nil, List.length_cons, List.length_nil, if_true, if_false, Bool.false_eq_true, eq_self, outsOf, decide_true, decide_false, Bool.not_true, Bool.not_false, Nat.reduceAdd, Nat.reduceLT, Nat.zero_add])
    simp only [sD, linesT, List.map_map]; exact h
  simp -implicitDefEqProofs only [d_lines_patched, seqO_nx, seqO_ret, seqO_ct, seqO_brk, getS_z, getS_s, set_z, set_s, evB_nil, evB_cons, evS_for, evE_lc, lcTurn_k, evE_c, evE_g, evE_v, takeS_k, tkK_val, tkK_own, peekS_k, pkK_val, pkK_own, pkK_io, res_val, res_slot, sdK_val, sdK_own, sdK_io, evE_bin, evE_neg, evE_cmp, evE_isN, evE_notN, evE_and, evE_or, evE_nt, evE_ite, evE_tup, evE_lst, evE_dct, evE_ix, evE_sl, evE_call, evE_callK, evE_blt, evE_isi, evE_get2, evT_tr, evT_cmp, evT_isN, evT_notN, evT_and, evT_or, evT_nt, evTo_n, evTo_s, evP_slot, evP_ex, evPs_n, evPs_c, evL_n, evL_c, evA_n, evA_e, ioK_own, ioK_io, evA_io, evO_n, evO_e, evI_seq, evI_rng1, evI_rng2, evI_enum, evI_zip, evS_asg, evS_par, evS_setIx, evS_ex, evS_mut, evS_iF, evS_ret, evS_retS, rsK_val, rsK_own, evS_retN, evS_pass, evS_ct, evS_brk, resL_n, resL_c, kAnd_b, kOr_b, kNt_b, kO_i, kR1_i, kR22_i, evR_n, evR_c, noIo_un, noIo_val, noIo_own, of_val, of_own, chgS_k, chK_own, chK_io, heldS_k, lstS_k, lsK_own, lsK_io, putV_nm, putV_tup, putP_nm, putP_ixs, putP_tup, putPs_n, putPs_c, putN_n, putN_c, retV_s, retI_s, callD_0, callD_1, callD_2, callD_3, callD_4, ciK_own, ciK_io, callD_i1, callD_i2, forL_n, avS_v, avS_i, startS_c, startS_z, startS_u, isi_s, isi_t, isi_ll, isi_lt, isi_i, isi_ib, truD_b, len_l, len_t, max_ii, min_ii, int_i, list_l, list_t, tuple_l, tuple_t, eqD_ss, eqD_ii, c_eq, c_ne, c_lt, c_le, c_gt, c_ge, b_add, b_sub, isN_n, isN_i, ixT0, ixT1, kB1, kC1, kN, kIte, kIx, kSl, kCall, kCK2, kCK, kBlt, kG2, kG1, kG, kTr, kTC1, kTAnd, kTOr, kPs, kLs, kAs, kR2, kZ2, kZ, kFor, kLT2, kLT1, kLc, kIf, kAsg, kPar, kSx2, kSx, kMut, kRs, putS_k, RV.d, Option.bind_some, Option.bind_none, Option.map_some, Option.map_none, hideS, wipeS, backS, List.map_cons, List.map_nil, List.length_cons, List.length_nil, if_true, if_false, Bool.false_eq_true, eq_self, outsOf, decide_true, decide_false, Bool.not_true, Bool.not_false, Nat.reduceAdd, Nat.reduceLT, Nat.zero_add, e_trace_of L hL p hp hs hl, items_l (l := trD (traceF L p 0)) (by rw [len_trD, len_trace]; exact sz1 (by omega)), hc]
def ncostE : Ed → Option Nat
  | .put ls => some ls.length
  | .keep _ => none
  | .take k => some k
theorem nco_cost (p : List Ed) : (p.filterMap ncostE).sum = costOf p := by
  induction p with
  | nil => rfl
  | cons e r ih => cases e <;> simp [ncostE, costOf, costE, List.filterMap_cons] at ih ⊢ <;> omega
theorem e_cost_of_patch (p : List Ed) (hp : p.length ≤ 100000) : callF T W (n+1) 14 [.val (paD p)] = some (.val (.int (costOf p : Nat)), []) := by
  rw [run_14, run_eq rfl rfl]
  have hc : ∀ a : SD, compE (callF T W n) (.ite (.cmp .eq (.slot 1) (.ex (.g "PUT" (.str "put")))) (.blt .len [(.slot 2)]) (.v 2)) (.tup [(.nm 1), (.nm 2)]) (some (.cmp .ne (.slot 1) (.ex (.g "KEEP" (.str "keep"))))) [1, 2] (p.map edD) [a, .un, .un] = some (.own (.list (p.filterMap fun e => (ncostE e).map fun k => .int (k : Nat))), [a, .un, .un]) := by
    intro a
    apply lc_fm
    intro e he
    cases e <;> simp -implicitDefEqProofs only [edD, ncostE, seqO_nx, seqO_ret, seqO_ct, seqO_brk, getS_z, getS_s, set_z, set_s, evB_nil, evB_cons, evS_for, evE_lc, lcTurn_k, evE_c, evE_g, evE_v, takeS_k, tkK_val, tkK_own, peekS_k, pkK_val, pkK_own, pkK_io, res_val, res_slot, sdK_val, sdK_own, sdK_io, evE_bin, evE_neg, evE_cmp, evE_isN, evE_notN, evE_and, evE_or, evE_nt, evE_ite, evE_tup, evE_lst, evE_dct, evE_ix, evE_sl, evE_call, evE_callK, evE_blt, evE_isi, evE_get2, evT_tr, evT_cmp, evT_isN, evT_notN, evT_and, evT_or, evT_nt, evTo_n, evTo_s, evP_slot, evP_ex, evPs_n, evPs_c, evL_n, evL_c, evA_n, evA_e, ioK_own, ioK_io, evA_io, evO_n, evO_e, evI_seq, evI_rng1, evI_rng2, evI_enum, evI_zip, evS_asg, evS_par, evS_setIx, evS_ex, evS_mut, evS_iF, evS_ret, evS_retS, rsK_val, rsK_own, evS_retN, evS_pass, evS_ct, evS_brk, resL_n, resL_c, kAnd_b, kOr_b, kNt_b, kO_i, kR1_i, kR22_i, evR_n, evR_c, noIo_un, noIo_val, noIo_own, of_val, of_own, chgS_k, chK_own, chK_io, heldS_k, lstS_k, lsK_own, lsK_io, putV_nm, putV_tup, putP_nm, putP_ixs, putP_tup, putPs_n, putPs_c, putN_n, putN_c, retV_s, retI_s, callD_0, callD_1, callD_2, callD_3, callD_4, ciK_own, ciK_io, callD_i1, callD_i2, forL_n, avS_v, avS_i, startS_c, startS_z, startS_u, isi_s, isi_t, isi_ll, isi_lt, isi_i, isi_ib, truD_b, len_l, len_t, max_ii, min_ii, int_i, list_l, list_t, tuple_l, tuple_t, eqD_ss, eqD_ii, c_eq, c_ne, c_lt, c_le, c_gt, c_ge, b_add, b_sub, isN_n, isN_i, ixT0, ixT1, kB1, kC1, kN, kIte, kIx, kSl, kCall, kCK2, kCK, kBlt, kG2, kG1, kG, kTr, kTC1, kTAnd, kTOr, kPs, kLs, kAs, kR2, kZ2, kZ, kFor, kLT2, kLT1, kLc, kIf, kAsg, kPar, kSx2, kSx, kMut, kRs, putS_k, RV.d, Option.bind_some, Option.bind_none, Option.map_some, Option.map_none, hideS, wipeS, backS, List.map_cons, List.map_nil, List.length_cons, List.length_nil, if_true, if_false, Bool.false_eq_true, eq_self, outsOf, decide_true, decide_false, Bool.not_true, Bool.not_false, Nat.reduceAdd, Nat.reduceLT, Nat.zero_add, s_pp, s_tp, s_kk, s_tk, s_pk, len_sD]
  have i3 : (p.map edD).length ≤ sizeLine := by rw [List.length_map]; exact sz1 (by omega)
  simp -implicitDefEqProofs only [d_cost_of_patch, paD, seqO_nx, seqO_ret, seqO_ct, seqO_brk, getS_z, getS_s, set_z, set_s, evB_nil, evB_cons, evS_for, evE_lc, lcTurn_k, evE_c, evE_g, evE_v, takeS_k, tkK_val, tkK_own, peekS_k, pkK_val, pkK_own, pkK_io, res_val, res_slot, sdK_val, sdK_own, sdK_io, evE_bin, evE_neg, evE_cmp, evE_isN, evE_notN, evE_and, evE_or, evE_nt, evE_ite, evE_tup, evE_lst, evE_dct, evE_ix, evE_sl, evE_call, evE_callK, evE_blt, evE_isi, evE_get2, evT_tr, evT_cmp, evT_isN, evT_notN, evT_and, evT_or, evT_nt, evTo_n, evTo_s, evP_slot, evP_ex, evPs_n, evPs_c, evL_n, evL_c, evA_n, evA_e, ioK_own, ioK_io, evA_io, evO_n, evO_e, evI_seq, evI_rng1, evI_rng2, evI_enum, evI_zip, evS_asg, evS_par, evS_setIx, evS_ex, evS_mut, evS_iF, evS_ret, evS_retS, rsK_val, rsK_own, evS_retN, evS_pass, evS_ct, evS_brk, resL_n, resL_c, kAnd_b, kOr_b, kNt_b, kO_i, kR1_i, kR22_i, evR_n, evR_c, noIo_un, noIo_val, noIo_own, of_val, of_own, chgS_k, chK_own, chK_io, heldS_k, lstS_k, lsK_own, lsK_io, putV_nm, putV_tup, putP_nm, putP_ixs, putP_tup, putPs_n, putPs_c, putN_n, putN_c, retV_s, retI_s, callD_0, callD_1, callD_2, callD_3, callD_4, ciK_own, ciK_io, callD_i1, callD_i2, forL_n, avS_v, avS_i, startS_c, startS_z, startS_u, isi_s, isi_t, isi_ll, isi_lt, isi_i, isi_ib, truD_b, len_l, len_t, max_ii, min_ii, int_i, list_l, list_t, tuple_l, tuple_t, eqD_ss, eqD_ii, c_eq, c_ne, c_lt, c_le, c_gt, c_ge, b_add, b_sub, isN_n, isN_i, ixT0, ixT1, kB1, kC1, kN, kIte, kIx, kSl, kCall, kCK2, kCK, kBlt, kG2, kG1, kG, kTr, kTC1, kTAnd, kTOr, kPs, kLs, kAs, kR2, kZ2, kZ, kFor, kLT2, kLT1, kLc, kIf, kAsg, kPar, kSx2, kSx, kMut, kRs, putS_k, RV.d, Option.bind_some, Option.bind_none, Option.map_some, Option.map_none, hideS, wipeS, backS, List.map_cons, List.map_nil, List.length_cons, List.length_nil, if_true, if_false, Bool.false_eq_true, eq_self, outsOf, decide_true, decide_false, Bool.not_true, Bool.not_false, Nat.reduceAdd, Nat.reduceLT, Nat.zero_add, items_t i3, hc, sum_fm, nco_cost]
theorem e_law_cost (p : List Ed) (hp : p.length ≤ 100000) : callF T W (n+1) 27 [.val (paD p)] = some (.val (.int (costOf p : Nat)), []) := by
  rw [run_27, run_eq rfl rfl]
  have hc : ∀ a : SD, compE (callF T W n) (.ite (.cmp .eq (.slot 1) (.ex (.c (.str "put")))) (.blt .len [(.slot 2)]) (.v 2)) (.tup [(.nm 1), (.nm 2)]) (some (.cmp .ne (.slot 1) (.ex (.c (.str "keep"))))) [1, 2] (p.map edD) [a, .un, .un] = some (.own (.list (p.filterMap fun e => (ncostE e).map fun k => .int (k : Nat))), [a, .un, .un]) := by
    intro a
    apply lc_fm
    intro e he
    cases e <;> simp -implicitDefEqProofs only [edD, ncostE, seqO_nx, seqO_ret, seqO_ct, seqO_brk, getS_z, getS_s, set_z, set_s, evB_nil, evB_cons, evS_for, evE_lc, lcTurn_k, evE_c, evE_g, evE_v, takeS_k, tkK_val, tkK_own, peekS_k, pkK_val, pkK_own, pkK_io, res_val, res_slot, sdK_val, sdK_own, sdK_io, evE_bin, evE_neg, evE_cmp, evE_isN, evE_notN, evE_and, evE_or, evE_nt, evE_ite, evE_tup, evE_lst, evE_dct, evE_ix, evE_sl, evE_call, evE_callK, evE_blt, evE_isi, evE_get2, evT_tr, evT_cmp, evT_isN, evT_notN, evT_and, evT_or, evT_nt, evTo_n, evTo_s, evP_slot, evP_ex, evPs_n, evPs_c, evL_n, evL_c, evA_n, evA_e, ioK_own, ioK_io, evA_io, evO_n, evO_e, evI_seq, evI_rng1, evI_rng2, evI_enum, evI_zip, evS_asg, evS_par, evS_setIx, evS_ex, evS_mut, evS_iF, evS_ret, evS_retS, rsK_val, rsK_own, evS_retN, evS_pass, evS_ct, evS_brk, resL_n, resL_c, kAnd_b, kOr_b, kNt_b, kO_i, kR1_i, kR22_i, evR_n, evR_c, noIo_un, noIo_val, noIo_own, of_val, of_own, chgS_k, chK_own, chK_io, heldS_k, lstS_k, lsK_own, lsK_io, putV_nm, putV_tup, putP_nm, putP_ixs, putP_tup, putPs_n, putPs_c, putN_n, putN_c, retV_s, retI_s, callD_0, callD_1, callD_2, callD_3, callD_4, ciK_own, ciK_io, callD_i1, callD_i2, forL_n, avS_v, avS_i, startS_c, startS_z, startS_u, isi_s, isi_t, isi_ll, isi_lt, isi_i, isi_ib, truD_b, len_l, len_t, max_ii, min_ii, int_i, list_l, list_t, tuple_l, tuple_t, eqD_ss, eqD_ii, c_eq, c_ne, c_lt, c_le, c_gt, c_ge, b_add, b_sub, isN_n, isN_i, ixT0, ixT1, kB1, kC1, kN, kIte, kIx, kSl, kCall, kCK2, kCK, kBlt, kG2, kG1, kG, kTr, kTC1, kTAnd, kTOr, kPs, kLs, kAs, kR2, kZ2, kZ, kFor, kLT2, kLT1, kLc, kIf, kAsg, kPar, kSx2, kSx, kMut, kRs, putS_k, RV.d, Option.bind_some, Option.bind_none, Option.map_some, Option.map_none, hideS, wipeS, backS, List.map_cons, List.map_nil, List.length_cons, List.length_nil, if_true, if_false, Bool.false_eq_true, eq_self, outsOf, decide_true, decide_false, Bool.not_true, Bool.not_false, Nat.reduceAdd, Nat.reduceLT, Nat.zero_add, s_pp, s_tp, s_kk, s_tk, s_pk, len_sD]
  have i3 : (p.map edD).length ≤ sizeLine := by rw [List.length_map]; exact sz1 (by omega)
  simp -implicitDefEqProofs only [d__law_cost, paD, seqO_nx, seqO_ret, seqO_ct, seqO_brk, getS_z, getS_s, set_z, set_s, evB_nil, evB_cons, evS_for, evE_lc, lcTurn_k, evE_c, evE_g, evE_v, takeS_k, tkK_val, tkK_own, peekS_k, pkK_val, pkK_own, pkK_io, res_val, res_slot, sdK_val, sdK_own, sdK_io, evE_bin, evE_neg, evE_cmp, evE_isN, evE_notN, evE_and, evE_or, evE_nt, evE_ite, evE_tup, evE_lst, evE_dct, evE_ix, evE_sl, evE_call, evE_callK, evE_blt, evE_isi, evE_get2, evT_tr, evT_cmp, evT_isN, evT_notN, evT_and, evT_or, evT_nt, evTo_n, evTo_s, evP_slot, evP_ex, evPs_n, evPs_c, evL_n, evL_c, evA_n, evA_e, ioK_own, ioK_io, evA_io, evO_n, evO_e, evI_seq, evI_rng1, evI_rng2, evI_enum, evI_zip, evS_asg, evS_par, evS_setIx, evS_ex, evS_mut, evS_iF, evS_ret, evS_retS, rsK_val, rsK_own, evS_retN, evS_pass, evS_ct, evS_brk, resL_n, resL_c, kAnd_b, kOr_b, kNt_b, kO_i, kR1_i, kR22_i, evR_n, evR_c, noIo_un, noIo_val, noIo_own, of_val, of_own, chgS_k, chK_own, chK_io, heldS_k, lstS_k, lsK_own, lsK_io, putV_nm, putV_tup, putP_nm, putP_ixs, putP_tup, putPs_n, putPs_c, putN_n, putN_c, retV_s, retI_s, callD_0, callD_1, callD_2, callD_3, callD_4, ciK_own, ciK_io, callD_i1, callD_i2, forL_n, avS_v, avS_i, startS_c, startS_z, startS_u, isi_s, isi_t, isi_ll, isi_lt, isi_i, isi_ib, truD_b, len_l, len_t, max_ii, min_ii, int_i, list_l, list_t, tuple_l, tuple_t, eqD_ss, eqD_ii, c_eq, c_ne, c_lt, c_le, c_gt, c_ge, b_add, b_sub, isN_n, isN_i, ixT0, ixT1, kB1, kC1, kN, kIte, kIx, kSl, kCall, kCK2, kCK, kBlt, kG2, kG1, kG, kTr, kTC1, kTAnd, kTOr, kPs, kLs, kAs, kR2, kZ2, kZ, kFor, kLT2, kLT1, kLc, kIf, kAsg, kPar, kSx2, kSx, kMut, kRs, putS_k, RV.d, Option.bind_some, Option.bind_none, Option.map_some, Option.map_none, hideS, wipeS, backS, List.map_cons, List.map_nil, List.length_cons, List.length_nil, if_true, if_false, Bool.false_eq_true, eq_self, outsOf, decide_true, decide_false, Bool.not_true, Bool.not_false, Nat.reduceAdd, Nat.reduceLT, Nat.zero_add, items_t i3, hc, sum_fm, nco_cost]
/-- a patch fit for lines -/
def Fit (ls : List Str) (p : List Ed) : Prop := (ls.length ≤ 200 ∧ ∀ s ∈ ls, LnOk s) ∧ PaOk p ∧ spanOf p = ls.length
theorem list_ln {b : Bool} {ls : List Str} : bltD .list [lnD b ls] = some (.own (.list (sD ls))) := by cases b <;> rfl
theorem len_ln {b : Bool} {ls : List Str} : bltD .len [lnD b ls] = some (.val (.int (ls.length : Nat))) := by cases b <;> simp [lnD, bltD, len_sD]
theorem e_patched (b : Bool) (ls : List Str) (p : List Ed) (h : Fit ls p) : callF T W (n+6) 16 [.val (lnD b ls), .val (paD p)] = some (.own (.list (sD (linesT (traceF ls p 0)))), []) := by
  rw [run_16, run_eq rfl rfl]
  obtain ⟨⟨h1, h2⟩, hp, hs⟩ := h
  simp -implicitDefEqProofs only [d_patched, seqO_nx, seqO_ret, seqO_ct, seqO_brk, getS_z, getS_s, set_z, set_s, evB_nil, evB_cons, evS_for, evE_lc, lcTurn_k, evE_c, evE_g, evE_v, takeS_k, tkK_val, tkK_own, peekS_k, pkK_val, pkK_own, pkK_io, res_val, res_slot, sdK_val, sdK_own, sdK_io, evE_bin, evE_neg, evE_cmp, evE_isN, evE_notN, evE_and, evE_or, evE_nt, evE_ite, evE_tup, evE_lst, evE_dct, evE_ix, evE_sl, evE_call, evE_callK, evE_blt, evE_isi, evE_get2, evT_tr, evT_cmp, evT_isN, evT_notN, evT_and, evT_or, evT_nt, evTo_n, evTo_s, evP_slot, evP_ex, evPs_n, evPs_c, evL_n, evL_c, evA_n, evA_e, ioK_own, ioK_io, evA_io, evO_n, evO_e, evI_seq, evI_rng1, evI_rng2, evI_enum, evI_zip, evS_asg, evS_par, evS_setIx, evS_ex, evS_mut, evS_iF, evS_ret, evS_retS, rsK_val, rsK_own, evS_retN, evS_pass, evS_ct, evS_brk, resL_n, resL_c, kAnd_b, kOr_b, kNt_b, kO_i, kR1_i, kR22_i, evR_n, evR_c, noIo_un, noIo_val, noIo_own, of_val, of_own, chgS_k, chK_own, chK_io, heldS_k, lstS_k, lsK_own, lsK_io, putV_nm, putV_tup, putP_nm, putP_ixs, putP_tup, putPs_n, putPs_c, putN_n, putN_c, retV_s, retI_s, callD_0, callD_1, callD_2, callD_3, callD_4, ciK_own, ciK_io, callD_i1, callD_i2, forL_n, avS_v, avS_i, startS_c, startS_z, startS_u, isi_s, isi_t, isi_ll, isi_lt, isi_i, isi_ib, truD_b, len_l, len_t, max_ii, min_ii, int_i, list_l, list_t, tuple_l, tuple_t, eqD_ss, eqD_ii, c_eq, c_ne, c_lt, c_le, c_gt, c_ge, b_add, b_sub, isN_n, isN_i, ixT0, ixT1, kB1, kC1, kN, kIte, kIx, kSl, kCall, kCK2, kCK, kBlt, kG2, kG1, kG, kTr, kTC1, kTAnd, kTOr, kPs, kLs, kAs, kR2, kZ2, kZ, kFor, kLT2, kLT1, kLc, kIf, kAsg, kPar, kSx2, kSx, kMut, kRs, putS_k, RV.d, Option.bind_some, Option.bind_none, Option.map_some, Option.map_none, hideS, wipeS, backS, List.map_cons, List.map_nil, List.length_cons, List.length_nil, if_true, if_false, Bool.false_eq_true, eq_self, outsOf, decide_true, decide_false, Bool.not_true, Bool.not_false, Nat.reduceAdd, Nat.reduceLT, Nat.zero_add, e_want_patch b ls h1 h2 p hp hs, list_ln, e_lines_patched ls (by omega) p (Nat.le_trans hp.1 (by decide)) (Nat.le_of_eq hs) (Nat.le_trans hp.2.2 (by decide))]
theorem e_patch_cost (b : Bool) (ls : List Str) (p : List Ed) (h : Fit ls p) : callF T W (n+6) 17 [.val (lnD b ls), .val (paD p)] = some (.val (.int (costOf p : Nat)), []) := by
  rw [run_17, run_eq rfl rfl]
  obtain ⟨⟨h1, h2⟩, hp, hs⟩ := h
  simp -implicitDefEqProofs only [d_patch_cost, seqO_nx, seqO_ret, seqO_ct, seqO_brk, getS_z, getS_s, set_z, set_s, evB_nil, evB_cons, evS_for, evE_lc, lcTurn_k, evE_c, evE_g, evE_v, takeS_k, tkK_val, tkK_own, peekS_k, pkK_val, pkK_own, pkK_io, res_val, res_slot, sdK_val, sdK_own, sdK_io, evE_bin, evE_neg, evE_cmp, evE_isN, evE_notN, evE_and, evE_or, evE_nt, evE_ite, evE_tup, evE_lst, evE_dct, evE_ix, evE_sl, evE_call, evE_callK, evE_blt, evE_isi, evE_get2, evT_tr, evT_cmp, evT_isN, evT_notN, evT_and, evT_or, evT_nt, evTo_n, evTo_s, evP_slot, evP_ex, evPs_n, evPs_c, evL_n, evL_c, evA_n, evA_e, ioK_own, ioK_io, evA_io, evO_n, evO_e, evI_seq, evI_rng1, evI_rng2, evI_enum, evI_zip, evS_asg, evS_par, evS_setIx, evS_ex, evS_mut, evS_iF, evS_ret, evS_retS, rsK_val, rsK_own, evS_retN, evS_pass, evS_ct, evS_brk, resL_n, resL_c, kAnd_b, kOr_b, kNt_b, kO_i, kR1_i, kR22_i, evR_n, evR_c, noIo_un, noIo_val, noIo_own, of_val, of_own, chgS_k, chK_own, chK_io, heldS_k, lstS_k, lsK_own, lsK_io, putV_nm, putV_tup, putP_nm, putP_ixs, putP_tup, putPs_n, putPs_c, putN_n, putN_c, retV_s, retI_s, callD_0, callD_1, callD_2, callD_3, callD_4, ciK_own, ciK_io, callD_i1, callD_i2, forL_n, avS_v, avS_i, startS_c, startS_z, startS_u, isi_s, isi_t, isi_ll, isi_lt, isi_i, isi_ib, truD_b, len_l, len_t, max_ii, min_ii, int_i, list_l, list_t, tuple_l, tuple_t, eqD_ss, eqD_ii, c_eq, c_ne, c_lt, c_le, c_gt, c_ge, b_add, b_sub, isN_n, isN_i, ixT0, ixT1, kB1, kC1, kN, kIte, kIx, kSl, kCall, kCK2, kCK, kBlt, kG2, kG1, kG, kTr, kTC1, kTAnd, kTOr, kPs, kLs, kAs, kR2, kZ2, kZ, kFor, kLT2, kLT1, kLc, kIf, kAsg, kPar, kSx2, kSx, kMut, kRs, putS_k, RV.d, Option.bind_some, Option.bind_none, Option.map_some, Option.map_none, hideS, wipeS, backS, List.map_cons, List.map_nil, List.length_cons, List.length_nil, if_true, if_false, Bool.false_eq_true, eq_self, outsOf, decide_true, decide_false, Bool.not_true, Bool.not_false, Nat.reduceAdd, Nat.reduceLT, Nat.zero_add, e_want_patch b ls h1 h2 p hp hs, e_cost_of_patch p (Nat.le_trans hp.1 (by decide))]
end K82

/-! V4: the patch of a trace, as the program and the law reckon it. -/
namespace K82
open PySem PySem.Spec PyProof.Rows L2 PL
variable {W n : Nat}
def sameW : Ed → Ed → Bool
  | .put _, .put _ => true
  | .keep _, .keep _ => true
  | .take _, .take _ => true
  | _, _ => false
def joinE : Ed → Ed → Ed
  | .put a, .put b => .put (a ++ b)
  | .keep a, .keep b => .keep (a + b)
  | .take a, .take b => .take (a + b)
  | a, _ => a
def mergeS (f : List Ed) (e : Ed) : List Ed := match f.getLast? with
  | some l => if sameW l e then f.dropLast ++ [joinE l e] else f ++ [e]
  | none => [e]
theorem mergeS_n {e : Ed} : mergeS [] e = [e] := rfl
theorem mergeS_c {g : List Ed} {l e : Ed} : mergeS (g ++ [l]) e = if sameW l e then g ++ [joinE l e] else g ++ [l] ++ [e] := by
  simp [mergeS]
def wordD : Ed → D
  | .put _ => .str "put"
  | .keep _ => .str "keep"
  | .take _ => .str "take"
def toldD : Ed → D
  | .put ls => .tuple (sD ls)
  | .keep k => .int (k : Nat)
  | .take k => .int (k : Nat)
def EdS : Ed → Prop
  | .put ls => ∀ s ∈ ls, LnOk s
  | _ => True
theorem canLay_ed {e : Ed} (h : EdS e) : PyData.canLay0 (edD e) = true := by
  have k1 : PyData.strOk (Str.ofString "put") = true := by decide +kernel
  have k2 : PyData.strOk (Str.ofString "keep") = true := by decide +kernel
  have k3 : PyData.strOk (Str.ofString "take") = true := by decide +kernel
  cases e with
  | put ls => simp [edD, PyData.canLay0, PyData.canLayAll0, k1, canLay_sD h]
  | keep k => simp [edD, PyData.canLay0, PyData.canLayAll0, k2]
  | take k => simp [edD, PyData.canLay0, PyData.canLayAll0, k3]
theorem depth_ed {e : Ed} : PyData.depth (edD e) ≤ 2 := by
  cases e <;> simp [edD, PyData.depth, PyData.depthAll, depth_sD]
theorem canLay_eds : ∀ {f : List Ed}, (∀ e ∈ f, EdS e) → PyData.canLayAll0 (f.map edD) = true
  | [], _ => rfl
  | e :: r, h => by
    have h1 := canLay_ed (h e List.mem_cons_self)
    have h2 := canLay_eds (f := r) fun x hx => h x (List.mem_cons_of_mem _ hx)
    simp only [List.map_cons, PyData.canLayAll0, h1, Bool.true_and]; exact h2
theorem depth_eds : ∀ {f : List Ed}, PyData.depthAll (f.map edD) ≤ 2
  | [] => by simp [PyData.depthAll]
  | e :: r => by
    have h1 := depth_ed (e := e)
    have h2 := depth_eds (f := r)
    simp only [List.map_cons, PyData.depthAll]; omega
theorem shaped_eds {f : List Ed} (h : ∀ e ∈ f, EdS e) : SeqAt.shaped (.list (f.map edD)) = true := by
  have h1 := depth_eds (f := f)
  have h3 : PyData.depthAll (f.map edD) + 1 ≤ 64 := by omega
  simp [SeqAt.shaped, PyData.canLay0, PyData.depth, canLay_eds h, h3]
theorem ne_eds {g : List Ed} {l : Ed} (h : ∀ e ∈ g ++ [l], EdS e) : eqD (.list (g.map edD ++ [edD l])) (.list []) = some false := by
  have h1 := shaped_eds h
  rw [List.map_append, List.map_cons, List.map_nil] at h1
  rw [ls_nil h1]; simp
theorem eq_nn : eqD (.list []) (.list []) = some true := rfl
theorem b_addt {a b : List D} (h : a.length + b.length ≤ sizeLine) : binD .add (.tuple a) (.tuple b) = some (.val (.tuple (a ++ b))) := if_pos h
theorem sD_app {a b : List Str} : sD (a ++ b) = sD a ++ sD b := by simp [sD]
theorem s_tkp : (Str.ofString "take" == Str.ofString "put") = false := by decide +kernel
theorem st_merge (Φ : Fn) (E : SD) (f : List Ed) (e : Ed) (s2 s3 : SD) (h2 : noIo s2 = true) (h3 : noIo s3 = true) (hf : ∀ x ∈ f, EdS x) (hz : f.length ≤ 1000000) (hl : lateOf f + lateE e ≤ 1000000) :
    (putP (.tup [(.nm 2), (.nm 3)]) (edD e) [E, .own (.list (f.map edD)), s2, s3]).bind (evB Φ W b_edits_put_together_0)
      = some (.nx [E, .own (.list ((mergeS f e).map edD)), .val (wordD e), .val (toldD e)]) := by
  rcases List.eq_nil_or_concat f with rfl | ⟨g, l, rfl⟩
  · rw [mergeS_n]
    have hm : ([] : List D).length < sizeLine := by decide
    cases e <;> simp -implicitDefEqProofs only [edD, wordD, toldD, b_edits_put_together_0, seqO_nx, seqO_ret, seqO_ct, seqO_brk, getS_z, getS_s, set_z, set_s, evB_nil, evB_cons, evS_for, evE_lc, lcTurn_k, evE_c, evE_g, evE_v, takeS_k, tkK_val, tkK_own, peekS_k, pkK_val, pkK_own, pkK_io, res_val, res_slot, sdK_val, sdK_own, sdK_io, evE_bin, evE_neg, evE_cmp, evE_isN, evE_notN, evE_and, evE_or, evE_nt, evE_ite, evE_tup, evE_lst, evE_dct, evE_ix, evE_sl, evE_call, evE_callK, evE_blt, evE_isi, evE_get2, evT_tr, evT_cmp, evT_isN, evT_notN, evT_and, evT_or, evT_nt, evTo_n, evTo_s, evP_slot, evP_ex, evPs_n, evPs_c, evL_n, evL_c, evA_n, evA_e, ioK_own, ioK_io, evA_io, evO_n, evO_e, evI_seq, evI_rng1, evI_rng2, evI_enum, evI_zip, evS_asg, evS_par, evS_setIx, evS_ex, evS_mut, evS_iF, evS_ret, evS_retS, rsK_val, rsK_own, evS_retN, evS_pass, evS_ct, evS_brk, resL_n, resL_c, kAnd_b, kOr_b, kNt_b, kO_i, kR1_i, kR22_i, evR_n, evR_c, noIo_un, noIo_val, noIo_own, of_val, of_own, chgS_k, chK_own, chK_io, heldS_k, lstS_k, lsK_own, lsK_io, putV_nm, putV_tup, putP_nm, putP_ixs, putP_tup, putPs_n, putPs_c, putN_n, putN_c, retV_s, retI_s, callD_0, callD_1, callD_2, callD_3, callD_4, ciK_own, ciK_io, callD_i1, callD_i2, forL_n, avS_v, avS_i, startS_c, startS_z, startS_u, isi_s, isi_t, isi_ll, isi_lt, isi_i, isi_ib, truD_b, len_l, len_t, max_ii, min_ii, int_i, list_l, list_t, tuple_l, tuple_t, eqD_ss, eqD_ii, c_eq, c_ne, c_lt, c_le, c_gt, c_ge, b_add, b_sub, isN_n, isN_i, ixT0, ixT1, kB1, kC1, kN, kIte, kIx, kSl, kCall, kCK2, kCK, kBlt, kG2, kG1, kG, kTr, kTC1, kTAnd, kTOr, kPs, kLs, kAs, kR2, kZ2, kZ, kFor, kLT2, kLT1, kLc, kIf, kAsg, kPar, kSx2, kSx, kMut, kRs, putS_k, RV.d, Option.bind_some, Option.bind_none, Option.map_some, Option.map_none, hideS, wipeS, backS, List.map_cons, List.map_nil, List.length_cons, List.length_nil, if_true, if_false, Bool.false_eq_true, eq_self, outsOf, decide_true, decide_false, Bool.not_true, Bool.not_false, Nat.reduceAdd, Nat.reduceLT, Nat.zero_add, h2, h3, kLst0, kTup2, eq_nn, mut_a hm, List.nil_append]
  · rw [List.concat_eq_append] at hf hz hl ⊢
    rw [mergeS_c]
    have e0 := ne_eds hf
    have hm : (g.map edD ++ [edD l]).length < sizeLine := by
      rw [List.length_append, List.length_map] at *; exact sz2 (by simp only [List.length_cons, List.length_nil] at *; omega)
    have hl2 : lateE l + lateE e ≤ 1000000 := by
      have : lateOf (g ++ [l]) = lateOf g + lateE l := by simp [lateOf]
      omega
    cases e with
    | put b =>
      cases l with
      | put a =>
        have ha : (sD a).length + (sD b).length ≤ sizeLine := by rw [len_sD, len_sD]; exact sz1 (by simp only [lateE] at hl2; omega)
        simp -implicitDefEqProofs only [edD, wordD, toldD, sameW, joinE, List.map_append, sD_app, b_edits_put_together_0, seqO_nx, seqO_ret, seqO_ct, seqO_brk, getS_z, getS_s, set_z, set_s, evB_nil, evB_cons, evS_for, evE_lc, lcTurn_k, evE_c, evE_g, evE_v, takeS_k, tkK_val, tkK_own, peekS_k, pkK_val, pkK_own, pkK_io, res_val, res_slot, sdK_val, sdK_own, sdK_io, evE_bin, evE_neg, evE_cmp, evE_isN, evE_notN, evE_and, evE_or, evE_nt, evE_ite, evE_tup, evE_lst, evE_dct, evE_ix, evE_sl, evE_call, evE_callK, evE_blt, evE_isi, evE_get2, evT_tr, evT_cmp, evT_isN, evT_notN, evT_and, evT_or, evT_nt, evTo_n, evTo_s, evP_slot, evP_ex, evPs_n, evPs_c, evL_n, evL_c, evA_n, evA_e, ioK_own, ioK_io, evA_io, evO_n, evO_e, evI_seq, evI_rng1, evI_rng2, evI_enum, evI_zip, evS_asg, evS_par, evS_setIx, evS_ex, evS_mut, evS_iF, evS_ret, evS_retS, rsK_val, rsK_own, evS_retN, evS_pass, evS_ct, evS_brk, resL_n, resL_c, kAnd_b, kOr_b, kNt_b, kO_i, kR1_i, kR22_i, evR_n, evR_c, noIo_un, noIo_val, noIo_own, of_val, of_own, chgS_k, chK_own, chK_io, heldS_k, lstS_k, lsK_own, lsK_io, putV_nm, putV_tup, putP_nm, putP_ixs, putP_tup, putPs_n, putPs_c, putN_n, putN_c, retV_s, retI_s, callD_0, callD_1, callD_2, callD_3, callD_4, ciK_own, ciK_io, callD_i1, callD_i2, forL_n, avS_v, avS_i, startS_c, startS_z, startS_u, isi_s, isi_t, isi_ll, isi_lt, isi_i, isi_ib, truD_b, len_l, len_t, max_ii, min_ii, int_i, list_l, list_t, tuple_l, tuple_t, eqD_ss, eqD_ii, c_eq, c_ne, c_lt, c_le, c_gt, c_ge, b_add, b_sub, isN_n, isN_i, ixT0, ixT1, kB1, kC1, kN, kIte, kIx, kSl, kCall, kCK2, kCK, kBlt, kG2, kG1, kG, kTr, kTC1, kTAnd, kTOr, kPs, kLs, kAs, kR2, kZ2, kZ, kFor, kLT2, kLT1, kLc, kIf, kAsg, kPar, kSx2, kSx, kMut, kRs, putS_k, RV.d, Option.bind_some, Option.bind_none, Option.map_some, Option.map_none, hideS, wipeS, backS, List.map_cons, List.map_nil, List.length_cons, List.length_nil, if_true, if_false, Bool.false_eq_true, eq_self, outsOf, decide_true, decide_false, Bool.not_true, Bool.not_false, Nat.reduceAdd, Nat.reduceLT, Nat.zero_add, h2, h3, kLst0, kTup2, s_pp, ixLlast, setLlast, b_addt ha] at e0 ⊢
        simp -implicitDefEqProofs only [e0, seqO_nx, seqO_ret, seqO_ct, seqO_brk, getS_z, getS_s, set_z, set_s, evB_nil, evB_cons, evS_for, evE_lc, lcTurn_k, evE_c, evE_g, evE_v, takeS_k, tkK_val, tkK_own, peekS_k, pkK_val, pkK_own, pkK_io, res_val, res_slot, sdK_val, sdK_own, sdK_io, evE_bin, evE_neg, evE_cmp, evE_isN, evE_notN, evE_and, evE_or, evE_nt, evE_ite, evE_tup, evE_lst, evE_dct, evE_ix, evE_sl, evE_call, evE_callK, evE_blt, evE_isi, evE_get2, evT_tr, evT_cmp, evT_isN, evT_notN, evT_and, evT_or, evT_nt, evTo_n, evTo_s, evP_slot, evP_ex, evPs_n, evPs_c, evL_n, evL_c, evA_n, evA_e, ioK_own, ioK_io, evA_io, evO_n, evO_e, evI_seq, evI_rng1, evI_rng2, evI_enum, evI_zip, evS_asg, evS_par, evS_setIx, evS_ex, evS_mut, evS_iF, evS_ret, evS_retS, rsK_val, rsK_own, evS_retN, evS_pass, evS_ct, evS_brk, resL_n, resL_c, kAnd_b, kOr_b, kNt_b, kO_i, kR1_i, kR22_i, evR_n, evR_c, noIo_un, noIo_val, noIo_own, of_val, of_own, chgS_k, chK_own, chK_io, heldS_k, lstS_k, lsK_own, lsK_io, putV_nm, putV_tup, putP_nm, putP_ixs, putP_tup, putPs_n, putPs_c, putN_n, putN_c, retV_s, retI_s, callD_0, callD_1, callD_2, callD_3, callD_4, ciK_own, ciK_io, callD_i1, callD_i2, forL_n, avS_v, avS_i, startS_c, startS_z, startS_u, isi_s, isi_t, isi_ll, isi_lt, isi_i, isi_ib, truD_b, len_l, len_t, max_ii, min_ii, int_i, list_l, list_t, tuple_l, tuple_t, eqD_ss, eqD_ii, c_eq, c_ne, c_lt, c_le, c_gt, c_ge, b_add, b_sub, isN_n, isN_i, ixT0, ixT1, kB1, kC1, kN, kIte, kIx, kSl, kCall, kCK2, kCK, kBlt, kG2, kG1, kG, kTr, kTC1, kTAnd, kTOr, kPs, kLs, kAs, kR2, kZ2, kZ, kFor, kLT2, kLT1, kLc, kIf, kAsg, kPar, kSx2, kSx, kMut, kRs, putS_k, RV.d, Option.bind_some, Option.bind_none, Option.map_some, Option.map_none, hideS, wipeS, backS, List.map_cons, List.map_nil, List.length_cons, List.length_nil, if_true, if_false, Bool.false_eq_true, eq_self, outsOf, decide_true, decide_false, Bool.not_true, Bool.not_false, Nat.reduceAdd, Nat.reduceLT, Nat.zero_add, s_pp, ixLlast, setLlast, b_addt ha, kTup2]
      | keep a =>
        simp -implicitDefEqProofs only [edD, wordD, toldD, sameW, joinE, List.map_append, sD_app, b_edits_put_together_0, seqO_nx, seqO_ret, seqO_ct, seqO_brk, getS_z, getS_s, set_z, set_s, evB_nil, evB_cons, evS_for, evE_lc, lcTurn_k, evE_c, evE_g, evE_v, takeS_k, tkK_val, tkK_own, peekS_k, pkK_val, pkK_own, pkK_io, res_val, res_slot, sdK_val, sdK_own, sdK_io, evE_bin, evE_neg, evE_cmp, evE_isN, evE_notN, evE_and, evE_or, evE_nt, evE_ite, evE_tup, evE_lst, evE_dct, evE_ix, evE_sl, evE_call, evE_callK, evE_blt, evE_isi, evE_get2, evT_tr, evT_cmp, evT_isN, evT_notN, evT_and, evT_or, evT_nt, evTo_n, evTo_s, evP_slot, evP_ex, evPs_n, evPs_c, evL_n, evL_c, evA_n, evA_e, ioK_own, ioK_io, evA_io, evO_n, evO_e, evI_seq, evI_rng1, evI_rng2, evI_enum, evI_zip, evS_asg, evS_par, evS_setIx, evS_ex, evS_mut, evS_iF, evS_ret, evS_retS, rsK_val, rsK_own, evS_retN, evS_pass, evS_ct, evS_brk, resL_n, resL_c, kAnd_b, kOr_b, kNt_b, kO_i, kR1_i, kR22_i, evR_n, evR_c, noIo_un, noIo_val, noIo_own, of_val, of_own, chgS_k, chK_own, chK_io, heldS_k, lstS_k, lsK_own, lsK_io, putV_nm, putV_tup, putP_nm, putP_ixs, putP_tup, putPs_n, putPs_c, putN_n, putN_c, retV_s, retI_s, callD_0, callD_1, callD_2, callD_3, callD_4, ciK_own, ciK_io, callD_i1, callD_i2, forL_n, avS_v, avS_i, startS_c, startS_z, startS_u, isi_s, isi_t, isi_ll, isi_lt, isi_i, isi_ib, truD_b, len_l, len_t, max_ii, min_ii, int_i, list_l, list_t, tuple_l, tuple_t, eqD_ss, eqD_ii, c_eq, c_ne, c_lt, c_le, c_gt, c_ge, b_add, b_sub, isN_n, isN_i, ixT0, ixT1, kB1, kC1, kN, kIte, kIx, kSl, kCall, kCK2, kCK, kBlt, kG2, kG1, kG, kTr, kTC1, kTAnd, kTOr, kPs, kLs, kAs, kR2, kZ2, kZ, kFor, kLT2, kLT1, kLc, kIf, kAsg, kPar, kSx2, kSx, kMut, kRs, putS_k, RV.d, Option.bind_some, Option.bind_none, Option.map_some, Option.map_none, hideS, wipeS, backS, List.map_cons, List.map_nil, List.length_cons, List.length_nil, if_true, if_false, Bool.false_eq_true, eq_self, outsOf, decide_true, decide_false, Bool.not_true, Bool.not_false, Nat.reduceAdd, Nat.reduceLT, Nat.zero_add, h2, h3, kLst0, kTup2, s_kp, ixLlast] at e0 hm ⊢
        simp -implicitDefEqProofs only [e0, seqO_nx, seqO_ret, seqO_ct, seqO_brk, getS_z, getS_s, set_z, set_s, evB_nil, evB_cons, evS_for, evE_lc, lcTurn_k, evE_c, evE_g, evE_v, takeS_k, tkK_val, tkK_own, peekS_k, pkK_val, pkK_own, pkK_io, res_val, res_slot, sdK_val, sdK_own, sdK_io, evE_bin, evE_neg, evE_cmp, evE_isN, evE_notN, evE_and, evE_or, evE_nt, evE_ite, evE_tup, evE_lst, evE_dct, evE_ix, evE_sl, evE_call, evE_callK, evE_blt, evE_isi, evE_get2, evT_tr, evT_cmp, evT_isN, evT_notN, evT_and, evT_or, evT_nt, evTo_n, evTo_s, evP_slot, evP_ex, evPs_n, evPs_c, evL_n, evL_c, evA_n, evA_e, ioK_own, ioK_io, evA_io, evO_n, evO_e, evI_seq, evI_rng1, evI_rng2, evI_enum, evI_zip, evS_asg, evS_par, evS_setIx, evS_ex, evS_mut, evS_iF, evS_ret, evS_retS, rsK_val, rsK_own, evS_retN, evS_pass, evS_ct, evS_brk, resL_n, resL_c, kAnd_b, kOr_b, kNt_b, kO_i, kR1_i, kR22_i, evR_n, evR_c, noIo_un, noIo_val, noIo_own, of_val, of_own, chgS_k, chK_own, chK_io, heldS_k, lstS_k, lsK_own, lsK_io, putV_nm, putV_tup, putP_nm, putP_ixs, putP_tup, putPs_n, putPs_c, putN_n, putN_c, retV_s, retI_s, callD_0, callD_1, callD_2, callD_3, callD_4, ciK_own, ciK_io, callD_i1, callD_i2, forL_n, avS_v, avS_i, startS_c, startS_z, startS_u, isi_s, isi_t, isi_ll, isi_lt, isi_i, isi_ib, truD_b, len_l, len_t, max_ii, min_ii, int_i, list_l, list_t, tuple_l, tuple_t, eqD_ss, eqD_ii, c_eq, c_ne, c_lt, c_le, c_gt, c_ge, b_add, b_sub, isN_n, isN_i, ixT0, ixT1, kB1, kC1, kN, kIte, kIx, kSl, kCall, kCK2, kCK, kBlt, kG2, kG1, kG, kTr, kTC1, kTAnd, kTOr, kPs, kLs, kAs, kR2, kZ2, kZ, kFor, kLT2, kLT1, kLc, kIf, kAsg, kPar, kSx2, kSx, kMut, kRs, putS_k, RV.d, Option.bind_some, Option.bind_none, Option.map_some, Option.map_none, hideS, wipeS, backS, List.map_cons, List.map_nil, List.length_cons, List.length_nil, if_true, if_false, Bool.false_eq_true, eq_self, outsOf, decide_true, decide_false, Bool.not_true, Bool.not_false, Nat.reduceAdd, Nat.reduceLT, Nat.zero_add, s_kp, ixLlast, mut_a hm, kTup2]
      | take a =>
        simp -implicitDefEqProofs only [edD, wordD, toldD, sameW, joinE, List.map_append, sD_app, b_edits_put_together_0, seqO_nx, seqO_ret, seqO_ct, seqO_brk, getS_z, getS_s, set_z, set_s, evB_nil, evB_cons, evS_for, evE_lc, lcTurn_k, evE_c, evE_g, evE_v, takeS_k, tkK_val, tkK_own, peekS_k, pkK_val, pkK_own, pkK_io, res_val, res_slot, sdK_val, sdK_own, sdK_io, evE_bin, evE_neg, evE_cmp, evE_isN, evE_notN, evE_and, evE_or, evE_nt, evE_ite, evE_tup, evE_lst, evE_dct, evE_ix, evE_sl, evE_call, evE_callK, evE_blt, evE_isi, evE_get2, evT_tr, evT_cmp, evT_isN, evT_notN, evT_and, evT_or, evT_nt, evTo_n, evTo_s, evP_slot, evP_ex, evPs_n, evPs_c, evL_n, evL_c, evA_n, evA_e, ioK_own, ioK_io, evA_io, evO_n, evO_e, evI_seq, evI_rng1, evI_rng2, evI_enum, evI_zip, evS_asg, evS_par, evS_setIx, evS_ex, evS_mut, evS_iF, evS_ret, evS_retS, rsK_val, rsK_own, evS_retN, evS_pass, evS_ct, evS_brk, resL_n, resL_c, kAnd_b, kOr_b, kNt_b, kO_i, kR1_i, kR22_i, evR_n, evR_c, noIo_un, noIo_val, noIo_own, of_val, of_own, chgS_k, chK_own, chK_io, heldS_k, lstS_k, lsK_own, lsK_io, putV_nm, putV_tup, putP_nm, putP_ixs, putP_tup, putPs_n, putPs_c, putN_n, putN_c, retV_s, retI_s, callD_0, callD_1, callD_2, callD_3, callD_4, ciK_own, ciK_io, callD_i1, callD_i2, forL_n, avS_v, avS_i, startS_c, startS_z, startS_u, isi_s, isi_t, isi_ll, isi_lt, isi_i, isi_ib, truD_b, len_l, len_t, max_ii, min_ii, int_i, list_l, list_t, tuple_l, tuple_t, eqD_ss, eqD_ii, c_eq, c_ne, c_lt, c_le, c_gt, c_ge, b_add, b_sub, isN_n, isN_i, ixT0, ixT1, kB1, kC1, kN, kIte, kIx, kSl, kCall, kCK2, kCK, kBlt, kG2, kG1, kG, kTr, kTC1, kTAnd, kTOr, kPs, kLs, kAs, kR2, kZ2, kZ, kFor, kLT2, kLT1, kLc, kIf, kAsg, kPar, kSx2, kSx, kMut, kRs, putS_k, RV.d, Option.bind_some, Option.bind_none, Option.map_some, Option.map_none, hideS, wipeS, backS, List.map_cons, List.map_nil, List.length_cons, List.length_nil, if_true, if_false, Bool.false_eq_true, eq_self, outsOf, decide_true, decide_false, Bool.not_true, Bool.not_false, Nat.reduceAdd, Nat.reduceLT, Nat.zero_add, h2, h3, kLst0, kTup2, s_tp, ixLlast] at e0 hm ⊢
        simp -implicitDefEqProofs only [e0, seqO_nx, seqO_ret, seqO_ct, seqO_brk, getS_z, getS_s, set_z, set_s, evB_nil, evB_cons, evS_for, evE_lc, lcTurn_k, evE_c, evE_g, evE_v, takeS_k, tkK_val, tkK_own, peekS_k, pkK_val, pkK_own, pkK_io, res_val, res_slot, sdK_val, sdK_own, sdK_io, evE_bin, evE_neg, evE_cmp, evE_isN, evE_notN, evE_and, evE_or, evE_nt, evE_ite, evE_tup, evE_lst, evE_dct, evE_ix, evE_sl, evE_call, evE_callK, evE_blt, evE_isi, evE_get2, evT_tr, evT_cmp, evT_isN, evT_notN, evT_and, evT_or, evT_nt, evTo_n, evTo_s, evP_slot, evP_ex, evPs_n, evPs_c, evL_n, evL_c, evA_n, evA_e, ioK_own, ioK_io, evA_io, evO_n, evO_e, evI_seq, evI_rng1, evI_rng2, evI_enum, evI_zip, evS_asg, evS_par, evS_setIx, evS_ex, evS_mut, evS_iF, evS_ret, evS_retS, rsK_val, rsK_own, evS_retN, evS_pass, evS_ct, evS_brk, resL_n, resL_c, kAnd_b, kOr_b, kNt_b, kO_i, kR1_i, kR22_i, evR_n, evR_c, noIo_un, noIo_val, noIo_own, of_val, of_own, chgS_k, chK_own, chK_io, heldS_k, lstS_k, lsK_own, lsK_io, putV_nm, putV_tup, putP_nm, putP_ixs, putP_tup, putPs_n, putPs_c, putN_n, putN_c, retV_s, retI_s, callD_0, callD_1, callD_2, callD_3, callD_4, ciK_own, ciK_io, callD_i1, callD_i2, forL_n, avS_v, avS_i, startS_c, startS_z, startS_u, isi_s, isi_t, isi_ll, isi_lt, isi_i, isi_ib, truD_b, len_l, len_t, max_ii, min_ii, int_i, list_l, list_t, tuple_l, tuple_t, eqD_ss, eqD_ii, c_eq, c_ne, c_lt, c_le, c_gt, c_ge, b_add, b_sub, isN_n, isN_i, ixT0, ixT1, kB1, kC1, kN, kIte, kIx, kSl, kCall, kCK2, kCK, kBlt, kG2, kG1, kG, kTr, kTC1, kTAnd, kTOr, kPs, kLs, kAs, kR2, kZ2, kZ, kFor, kLT2, kLT1, kLc, kIf, kAsg, kPar, kSx2, kSx, kMut, kRs, putS_k, RV.d, Option.bind_some, Option.bind_none, Option.map_some, Option.map_none, hideS, wipeS, backS, List.map_cons, List.map_nil, List.length_cons, List.length_nil, if_true, if_false, Bool.false_eq_true, eq_self, outsOf, decide_true, decide_false, Bool.not_true, Bool.not_false, Nat.reduceAdd, Nat.reduceLT, Nat.zero_add, s_tp, ixLlast, mut_a hm, kTup2]
    | keep b =>
      cases l with
      | put a =>
        simp -implicitDefEqProofs only [edD, wordD, toldD, sameW, joinE, List.map_append, sD_app, b_edits_put_together_0, seqO_nx, seqO_ret, seqO_ct, seqO_brk, getS_z, getS_s, set_z, set_s, evB_nil, evB_cons, evS_for, evE_lc, lcTurn_k, evE_c, evE_g, evE_v, takeS_k, tkK_val, tkK_own, peekS_k, pkK_val, pkK_own, pkK_io, res_val, res_slot, sdK_val, sdK_own, sdK_io, evE_bin, evE_neg, evE_cmp, evE_isN, evE_notN, evE_and, evE_or, evE_nt, evE_ite, evE_tup, evE_lst, evE_dct, evE_ix, evE_sl, evE_call, evE_callK, evE_blt, evE_isi, evE_get2, evT_tr, evT_cmp, evT_isN, evT_notN, evT_and, evT_or, evT_nt, evTo_n, evTo_s, evP_slot, evP_ex, evPs_n, evPs_c, evL_n, evL_c, evA_n, evA_e, ioK_own, ioK_io, evA_io, evO_n, evO_e, evI_seq, evI_rng1, evI_rng2, evI_enum, evI_zip, evS_asg, evS_par, evS_setIx, evS_ex, evS_mut, evS_iF, evS_ret, evS_retS, rsK_val, rsK_own, evS_retN, evS_pass, evS_ct, evS_brk, resL_n, resL_c, kAnd_b, kOr_b, kNt_b, kO_i, kR1_i, kR22_i, evR_n, evR_c, noIo_un, noIo_val, noIo_own, of_val, of_own, chgS_k, chK_own, chK_io, heldS_k, lstS_k, lsK_own, lsK_io, putV_nm, putV_tup, putP_nm, putP_ixs, putP_tup, putPs_n, putPs_c, putN_n, putN_c, retV_s, retI_s, callD_0, callD_1, callD_2, callD_3, callD_4, ciK_own, ciK_io, callD_i1, callD_i2, forL_n, avS_v, avS_i, startS_c, startS_z, startS_u, isi_s, isi_t, isi_ll, isi_lt, isi_i, isi_ib, truD_b, len_l, len_t, max_ii, min_ii, int_i, list_l, list_t, tuple_l, tuple_t, eqD_ss, eqD_ii, c_eq, c_ne, c_lt, c_le, c_gt, c_ge, b_add, b_sub, isN_n, isN_i, ixT0, ixT1, kB1, kC1, kN, kIte, kIx, kSl, kCall, kCK2, kCK, kBlt, kG2, kG1, kG, kTr, kTC1, kTAnd, kTOr, kPs, kLs, kAs, kR2, kZ2, kZ, kFor, kLT2, kLT1, kLc, kIf, kAsg, kPar, kSx2, kSx, kMut, kRs, putS_k, RV.d, Option.bind_some, Option.bind_none, Option.map_some, Option.map_none, hideS, wipeS, backS, List.map_cons, List.map_nil, List.length_cons, List.length_nil, if_true, if_false, Bool.false_eq_true, eq_self, outsOf, decide_true, decide_false, Bool.not_true, Bool.not_false, Nat.reduceAdd, Nat.reduceLT, Nat.zero_add, h2, h3, kLst0, kTup2, s_pk, ixLlast] at e0 hm ⊢
        simp -implicitDefEqProofs only [e0, seqO_nx, seqO_ret, seqO_ct, seqO_brk, getS_z, getS_s, set_z, set_s, evB_nil, evB_cons, evS_for, evE_lc, lcTurn_k, evE_c, evE_g, evE_v, takeS_k, tkK_val, tkK_own, peekS_k, pkK_val, pkK_own, pkK_io, res_val, res_slot, sdK_val, sdK_own, sdK_io, evE_bin, evE_neg, evE_cmp, evE_isN, evE_notN, evE_and, evE_or, evE_nt, evE_ite, evE_tup, evE_lst, evE_dct, evE_ix, evE_sl, evE_call, evE_callK, evE_blt, evE_isi, evE_get2, evT_tr, evT_cmp, evT_isN, evT_notN, evT_and, evT_or, evT_nt, evTo_n, evTo_s, evP_slot, evP_ex, evPs_n, evPs_c, evL_n, evL_c, evA_n, evA_e, ioK_own, ioK_io, evA_io, evO_n, evO_e, evI_seq, evI_rng1, evI_rng2, evI_enum, evI_zip, evS_asg, evS_par, evS_setIx, evS_ex, evS_mut, evS_iF, evS_ret, evS_retS, rsK_val, rsK_own, evS_retN, evS_pass, evS_ct, evS_brk, resL_n, resL_c, kAnd_b, kOr_b, kNt_b, kO_i, kR1_i, kR22_i, evR_n, evR_c, noIo_un, noIo_val, noIo_own, of_val, of_own, chgS_k, chK_own, chK_io, heldS_k, lstS_k, lsK_own, lsK_io, putV_nm, putV_tup, putP_nm, putP_ixs, putP_tup, putPs_n, putPs_c, putN_n, putN_c, retV_s, retI_s, callD_0, callD_1, callD_2, callD_3, callD_4, ciK_own, ciK_io, callD_i1, callD_i2, forL_n, avS_v, avS_i, startS_c, startS_z, startS_u, isi_s, isi_t, isi_ll, isi_lt, isi_i, isi_ib, truD_b, len_l, len_t, max_ii, min_ii, int_i, list_l, list_t, tuple_l, tuple_t, eqD_ss, eqD_ii, c_eq, c_ne, c_lt, c_le, c_gt, c_ge, b_add, b_sub, isN_n, isN_i, ixT0, ixT1, kB1, kC1, kN, kIte, kIx, kSl, kCall, kCK2, kCK, kBlt, kG2, kG1, kG, kTr, kTC1, kTAnd, kTOr, kPs, kLs, kAs, kR2, kZ2, kZ, kFor, kLT2, kLT1, kLc, kIf, kAsg, kPar, kSx2, kSx, kMut, kRs, putS_k, RV.d, Option.bind_some, Option.bind_none, Option.map_some, Option.map_none, hideS, wipeS, backS, List.map_cons, List.map_nil, List.length_cons, List.length_nil, if_true, if_false, Bool.false_eq_true, eq_self, outsOf, decide_true, decide_false, Bool.not_true, Bool.not_false, Nat.reduceAdd, Nat.reduceLT, Nat.zero_add, s_pk, ixLlast, mut_a hm, kTup2]
      | keep a =>
        simp -implicitDefEqProofs only [edD, wordD, toldD, sameW, joinE, List.map_append, sD_app, b_edits_put_together_0, seqO_nx, seqO_ret, seqO_ct, seqO_brk, getS_z, getS_s, set_z, set_s, evB_nil, evB_cons, evS_for, evE_lc, lcTurn_k, evE_c, evE_g, evE_v, takeS_k, tkK_val, tkK_own, peekS_k, pkK_val, pkK_own, pkK_io, res_val, res_slot, sdK_val, sdK_own, sdK_io, evE_bin, evE_neg, evE_cmp, evE_isN, evE_notN, evE_and, evE_or, evE_nt, evE_ite, evE_tup, evE_lst, evE_dct, evE_ix, evE_sl, evE_call, evE_callK, evE_blt, evE_isi, evE_get2, evT_tr, evT_cmp, evT_isN, evT_notN, evT_and, evT_or, evT_nt, evTo_n, evTo_s, evP_slot, evP_ex, evPs_n, evPs_c, evL_n, evL_c, evA_n, evA_e, ioK_own, ioK_io, evA_io, evO_n, evO_e, evI_seq, evI_rng1, evI_rng2, evI_enum, evI_zip, evS_asg, evS_par, evS_setIx, evS_ex, evS_mut, evS_iF, evS_ret, evS_retS, rsK_val, rsK_own, evS_retN, evS_pass, evS_ct, evS_brk, resL_n, resL_c, kAnd_b, kOr_b, kNt_b, kO_i, kR1_i, kR22_i, evR_n, evR_c, noIo_un, noIo_val, noIo_own, of_val, of_own, chgS_k, chK_own, chK_io, heldS_k, lstS_k, lsK_own, lsK_io, putV_nm, putV_tup, putP_nm, putP_ixs, putP_tup, putPs_n, putPs_c, putN_n, putN_c, retV_s, retI_s, callD_0, callD_1, callD_2, callD_3, callD_4, ciK_own, ciK_io, callD_i1, callD_i2, forL_n, avS_v, avS_i, startS_c, startS_z, startS_u, isi_s, isi_t, isi_ll, isi_lt, isi_i, isi_ib, truD_b, len_l, len_t, max_ii, min_ii, int_i, list_l, list_t, tuple_l, tuple_t, eqD_ss, eqD_ii, c_eq, c_ne, c_lt, c_le, c_gt, c_ge, b_add, b_sub, isN_n, isN_i, ixT0, ixT1, kB1, kC1, kN, kIte, kIx, kSl, kCall, kCK2, kCK, kBlt, kG2, kG1, kG, kTr, kTC1, kTAnd, kTOr, kPs, kLs, kAs, kR2, kZ2, kZ, kFor, kLT2, kLT1, kLc, kIf, kAsg, kPar, kSx2, kSx, kMut, kRs, putS_k, RV.d, Option.bind_some, Option.bind_none, Option.map_some, Option.map_none, hideS, wipeS, backS, List.map_cons, List.map_nil, List.length_cons, List.length_nil, if_true, if_false, Bool.false_eq_true, eq_self, outsOf, decide_true, decide_false, Bool.not_true, Bool.not_false, Nat.reduceAdd, Nat.reduceLT, Nat.zero_add, h2, h3, kLst0, kTup2, s_kk, ixLlast, setLlast] at e0 hm ⊢
        simp -implicitDefEqProofs only [e0, seqO_nx, seqO_ret, seqO_ct, seqO_brk, getS_z, getS_s, set_z, set_s, evB_nil, evB_cons, evS_for, evE_lc, lcTurn_k, evE_c, evE_g, evE_v, takeS_k, tkK_val, tkK_own, peekS_k, pkK_val, pkK_own, pkK_io, res_val, res_slot, sdK_val, sdK_own, sdK_io, evE_bin, evE_neg, evE_cmp, evE_isN, evE_notN, evE_and, evE_or, evE_nt, evE_ite, evE_tup, evE_lst, evE_dct, evE_ix, evE_sl, evE_call, evE_callK, evE_blt, evE_isi, evE_get2, evT_tr, evT_cmp, evT_isN, evT_notN, evT_and, evT_or, evT_nt, evTo_n, evTo_s, evP_slot, evP_ex, evPs_n, evPs_c, evL_n, evL_c, evA_n, evA_e, ioK_own, ioK_io, evA_io, evO_n, evO_e, evI_seq, evI_rng1, evI_rng2, evI_enum, evI_zip, evS_asg, evS_par, evS_setIx, evS_ex, evS_mut, evS_iF, evS_ret, evS_retS, rsK_val, rsK_own, evS_retN, evS_pass, evS_ct, evS_brk, resL_n, resL_c, kAnd_b, kOr_b, kNt_b, kO_i, kR1_i, kR22_i, evR_n, evR_c, noIo_un, noIo_val, noIo_own, of_val, of_own, chgS_k, chK_own, chK_io, heldS_k, lstS_k, lsK_own, lsK_io, putV_nm, putV_tup, putP_nm, putP_ixs, putP_tup, putPs_n, putPs_c, putN_n, putN_c, retV_s, retI_s, callD_0, callD_1, callD_2, callD_3, callD_4, ciK_own, ciK_io, callD_i1, callD_i2, forL_n, avS_v, avS_i, startS_c, startS_z, startS_u, isi_s, isi_t, isi_ll, isi_lt, isi_i, isi_ib, truD_b, len_l, len_t, max_ii, min_ii, int_i, list_l, list_t, tuple_l, tuple_t, eqD_ss, eqD_ii, c_eq, c_ne, c_lt, c_le, c_gt, c_ge, b_add, b_sub, isN_n, isN_i, ixT0, ixT1, kB1, kC1, kN, kIte, kIx, kSl, kCall, kCK2, kCK, kBlt, kG2, kG1, kG, kTr, kTC1, kTAnd, kTOr, kPs, kLs, kAs, kR2, kZ2, kZ, kFor, kLT2, kLT1, kLc, kIf, kAsg, kPar, kSx2, kSx, kMut, kRs, putS_k, RV.d, Option.bind_some, Option.bind_none, Option.map_some, Option.map_none, hideS, wipeS, backS, List.map_cons, List.map_nil, List.length_cons, List.length_nil, if_true, if_false, Bool.false_eq_true, eq_self, outsOf, decide_true, decide_false, Bool.not_true, Bool.not_false, Nat.reduceAdd, Nat.reduceLT, Nat.zero_add, s_kk, ixLlast, setLlast, kTup2, Int.natCast_add]
      | take a =>
        simp -implicitDefEqProofs only [edD, wordD, toldD, sameW, joinE, List.map_append, sD_app, b_edits_put_together_0, seqO_nx, seqO_ret, seqO_ct, seqO_brk, getS_z, getS_s, set_z, set_s, evB_nil, evB_cons, evS_for, evE_lc, lcTurn_k, evE_c, evE_g, evE_v, takeS_k, tkK_val, tkK_own, peekS_k, pkK_val, pkK_own, pkK_io, res_val, res_slot, sdK_val, sdK_own, sdK_io, evE_bin, evE_neg, evE_cmp, evE_isN, evE_notN, evE_and, evE_or, evE_nt, evE_ite, evE_tup, evE_lst, evE_dct, evE_ix, evE_sl, evE_call, evE_callK, evE_blt, evE_isi, evE_get2, evT_tr, evT_cmp, evT_isN, evT_notN, evT_and, evT_or, evT_nt, evTo_n, evTo_s, evP_slot, evP_ex, evPs_n, evPs_c, evL_n, evL_c, evA_n, evA_e, ioK_own, ioK_io, evA_io, evO_n, evO_e, evI_seq, evI_rng1, evI_rng2, evI_enum, evI_zip, evS_asg, evS_par, evS_setIx, evS_ex, evS_mut, evS_iF, evS_ret, evS_retS, rsK_val, rsK_own, evS_retN, evS_pass, evS_ct, evS_brk, resL_n, resL_c, kAnd_b, kOr_b, kNt_b, kO_i, kR1_i, kR22_i, evR_n, evR_c, noIo_un, noIo_val, noIo_own, of_val, of_own, chgS_k, chK_own, chK_io, heldS_k, lstS_k, lsK_own, lsK_io, putV_nm, putV_tup, putP_nm, putP_ixs, putP_tup, putPs_n, putPs_c, putN_n, putN_c, retV_s, retI_s, callD_0, callD_1, callD_2, callD_3, callD_4, ciK_own, ciK_io, callD_i1, callD_i2, forL_n, avS_v, avS_i, startS_c, startS_z, startS_u, isi_s, isi_t, isi_ll, isi_lt, isi_i, isi_ib, truD_b, len_l, len_t, max_ii, min_ii, int_i, list_l, list_t, tuple_l, tuple_t, eqD_ss, eqD_ii, c_eq, c_ne, c_lt, c_le, c_gt, c_ge, b_add, b_sub, isN_n, isN_i, ixT0, ixT1, kB1, kC1, kN, kIte, kIx, kSl, kCall, kCK2, kCK, kBlt, kG2, kG1, kG, kTr, kTC1, kTAnd, kTOr, kPs, kLs, kAs, kR2, kZ2, kZ, kFor, kLT2, kLT1, kLc, kIf, kAsg, kPar, kSx2, kSx, kMut, kRs, putS_k, RV.d, Option.bind_some, Option.bind_none, Option.map_some, Option.map_none, hideS, wipeS, backS, List.map_cons, List.map_nil, List.length_cons, List.length_nil, if_true, if_false, Bool.false_eq_true, eq_self, outsOf, decide_true, decide_false, Bool.not_true, Bool.not_false, Nat.reduceAdd, Nat.reduceLT, Nat.zero_add, h2, h3, kLst0, kTup2, s_tk, ixLlast] at e0 hm ⊢
        simp -implicitDefEqProofs only [e0, seqO_nx, seqO_ret, seqO_ct, seqO_brk, getS_z, getS_s, set_z, set_s, evB_nil, evB_cons, evS_for, evE_lc, lcTurn_k, evE_c, evE_g, evE_v, takeS_k, tkK_val, tkK_own, peekS_k, pkK_val, pkK_own, pkK_io, res_val, res_slot, sdK_val, sdK_own, sdK_io, evE_bin, evE_neg, evE_cmp, evE_isN, evE_notN, evE_and, evE_or, evE_nt, evE_ite, evE_tup, evE_lst, evE_dct, evE_ix, evE_sl, evE_call, evE_callK, evE_blt, evE_isi, evE_get2, evT_tr, evT_cmp, evT_isN, evT_notN, evT_and, evT_or, evT_nt, evTo_n, evTo_s, evP_slot, evP_ex, evPs_n, evPs_c, evL_n, evL_c, evA_n, evA_e, ioK_own, ioK_io, evA_io, evO_n, evO_e, evI_seq, evI_rng1, evI_rng2, evI_enum, evI_zip, evS_asg, evS_par, evS_setIx, evS_ex, evS_mut, evS_iF, evS_ret, evS_retS, rsK_val, rsK_own, evS_retN, evS_pass, evS_ct, evS_brk, resL_n, resL_c, kAnd_b, kOr_b, kNt_b, kO_i, kR1_i, kR22_i, evR_n, evR_c, noIo_un, noIo_val, noIo_own, of_val, of_own, chgS_k, chK_own, chK_io, heldS_k, lstS_k, lsK_own, lsK_io, putV_nm, putV_tup, putP_nm, putP_ixs, putP_tup, putPs_n, putPs_c, putN_n, putN_c, retV_s, retI_s, callD_0, callD_1, callD_2, callD_3, callD_4, ciK_own, ciK_io, callD_i1, callD_i2, forL_n, avS_v, avS_i, startS_c, startS_z, startS_u, isi_s, isi_t, isi_ll, isi_lt, isi_i, isi_ib, truD_b, len_l, len_t, max_ii, min_ii, int_i, list_l, list_t, tuple_l, tuple_t, eqD_ss, eqD_ii, c_eq, c_ne, c_lt, c_le, c_gt, c_ge, b_add, b_sub, isN_n, isN_i, ixT0, ixT1, kB1, kC1, kN, kIte, kIx, kSl, kCall, kCK2, kCK, kBlt, kG2, kG1, kG, kTr, kTC1, kTAnd, kTOr, kPs, kLs, kAs, kR2, kZ2, kZ, kFor, kLT2, kLT1, kLc, kIf, kAsg, kPar, kSx2, kSx, kMut, kRs, putS_k, RV.d, Option.bind_some, Option.bind_none, Option.map_some, Option.map_none, hideS, wipeS, backS, List.map_cons, List.map_nil, List.length_cons, List.length_nil, if_true, if_false, Bool.false_eq_true, eq_self, outsOf, decide_true, decide_false, Bool.not_true, Bool.not_false, Nat.reduceAdd, Nat.reduceLT, Nat.zero_add, s_tk, ixLlast, mut_a hm, kTup2]
    | take b =>
      cases l with
      | put a =>
        simp -implicitDefEqProofs only [edD, wordD, toldD, sameW, joinE, List.map_append, sD_app, b_edits_put_together_0, seqO_nx, seqO_ret, seqO_ct, seqO_brk, getS_z, getS_s, set_z, set_s, evB_nil, evB_cons, evS_for, evE_lc, lcTurn_k, evE_c, evE_g, evE_v, takeS_k, tkK_val, tkK_own, peekS_k, pkK_val, pkK_own, pkK_io, res_val, res_slot, sdK_val, sdK_own, sdK_io, evE_bin, evE_neg, evE_cmp, evE_isN, evE_notN, evE_and, evE_or, evE_nt, evE_ite, evE_tup, evE_lst, evE_dct, evE_ix, evE_sl, evE_call, evE_callK, evE_blt, evE_isi, evE_get2, evT_tr, evT_cmp, evT_isN, evT_notN, evT_and, evT_or, evT_nt, evTo_n, evTo_s, evP_slot, evP_ex, evPs_n, evPs_c, evL_n, evL_c, evA_n, evA_e, ioK_own, ioK_io, evA_io, evO_n, evO_e, evI_seq, evI_rng1, evI_rng2, evI_enum, evI_zip, evS_asg, evS_par, evS_setIx, evS_ex, evS_mut, evS_iF, evS_ret, evS_retS, rsK_val, rsK_own, evS_retN, evS_pass, evS_ct, evS_brk, resL_n, resL_c, kAnd_b, kOr_b, kNt_b, kO_i, kR1_i, kR22_i, evR_n, evR_c, noIo_un, noIo_val, noIo_own, of_val, of_own, chgS_k, chK_own, chK_io, heldS_k, lstS_k, lsK_own, lsK_io, putV_nm, putV_tup, putP_nm, putP_ixs, putP_tup, putPs_n, putPs_c, putN_n, putN_c, retV_s, retI_s, callD_0, callD_1, callD_2, callD_3, callD_4, ciK_own, ciK_io, callD_i1, callD_i2, forL_n, avS_v, avS_i, startS_c, startS_z, startS_u, isi_s, isi_t, isi_ll, isi_lt, isi_i, isi_ib, truD_b, len_l, len_t, max_ii, min_ii, int_i, list_l, list_t, tuple_l, tuple_t, eqD_ss, eqD_ii, c_eq, c_ne, c_lt, c_le, c_gt, c_ge, b_add, b_sub, isN_n, isN_i, ixT0, ixT1, kB1, kC1, kN, kIte, kIx, kSl, kCall, kCK2, kCK, kBlt, kG2, kG1, kG, kTr, kTC1, kTAnd, kTOr, kPs, kLs, kAs, kR2, kZ2, kZ, kFor, kLT2, kLT1, kLc, kIf, kAsg, kPar, kSx2, kSx, kMut, kRs, putS_k, RV.d, Option.bind_some, Option.bind_none, Option.map_some, Option.map_none, hideS, wipeS, backS, List.map_cons, List.map_nil, List.length_cons, List.length_nil, if_true, if_false, Bool.false_eq_true, eq_self, outsOf, decide_true, decide_false, Bool.not_true, Bool.not_false, Nat.reduceAdd, Nat.reduceLT, Nat.zero_add, h2, h3, kLst0, kTup2, s_pt, ixLlast] at e0 hm ⊢
        simp -implicitDefEqProofs only [e0, seqO_nx, seqO_ret, seqO_ct, seqO_brk, getS_z, getS_s, set_z, set_s, evB_nil, evB_cons, evS_for, evE_lc, lcTurn_k, evE_c, evE_g, evE_v, takeS_k, tkK_val, tkK_own, peekS_k, pkK_val, pkK_own, pkK_io, res_val, res_slot, sdK_val, sdK_own, sdK_io, evE_bin, evE_neg, evE_cmp, evE_isN, evE_notN, evE_and, evE_or, evE_nt, evE_ite, evE_tup, evE_lst, evE_dct, evE_ix, evE_sl, evE_call, evE_callK, evE_blt, evE_isi, evE_get2, evT_tr, evT_cmp, evT_isN, evT_notN, evT_and, evT_or, evT_nt, evTo_n, evTo_s, evP_slot, evP_ex, evPs_n, evPs_c, evL_n, evL_c, evA_n, evA_e, ioK_own, ioK_io, evA_io, evO_n, evO_e, evI_seq, evI_rng1, evI_rng2, evI_enum, evI_zip, evS_asg, evS_par, evS_setIx, evS_ex, evS_mut, evS_iF, evS_ret, evS_retS, rsK_val, rsK_own, evS_retN, evS_pass, evS_ct, evS_brk, resL_n, resL_c, kAnd_b, kOr_b, kNt_b, kO_i, kR1_i, kR22_i, evR_n, evR_c, noIo_un, noIo_val, noIo_own, of_val, of_own, chgS_k, chK_own, chK_io, heldS_k, lstS_k, lsK_own, lsK_io, putV_nm, putV_tup, putP_nm, putP_ixs, putP_tup, putPs_n, putPs_c, putN_n, putN_c, retV_s, retI_s, callD_0, callD_1, callD_2, callD_3, callD_4, ciK_own, ciK_io, callD_i1, callD_i2, forL_n, avS_v, avS_i, startS_c, startS_z, startS_u, isi_s, isi_t, isi_ll, isi_lt, isi_i, isi_ib, truD_b, len_l, len_t, max_ii, min_ii, int_i, list_l, list_t, tuple_l, tuple_t, eqD_ss, eqD_ii, c_eq, c_ne, c_lt, c_le, c_gt, c_ge, b_add, b_sub, isN_n, isN_i, ixT0, ixT1, kB1, kC1, kN, kIte, kIx, kSl, kCall, kCK2, kCK, kBlt, kG2, kG1, kG, kTr, kTC1, kTAnd, kTOr, kPs, kLs, kAs, kR2, kZ2, kZ, kFor, kLT2, kLT1, kLc, kIf, kAsg, kPar, kSx2, kSx, kMut, kRs, putS_k, RV.d, Option.bind_some, Option.bind_none, Option.map_some, Option.map_none, hideS, wipeS, backS, List.map_cons, List.map_nil, List.length_cons, List.length_nil, if_true, if_false, Bool.false_eq_true, eq_self, outsOf, decide_true, decide_false, Bool.not_true, Bool.not_false, Nat.reduceAdd, Nat.reduceLT, Nat.zero_add, s_pt, ixLlast, mut_a hm, kTup2]
      | keep a =>
        simp -implicitDefEqProofs only [edD, wordD, toldD, sameW, joinE, List.map_append, sD_app, b_edits_put_together_0, seqO_nx, seqO_ret, seqO_ct, seqO_brk, getS_z, getS_s, set_z, set_s, evB_nil, evB_cons, evS_for, evE_lc, lcTurn_k, evE_c, evE_g, evE_v, takeS_k, tkK_val, tkK_own, peekS_k, pkK_val, pkK_own, pkK_io, res_val, res_slot, sdK_val, sdK_own, sdK_io, evE_bin, evE_neg, evE_cmp, evE_isN, evE_notN, evE_and, evE_or, evE_nt, evE_ite, evE_tup, evE_lst, evE_dct, evE_ix, evE_sl, evE_call, evE_callK, evE_blt, evE_isi, evE_get2, evT_tr, evT_cmp, evT_isN, evT_notN, evT_and, evT_or, evT_nt, evTo_n, evTo_s, evP_slot, evP_ex, evPs_n, evPs_c, evL_n, evL_c, evA_n, evA_e, ioK_own, ioK_io, evA_io, evO_n, evO_e, evI_seq, evI_rng1, evI_rng2, evI_enum, evI_zip, evS_asg, evS_par, evS_setIx, evS_ex, evS_mut, evS_iF, evS_ret, evS_retS, rsK_val, rsK_own, evS_retN, evS_pass, evS_ct, evS_brk, resL_n, resL_c, kAnd_b, kOr_b, kNt_b, kO_i, kR1_i, kR22_i, evR_n, evR_c, noIo_un, noIo_val, noIo_own, of_val, of_own, chgS_k, chK_own, chK_io, heldS_k, lstS_k, lsK_own, lsK_io, putV_nm, putV_tup, putP_nm, putP_ixs, putP_tup, putPs_n, putPs_c, putN_n, putN_c, retV_s, retI_s, callD_0, callD_1, callD_2, callD_3, callD_4, ciK_own, ciK_io, callD_i1, callD_i2, forL_n, avS_v, avS_i, startS_c, startS_z, startS_u, isi_s, isi_t, isi_ll, isi_lt, isi_i, isi_ib, truD_b, len_l, len_t, max_ii, min_ii, int_i, list_l, list_t, tuple_l, tuple_t, eqD_ss, eqD_ii, c_eq, c_ne, c_lt, c_le, c_gt, c_ge, b_add, b_sub, isN_n, isN_i, ixT0, ixT1, kB1, kC1, kN, kIte, kIx, kSl, kCall, kCK2, kCK, kBlt, kG2, kG1, kG, kTr, kTC1, kTAnd, kTOr, kPs, kLs, kAs, kR2, kZ2, kZ, kFor, kLT2, kLT1, kLc, kIf, kAsg, kPar, kSx2, kSx, kMut, kRs, putS_k, RV.d, Option.bind_some, Option.bind_none, Option.map_some, Option.map_none, hideS, wipeS, backS, List.map_cons, List.map_nil, List.length_cons, List.length_nil, if_true, if_false, Bool.false_eq_true, eq_self, outsOf, decide_true, decide_false, Bool.not_true, Bool.not_false, Nat.reduceAdd, Nat.reduceLT, Nat.zero_add, h2, h3, kLst0, kTup2, s_kt, ixLlast] at e0 hm ⊢
        simp -implicitDefEqProofs only [e0, seqO_nx, seqO_ret, seqO_ct, seqO_brk, getS_z, getS_s, set_z, set_s, evB_nil, evB_cons, evS_for, evE_lc, lcTurn_k, evE_c, evE_g, evE_v, takeS_k, tkK_val, tkK_own, peekS_k, pkK_val, pkK_own, pkK_io, res_val, res_slot, sdK_val, sdK_own, sdK_io, evE_bin, evE_neg, evE_cmp, evE_isN, evE_notN, evE_and, evE_or, evE_nt, evE_ite, evE_tup, evE_lst, evE_dct, evE_ix, evE_sl, evE_call, evE_callK, evE_blt, evE_isi, evE_get2, evT_tr, evT_cmp, evT_isN, evT_notN, evT_and, evT_or, evT_nt, evTo_n, evTo_s, evP_slot, evP_ex, evPs_n, evPs_c, evL_n, evL_c, evA_n, evA_e, ioK_own, ioK_io, evA_io, evO_n, evO_e, evI_seq, evI_rng1, evI_rng2, evI_enum, evI_zip, evS_asg, evS_par, evS_setIx, evS_ex, evS_mut, evS_iF, evS_ret, evS_retS, rsK_val, rsK_own, evS_retN, evS_pass, evS_ct, evS_brk, resL_n, resL_c, kAnd_b, kOr_b, kNt_b, kO_i, kR1_i, kR22_i, evR_n, evR_c, noIo_un, noIo_val, noIo_own, of_val, of_own, chgS_k, chK_own, chK_io, heldS_k, lstS_k, lsK_own, lsK_io, putV_nm, putV_tup, putP_nm, putP_ixs, putP_tup, putPs_n, putPs_c, putN_n, putN_c, retV_s, retI_s, callD_0, callD_1, callD_2, callD_3, callD_4, ciK_own, ciK_io, callD_i1, callD_i2, forL_n, avS_v, avS_i, startS_c, startS_z, startS_u, isi_s, isi_t, isi_ll, isi_lt, isi_i, isi_ib, truD_b, len_l, len_t, max_ii, min_ii, int_i, list_l, list_t, tuple_l, tuple_t, eqD_ss, eqD_ii, c_eq, c_ne, c_lt, c_le, c_gt, c_ge, b_add, b_sub, isN_n, isN_i, ixT0, ixT1, kB1, kC1, kN, kIte, kIx, kSl, kCall, kCK2, kCK, kBlt, kG2, kG1, kG, kTr, kTC1, kTAnd, kTOr, kPs, kLs, kAs, kR2, kZ2, kZ, kFor, kLT2, kLT1, kLc, kIf, kAsg, kPar, kSx2, kSx, kMut, kRs, putS_k, RV.d, Option.bind_some, Option.bind_none, Option.map_some, Option.map_none, hideS, wipeS, backS, List.map_cons, List.map_nil, List.length_cons, List.length_nil, if_true, if_false, Bool.false_eq_true, eq_self, outsOf, decide_true, decide_false, Bool.not_true, Bool.not_false, Nat.reduceAdd, Nat.reduceLT, Nat.zero_add, s_kt, ixLlast, mut_a hm, kTup2]
      | take a =>
        simp -implicitDefEqProofs only [edD, wordD, toldD, sameW, joinE, List.map_append, sD_app, b_edits_put_together_0, seqO_nx, seqO_ret, seqO_ct, seqO_brk, getS_z, getS_s, set_z, set_s, evB_nil, evB_cons, evS_for, evE_lc, lcTurn_k, evE_c, evE_g, evE_v, takeS_k, tkK_val, tkK_own, peekS_k, pkK_val, pkK_own, pkK_io, res_val, res_slot, sdK_val, sdK_own, sdK_io, evE_bin, evE_neg, evE_cmp, evE_isN, evE_notN, evE_and, evE_or, evE_nt, evE_ite, evE_tup, evE_lst, evE_dct, evE_ix, evE_sl, evE_call, evE_callK, evE_blt, evE_isi, evE_get2, evT_tr, evT_cmp, evT_isN, evT_notN, evT_and, evT_or, evT_nt, evTo_n, evTo_s, evP_slot, evP_ex, evPs_n, evPs_c, evL_n, evL_c, evA_n, evA_e, ioK_own, ioK_io, evA_io, evO_n, evO_e, evI_seq, evI_rng1, evI_rng2, evI_enum, evI_zip, evS_asg, evS_par, evS_setIx, evS_ex, evS_mut, evS_iF, evS_ret, evS_retS, rsK_val, rsK_own, evS_retN, evS_pass, evS_ct, evS_brk, resL_n, resL_c, kAnd_b, kOr_b, kNt_b, kO_i, kR1_i, kR22_i, evR_n, evR_c, noIo_un, noIo_val, noIo_own, of_val, of_own, chgS_k, chK_own, chK_io, heldS_k, lstS_k, lsK_own, lsK_io, putV_nm, putV_tup, putP_nm, putP_ixs, putP_tup, putPs_n, putPs_c, putN_n, putN_c, retV_s, retI_s, callD_0, callD_1, callD_2, callD_3, callD_4, ciK_own, ciK_io, callD_i1, callD_i2, forL_n, avS_v, avS_i, startS_c, startS_z, startS_u, isi_s, isi_t, isi_ll, isi_lt, isi_i, isi_ib, truD_b, len_l, len_t, max_ii, min_ii, int_i, list_l, list_t, tuple_l, tuple_t, eqD_ss, eqD_ii, c_eq, c_ne, c_lt, c_le, c_gt, c_ge, b_add, b_sub, isN_n, isN_i, ixT0, ixT1, kB1, kC1, kN, kIte, kIx, kSl, kCall, kCK2, kCK, kBlt, kG2, kG1, kG, kTr, kTC1, kTAnd, kTOr, kPs, kLs, kAs, kR2, kZ2, kZ, kFor, kLT2, kLT1, kLc, kIf, kAsg, kPar, kSx2, kSx, kMut, kRs, putS_k, RV.d, Option.bind_some, Option.bind_none, Option.map_some, Option.map_none, hideS, wipeS, backS, List.map_cons, List.map_nil, List.length_cons, List.length_nil, if_true, if_false, Bool.false_eq_true, eq_self, outsOf, decide_true, decide_false, Bool.not_true, Bool.not_false, Nat.reduceAdd, Nat.reduceLT, Nat.zero_add, h2, h3, kLst0, kTup2, s_tt, ixLlast, setLlast] at e0 hm ⊢
        simp -implicitDefEqProofs only [e0, seqO_nx, seqO_ret, seqO_ct, seqO_brk, getS_z, getS_s, set_z, set_s, evB_nil, evB_cons, evS_for, evE_lc, lcTurn_k, evE_c, evE_g, evE_v, takeS_k, tkK_val, tkK_own, peekS_k, pkK_val, pkK_own, pkK_io, res_val, res_slot, sdK_val, sdK_own, sdK_io, evE_bin, evE_neg, evE_cmp, evE_isN, evE_notN, evE_and, evE_or, evE_nt, evE_ite, evE_tup, evE_lst, evE_dct, evE_ix, evE_sl, evE_call, evE_callK, evE_blt, evE_isi, evE_get2, evT_tr, evT_cmp, evT_isN, evT_notN, evT_and, evT_or, evT_nt, evTo_n, evTo_s, evP_slot, evP_ex, evPs_n, evPs_c, evL_n, evL_c, evA_n, evA_e, ioK_own, ioK_io, evA_io, evO_n, evO_e, evI_seq, evI_rng1, evI_rng2, evI_enum, evI_zip, evS_asg, evS_par, evS_setIx, evS_ex, evS_mut, evS_iF, evS_ret, evS_retS, rsK_val, rsK_own, evS_retN, evS_pass, evS_ct, evS_brk, resL_n, resL_c, kAnd_b, kOr_b, kNt_b, kO_i, kR1_i, kR22_i, evR_n, evR_c, noIo_un, noIo_val, noIo_own, of_val, of_own, chgS_k, chK_own, chK_io, heldS_k, lstS_k, lsK_own, lsK_io, putV_nm, putV_tup, putP_nm, putP_ixs, putP_tup, putPs_n, putPs_c, putN_n, putN_c, retV_s, retI_s, callD_0, callD_1, callD_2, callD_3, callD_4, ciK_own, ciK_io, callD_i1, callD_i2, forL_n, avS_v, avS_i, startS_c, startS_z, startS_u, isi_s, isi_t, isi_ll, isi_lt, isi_i, isi_ib, truD_b, len_l, len_t, max_ii, min_ii, int_i, list_l, list_t, tuple_l, tuple_t, eqD_ss, eqD_ii, c_eq, c_ne, c_lt, c_le, c_gt, c_ge, b_add, b_sub, isN_n, isN_i, ixT0, ixT1, kB1, kC1, kN, kIte, kIx, kSl, kCall, kCK2, kCK, kBlt, kG2, kG1, kG, kTr, kTC1, kTAnd, kTOr, kPs, kLs, kAs, kR2, kZ2, kZ, kFor, kLT2, kLT1, kLc, kIf, kAsg, kPar, kSx2, kSx, kMut, kRs, putS_k, RV.d, Option.bind_some, Option.bind_none, Option.map_some, Option.map_none, hideS, wipeS, backS, List.map_cons, List.map_nil, List.length_cons, List.length_nil, if_true, if_false, Bool.false_eq_true, eq_self, outsOf, decide_true, decide_false, Bool.not_true, Bool.not_false, Nat.reduceAdd, Nat.reduceLT, Nat.zero_add, s_tt, ixLlast, setLlast, kTup2, Int.natCast_add]
theorem edS_merge {f : List Ed} {e : Ed} (hf : ∀ x ∈ f, EdS x) (he : EdS e) : ∀ x ∈ mergeS f e, EdS x := by
  rcases List.eq_nil_or_concat f with rfl | ⟨g, l, rfl⟩
  · rw [mergeS_n]; intro x hx; rcases List.mem_singleton.mp hx with rfl; exact he
  · rw [List.concat_eq_append] at hf ⊢
    rw [mergeS_c]
    have hl := hf l (by simp)
    have hg : ∀ x ∈ g, EdS x := fun x hx => hf x (by simp [hx])
    by_cases hs : sameW l e = true
    · rw [if_pos hs]
      intro x hx
      rcases List.mem_append.mp hx with h | h
      · exact hg x h
      · rcases List.mem_singleton.mp h with rfl
        cases l <;> cases e <;> simp only [sameW, Bool.false_eq_true] at hs <;> simp only [joinE, EdS] at hl he ⊢
        intro s hs'
        rcases List.mem_append.mp hs' with h' | h'
        · exact hl s h'
        · exact he s h'
    · rw [if_neg hs]
      intro x hx
      rcases List.mem_append.mp hx with h | h
      · exact hf x h
      · rcases List.mem_singleton.mp h with rfl; exact he
theorem late_app {a b : List Ed} : lateOf (a ++ b) = lateOf a + lateOf b := by simp [lateOf]
theorem late_1 {e : Ed} : lateOf [e] = lateE e := by simp [lateOf]
theorem late_merge {f : List Ed} {e : Ed} : lateOf (mergeS f e) = lateOf f + lateE e := by
  rcases List.eq_nil_or_concat f with rfl | ⟨g, l, rfl⟩
  · rw [mergeS_n]; simp [lateOf]
  · rw [List.concat_eq_append, mergeS_c]
    by_cases hs : sameW l e = true
    · rw [if_pos hs, late_app, late_app, late_1, late_1]
      cases l <;> cases e <;> simp only [sameW, Bool.false_eq_true] at hs <;> simp [joinE, lateE] <;> omega
    · rw [if_neg hs, late_app, late_1]
theorem len_merge {f : List Ed} {e : Ed} : (mergeS f e).length ≤ f.length + 1 := by
  rcases List.eq_nil_or_concat f with rfl | ⟨g, l, rfl⟩
  · rw [mergeS_n]; simp
  · rw [List.concat_eq_append, mergeS_c]
    by_cases hs : sameW l e = true
    · rw [if_pos hs]; simp
    · rw [if_neg hs]; simp
theorem loop_merge (Φ : Fn) (E : SD) : ∀ (es f : List Ed) (s2 s3 : SD), noIo s2 = true → noIo s3 = true → (∀ x ∈ f, EdS x) → (∀ x ∈ es, EdS x) → f.length + es.length ≤ 1000000 → lateOf f + lateOf es ≤ 1000000 →
    ∃ t2 t3, forL (.tup [(.nm 2), (.nm 3)]) (evB Φ W b_edits_put_together_0) (es.map edD) [E, .own (.list (f.map edD)), s2, s3] = some (.nx [E, .own (.list ((es.foldl mergeS f).map edD)), t2, t3]) := by
  intro es
  induction es with
  | nil => intro f s2 s3 _ _ _ _ _ _; exact ⟨s2, s3, rfl⟩
  | cons e r ih =>
    intro f s2 s3 h2 h3 hf he hz hl
    rw [late_c] at hl
    rw [List.length_cons] at hz
    have hlm := late_merge (f := f) (e := e)
    have hll := len_merge (f := f) (e := e)
    obtain ⟨t2, t3, h⟩ := ih (mergeS f e) _ _ noIo_val noIo_val (edS_merge hf (he e List.mem_cons_self)) (fun x hx => he x (List.mem_cons_of_mem _ hx)) (by omega) (by omega)
    refine ⟨t2, t3, ?_⟩
    rw [List.map_cons, forL_nx (st_merge Φ E f e s2 s3 h2 h3 hf (by omega) (by omega)), h]; rfl
theorem e_merge (es : List Ed) (he : ∀ x ∈ es, EdS x) (hz : es.length ≤ 1000000) (hl : lateOf es ≤ 1000000) :
    callF T W (n+1) 11 [.val (.list (es.map edD))] = some (.val (paD (es.foldl mergeS [])), []) := by
  rw [run_11, run_eq rfl rfl]
  obtain ⟨t2, t3, h⟩ := loop_merge (W := W) (callF T W n) (.val (.list (es.map edD))) es [] .un .un rfl rfl (fun _ h => nomatch h) he (by simpa using hz) (by simpa [lateOf] using hl)
  simp only [List.map_nil] at h
  simp -implicitDefEqProofs only [d_edits_put_together, seqO_nx, seqO_ret, seqO_ct, seqO_brk, getS_z, getS_s, set_z, set_s, evB_nil, evB_cons, evS_for, evE_lc, lcTurn_k, evE_c, evE_g, evE_v, takeS_k, tkK_val, tkK_own, peekS_k, pkK_val, pkK_own, pkK_io, res_val, res_slot, sdK_val, sdK_own, sdK_io, evE_bin, evE_neg, evE_cmp, evE_isN, evE_notN, evE_and, evE_or, evE_nt, evE_ite, evE_tup, evE_lst, evE_dct, evE_ix, evE_sl, evE_call, evE_callK, evE_blt, evE_isi, evE_get2, evT_tr, evT_cmp, evT_isN, evT_notN, evT_and, evT_or, evT_nt, evTo_n, evTo_s, evP_slot, evP_ex, evPs_n, evPs_c, evL_n, evL_c, evA_n, evA_e, ioK_own, ioK_io, evA_io, evO_n, evO_e, evI_seq, evI_rng1, evI_rng2, evI_enum, evI_zip, evS_asg, evS_par, evS_setIx, evS_ex, evS_mut, evS_iF, evS_ret, evS_retS, rsK_val, rsK_own, evS_retN, evS_pass, evS_ct, evS_brk, resL_n, resL_c, kAnd_b, kOr_b, kNt_b, kO_i, kR1_i, kR22_i, evR_n, evR_c, noIo_un, noIo_val, noIo_own, of_val, of_own, chgS_k, chK_own, chK_io, heldS_k, lstS_k, lsK_own, lsK_io, putV_nm, putV_tup, putP_nm, putP_ixs, putP_tup, putPs_n, putPs_c, putN_n, putN_c, retV_s, retI_s, callD_0, callD_1, callD_2, callD_3, callD_4, ciK_own, ciK_io, callD_i1, callD_i2, forL_n, avS_v, avS_i, startS_c, startS_z, startS_u, isi_s, isi_t, isi_ll, isi_lt, isi_i, isi_ib, truD_b, len_l, len_t, max_ii, min_ii, int_i, list_l, list_t, tuple_l, tuple_t, eqD_ss, eqD_ii, c_eq, c_ne, c_lt, c_le, c_gt, c_ge, b_add, b_sub, isN_n, isN_i, ixT0, ixT1, kB1, kC1, kN, kIte, kIx, kSl, kCall, kCK2, kCK, kBlt, kG2, kG1, kG, kTr, kTC1, kTAnd, kTOr, kPs, kLs, kAs, kR2, kZ2, kZ, kFor, kLT2, kLT1, kLc, kIf, kAsg, kPar, kSx2, kSx, kMut, kRs, putS_k, RV.d, Option.bind_some, Option.bind_none, Option.map_some, Option.map_none, hideS, wipeS, backS, List.map_cons, List.map_nil, List.length_cons, List.length_nil, if_true, if_false, Bool.false_eq_true, eq_self, outsOf, decide_true, decide_false, Bool.not_true, Bool.not_false, Nat.reduceAdd, Nat.reduceLT, Nat.zero_add, kLst0, items_l (l := es.map edD) (by rw [List.length_map]; exact sz1 (by omega)), h, paD]
/-! ### the edits of a trace -/
def tkE (a p : Nat) : List Ed := if a < p then [.take (p - a)] else []
def ptE (nw : List Str) : List Ed := if nw = [] then [] else [.put nw]
def kpE (m p : Nat) : List Ed := if p < m then [.keep 1] else []
abbrev St := List Ed × Nat × List Str
def stepE (m : Nat) (st : St) (e : En) : St := match e.2 with
  | none => (st.1, st.2.1, st.2.2 ++ [e.1])
  | some p => (st.1 ++ tkE st.2.1 p ++ ptE st.2.2 ++ kpE m p, p + 1, [])
def stepN (m : Nat) (st : St) (e : En) : St := match e.2 with
  | none => (st.1, st.2.1, st.2.2 ++ [e.1])
  | some p => (if p < m then mergeS (st.1 ++ tkE st.2.1 p ++ ptE st.2.2) (.keep 1) else st.1 ++ tkE st.2.1 p ++ ptE st.2.2, p + 1, [])
def editsF (m : Nat) (t : List En) : List Ed := (stepE m (t.foldl (stepE m) ([], 0, [])) (default, some m)).1
def normF (m : Nat) (t : List En) : List Ed := (stepN m (t.foldl (stepN m) ([], 0, [])) (default, some m)).1
section
variable {Φ : Fn}
theorem S_tk (x : RE) (hx : ∀ ρ, evE Φ x ρ = some (.val (.str "take"), ρ)) (s0 s1 s4 s5 : SD) (es : List Ed) (a p : Nat) (hz : es.length ≤ 1000000) :
    evS Φ W (.mut .extend 2 (.ite (.cmp .gt (.slot 6) (.slot 3)) (.lst [(.tup [x, (.bin .sub (.slot 6) (.slot 3))])]) (.lst []))) [s0, s1, .own (.list (es.map edD)), .val (.int (a : Nat)), s4, s5, .val (.int (p : Nat))]
      = some (.nx [s0, s1, .own (.list ((es ++ tkE a p).map edD)), .val (.int (a : Nat)), s4, s5, .val (.int (p : Nat))]) := by
  have m1 : (es.map edD).length + 1 ≤ sizeLine := by rw [List.length_map]; exact sz1 (by omega)
  have m0 : (es.map edD).length + 0 ≤ sizeLine := by rw [List.length_map]; exact sz1 (by omega)
  by_cases h : a < p
  · have h' : (a : Int) < (p : Nat) := by omega
    have e : (p : Int) - (a : Nat) = ((p - a : Nat) : Int) := by omega
    simp -implicitDefEqProofs only [tkE, h, seqO_nx, seqO_ret, seqO_ct, seqO_brk, getS_z, getS_s, set_z, set_s, evB_nil, evB_cons, evS_for, evE_lc, lcTurn_k, evE_c, evE_g, evE_v, takeS_k, tkK_val, tkK_own, peekS_k, pkK_val, pkK_own, pkK_io, res_val, res_slot, sdK_val, sdK_own, sdK_io, evE_bin, evE_neg, evE_cmp, evE_isN, evE_notN, evE_and, evE_or, evE_nt, evE_ite, evE_tup, evE_lst, evE_dct, evE_ix, evE_sl, evE_call, evE_callK, evE_blt, evE_isi, evE_get2, evT_tr, evT_cmp, evT_isN, evT_notN, evT_and, evT_or, evT_nt, evTo_n, evTo_s, evP_slot, evP_ex, evPs_n, evPs_c, evL_n, evL_c, evA_n, evA_e, ioK_own, ioK_io, evA_io, evO_n, evO_e, evI_seq, evI_rng1, evI_rng2, evI_enum, evI_zip, evS_asg, evS_par, evS_setIx, evS_ex, evS_mut, evS_iF, evS_ret, evS_retS, rsK_val, rsK_own, evS_retN, evS_pass, evS_ct, evS_brk, resL_n, resL_c, kAnd_b, kOr_b, kNt_b, kO_i, kR1_i, kR22_i, evR_n, evR_c, noIo_un, noIo_val, noIo_own, of_val, of_own, chgS_k, chK_own, chK_io, heldS_k, lstS_k, lsK_own, lsK_io, putV_nm, putV_tup, putP_nm, putP_ixs, putP_tup, putPs_n, putPs_c, putN_n, putN_c, retV_s, retI_s, callD_0, callD_1, callD_2, callD_3, callD_4, ciK_own, ciK_io, callD_i1, callD_i2, forL_n, avS_v, avS_i, startS_c, startS_z, startS_u, isi_s, isi_t, isi_ll, isi_lt, isi_i, isi_ib, truD_b, len_l, len_t, max_ii, min_ii, int_i, list_l, list_t, tuple_l, tuple_t, eqD_ss, eqD_ii, c_eq, c_ne, c_lt, c_le, c_gt, c_ge, b_add, b_sub, isN_n, isN_i, ixT0, ixT1, kB1, kC1, kN, kIte, kIx, kSl, kCall, kCK2, kCK, kBlt, kG2, kG1, kG, kTr, kTC1, kTAnd, kTOr, kPs, kLs, kAs, kR2, kZ2, kZ, kFor, kLT2, kLT1, kLc, kIf, kAsg, kPar, kSx2, kSx, kMut, kRs, putS_k, RV.d, Option.bind_some, Option.bind_none, Option.map_some, Option.map_none, hideS, wipeS, backS, List.map_cons, List.map_nil, List.length_cons, List.length_nil, if_true, if_false, Bool.false_eq_true, eq_self, outsOf, decide_true, decide_false, Bool.not_true, Bool.not_false, Nat.reduceAdd, Nat.reduceLT, Nat.zero_add, h', hx, kTup2, kLst1, mut_e (l := es.map edD) (m := [_]) m1, List.map_append, edD, e]
  · have h' : ¬ (a : Int) < (p : Nat) := by omega
    simp -implicitDefEqProofs only [tkE, h, seqO_nx, seqO_ret, seqO_ct, seqO_brk, getS_z, getS_s, set_z, set_s, evB_nil, evB_cons, evS_for, evE_lc, lcTurn_k, evE_c, evE_g, evE_v, takeS_k, tkK_val, tkK_own, peekS_k, pkK_val, pkK_own, pkK_io, res_val, res_slot, sdK_val, sdK_own, sdK_io, evE_bin, evE_neg, evE_cmp, evE_isN, evE_notN, evE_and, evE_or, evE_nt, evE_ite, evE_tup, evE_lst, evE_dct, evE_ix, evE_sl, evE_call, evE_callK, evE_blt, evE_isi, evE_get2, evT_tr, evT_cmp, evT_isN, evT_notN, evT_and, evT_or, evT_nt, evTo_n, evTo_s, evP_slot, evP_ex, evPs_n, evPs_c, evL_n, evL_c, evA_n, evA_e, ioK_own, ioK_io, evA_io, evO_n, evO_e, evI_seq, evI_rng1, evI_rng2, evI_enum, evI_zip, evS_asg, evS_par, evS_setIx, evS_ex, evS_mut, evS_iF, evS_ret, evS_retS, rsK_val, rsK_own, evS_retN, evS_pass, evS_ct, evS_brk, resL_n, resL_c, kAnd_b, kOr_b, kNt_b, kO_i, kR1_i, kR22_i, evR_n, evR_c, noIo_un, noIo_val, noIo_own, of_val, of_own, chgS_k, chK_own, chK_io, heldS_k, lstS_k, lsK_own, lsK_io, putV_nm, putV_tup, putP_nm, putP_ixs, putP_tup, putPs_n, putPs_c, putN_n, putN_c, retV_s, retI_s, callD_0, callD_1, callD_2, callD_3, callD_4, ciK_own, ciK_io, callD_i1, callD_i2, forL_n, avS_v, avS_i, startS_c, startS_z, startS_u, isi_s, isi_t, isi_ll, isi_lt, isi_i, isi_ib, truD_b, len_l, len_t, max_ii, min_ii, int_i, list_l, list_t, tuple_l, tuple_t, eqD_ss, eqD_ii, c_eq, c_ne, c_lt, c_le, c_gt, c_ge, b_add, b_sub, isN_n, isN_i, ixT0, ixT1, kB1, kC1, kN, kIte, kIx, kSl, kCall, kCK2, kCK, kBlt, kG2, kG1, kG, kTr, kTC1, kTAnd, kTOr, kPs, kLs, kAs, kR2, kZ2, kZ, kFor, kLT2, kLT1, kLc, kIf, kAsg, kPar, kSx2, kSx, kMut, kRs, putS_k, RV.d, Option.bind_some, Option.bind_none, Option.map_some, Option.map_none, hideS, wipeS, backS, List.map_cons, List.map_nil, List.length_cons, List.length_nil, if_true, if_false, Bool.false_eq_true, eq_self, outsOf, decide_true, decide_false, Bool.not_true, Bool.not_false, Nat.reduceAdd, Nat.reduceLT, Nat.zero_add, h', kLst0, mut_e (l := es.map edD) (m := []) m0, List.append_nil]
theorem S_pt (x : RE) (hx : ∀ ρ, evE Φ x ρ = some (.val (.str "put"), ρ)) (s0 s1 s3 s5 s6 : SD) (es : List Ed) (nw : List Str) (hw : ∀ s ∈ nw, LnOk s) (hz : es.length ≤ 1000000) :
    evS Φ W (.mut .extend 2 (.ite (.cmp .ne (.slot 4) (.ex (.lst []))) (.lst [(.tup [x, (.blt .tuple [(.slot 4)])])]) (.lst []))) [s0, s1, .own (.list (es.map edD)), s3, .own (.list (sD nw)), s5, s6]
      = some (.nx [s0, s1, .own (.list ((es ++ ptE nw).map edD)), s3, .own (.list (sD nw)), s5, s6]) := by
  have m1 : (es.map edD).length + 1 ≤ sizeLine := by rw [List.length_map]; exact sz1 (by omega)
  have m0 : (es.map edD).length + 0 ≤ sizeLine := by rw [List.length_map]; exact sz1 (by omega)
  by_cases h : nw = []
  · subst h
    simp -implicitDefEqProofs only [ptE, seqO_nx, seqO_ret, seqO_ct, seqO_brk, getS_z, getS_s, set_z, set_s, evB_nil, evB_cons, evS_for, evE_lc, lcTurn_k, evE_c, evE_g, evE_v, takeS_k, tkK_val, tkK_own, peekS_k, pkK_val, pkK_own, pkK_io, res_val, res_slot, sdK_val, sdK_own, sdK_io, evE_bin, evE_neg, evE_cmp, evE_isN, evE_notN, evE_and, evE_or, evE_nt, evE_ite, evE_tup, evE_lst, evE_dct, evE_ix, evE_sl, evE_call, evE_callK, evE_blt, evE_isi, evE_get2, evT_tr, evT_cmp, evT_isN, evT_notN, evT_and, evT_or, evT_nt, evTo_n, evTo_s, evP_slot, evP_ex, evPs_n, evPs_c, evL_n, evL_c, evA_n, evA_e, ioK_own, ioK_io, evA_io, evO_n, evO_e, evI_seq, evI_rng1, evI_rng2, evI_enum, evI_zip, evS_asg, evS_par, evS_setIx, evS_ex, evS_mut, evS_iF, evS_ret, evS_retS, rsK_val, rsK_own, evS_retN, evS_pass, evS_ct, evS_brk, resL_n, resL_c, kAnd_b, kOr_b, kNt_b, kO_i, kR1_i, kR22_i, evR_n, evR_c, noIo_un, noIo_val, noIo_own, of_val, of_own, chgS_k, chK_own, chK_io, heldS_k, lstS_k, lsK_own, lsK_io, putV_nm, putV_tup, putP_nm, putP_ixs, putP_tup, putPs_n, putPs_c, putN_n, putN_c, retV_s, retI_s, callD_0, callD_1, callD_2, callD_3, callD_4, ciK_own, ciK_io, callD_i1, callD_i2, forL_n, avS_v, avS_i, startS_c, startS_z, startS_u, isi_s, isi_t, isi_ll, isi_lt, isi_i, isi_ib, truD_b, len_l, len_t, max_ii, min_ii, int_i, list_l, list_t, tuple_l, tuple_t, eqD_ss, eqD_ii, c_eq, c_ne, c_lt, c_le, c_gt, c_ge, b_add, b_sub, isN_n, isN_i, ixT0, ixT1, kB1, kC1, kN, kIte, kIx, kSl, kCall, kCK2, kCK, kBlt, kG2, kG1, kG, kTr, kTC1, kTAnd, kTOr, kPs, kLs, kAs, kR2, kZ2, kZ, kFor, kLT2, kLT1, kLc, kIf, kAsg, kPar, kSx2, kSx, kMut, kRs, putS_k, RV.d, Option.bind_some, Option.bind_none, Option.map_some, Option.map_none, hideS, wipeS, backS, List.map_cons, List.map_nil, List.length_cons, List.length_nil, if_true, if_false, Bool.false_eq_true, eq_self, outsOf, decide_true, decide_false, Bool.not_true, Bool.not_false, Nat.reduceAdd, Nat.reduceLT, Nat.zero_add, sD, eq_nn, kLst0, mut_e (l := es.map edD) (m := []) m0, List.append_nil]
  · have h' : eqD (.list (sD nw)) (.list []) = some false := by
      rw [ls_nil (shaped_sDl hw)]; cases nw <;> simp_all [sD]
    simp -implicitDefEqProofs only [ptE, h, seqO_nx, seqO_ret, seqO_ct, seqO_brk, getS_z, getS_s, set_z, set_s, evB_nil, evB_cons, evS_for, evE_lc, lcTurn_k, evE_c, evE_g, evE_v, takeS_k, tkK_val, tkK_own, peekS_k, pkK_val, pkK_own, pkK_io, res_val, res_slot, sdK_val, sdK_own, sdK_io, evE_bin, evE_neg, evE_cmp, evE_isN, evE_notN, evE_and, evE_or, evE_nt, evE_ite, evE_tup, evE_lst, evE_dct, evE_ix, evE_sl, evE_call, evE_callK, evE_blt, evE_isi, evE_get2, evT_tr, evT_cmp, evT_isN, evT_notN, evT_and, evT_or, evT_nt, evTo_n, evTo_s, evP_slot, evP_ex, evPs_n, evPs_c, evL_n, evL_c, evA_n, evA_e, ioK_own, ioK_io, evA_io, evO_n, evO_e, evI_seq, evI_rng1, evI_rng2, evI_enum, evI_zip, evS_asg, evS_par, evS_setIx, evS_ex, evS_mut, evS_iF, evS_ret, evS_retS, rsK_val, rsK_own, evS_retN, evS_pass, evS_ct, evS_brk, resL_n, resL_c, kAnd_b, kOr_b, kNt_b, kO_i, kR1_i, kR22_i, evR_n, evR_c, noIo_un, noIo_val, noIo_own, of_val, of_own, chgS_k, chK_own, chK_io, heldS_k, lstS_k, lsK_own, lsK_io, putV_nm, putV_tup, putP_nm, putP_ixs, putP_tup, putPs_n, putPs_c, putN_n, putN_c, retV_s, retI_s, callD_0, callD_1, callD_2, callD_3, callD_4, ciK_own, ciK_io, callD_i1, callD_i2, forL_n, avS_v, avS_i, startS_c, startS_z, startS_u, isi_s, isi_t, isi_ll, isi_lt, isi_i, isi_ib, truD_b, len_l, len_t, max_ii, min_ii, int_i, list_l, list_t, tuple_l, tuple_t, eqD_ss, eqD_ii, c_eq, c_ne, c_lt, c_le, c_gt, c_ge, b_add, b_sub, isN_n, isN_i, ixT0, ixT1, kB1, kC1, kN, kIte, kIx, kSl, kCall, kCK2, kCK, kBlt, kG2, kG1, kG, kTr, kTC1, kTAnd, kTOr, kPs, kLs, kAs, kR2, kZ2, kZ, kFor, kLT2, kLT1, kLc, kIf, kAsg, kPar, kSx2, kSx, kMut, kRs, putS_k, RV.d, Option.bind_some, Option.bind_none, Option.map_some, Option.map_none, hideS, wipeS, backS, List.map_cons, List.map_nil, List.length_cons, List.length_nil, if_true, if_false, Bool.false_eq_true, eq_self, outsOf, decide_true, decide_false, Bool.not_true, Bool.not_false, Nat.reduceAdd, Nat.reduceLT, Nat.zero_add, h', hx, kTup2, kLst0, kLst1, mut_e (l := es.map edD) (m := [_]) m1, List.map_append, edD]
theorem S_kp (x : RE) (hx : ∀ ρ, evE Φ x ρ = some (.val (.str "keep"), ρ)) (s1 s3 s4 s5 : SD) (es : List Ed) (m p : Nat) (hz : es.length ≤ 1000000) :
    evS Φ W (.mut .extend 2 (.ite (.cmp .lt (.slot 6) (.slot 0)) (.lst [(.tup [x, (.c (.int 1))])]) (.lst []))) [.val (.int (m : Nat)), s1, .own (.list (es.map edD)), s3, s4, s5, .val (.int (p : Nat))]
      = some (.nx [.val (.int (m : Nat)), s1, .own (.list ((es ++ kpE m p).map edD)), s3, s4, s5, .val (.int (p : Nat))]) := by
  have m1 : (es.map edD).length + 1 ≤ sizeLine := by rw [List.length_map]; exact sz1 (by omega)
  have m0 : (es.map edD).length + 0 ≤ sizeLine := by rw [List.length_map]; exact sz1 (by omega)
  by_cases h : p < m
  · have h' : (p : Int) < (m : Nat) := by omega
    simp -implicitDefEqProofs only [kpE, h, seqO_nx, seqO_ret, seqO_ct, seqO_brk, getS_z, getS_s, set_z, set_s, evB_nil, evB_cons, evS_for, evE_lc, lcTurn_k, evE_c, evE_g, evE_v, takeS_k, tkK_val, tkK_own, peekS_k, pkK_val, pkK_own, pkK_io, res_val, res_slot, sdK_val, sdK_own, sdK_io, evE_bin, evE_neg, evE_cmp, evE_isN, evE_notN, evE_and, evE_or, evE_nt, evE_ite, evE_tup, evE_lst, evE_dct, evE_ix, evE_sl, evE_call, evE_callK, evE_blt, evE_isi, evE_get2, evT_tr, evT_cmp, evT_isN, evT_notN, evT_and, evT_or, evT_nt, evTo_n, evTo_s, evP_slot, evP_ex, evPs_n, evPs_c, evL_n, evL_c, evA_n, evA_e, ioK_own, ioK_io, evA_io, evO_n, evO_e, evI_seq, evI_rng1, evI_rng2, evI_enum, evI_zip, evS_asg, evS_par, evS_setIx, evS_ex, evS_mut, evS_iF, evS_ret, evS_retS, rsK_val, rsK_own, evS_retN, evS_pass, evS_ct, evS_brk, resL_n, resL_c, kAnd_b, kOr_b, kNt_b, kO_i, kR1_i, kR22_i, evR_n, evR_c, noIo_un, noIo_val, noIo_own, of_val, of_own, chgS_k, chK_own, chK_io, heldS_k, lstS_k, lsK_own, lsK_io, putV_nm, putV_tup, putP_nm, putP_ixs, putP_tup, putPs_n, putPs_c, putN_n, putN_c, retV_s, retI_s, callD_0, callD_1, callD_2, callD_3, callD_4, ciK_own, ciK_io, callD_i1, callD_i2, forL_n, avS_v, avS_i, startS_c, startS_z, startS_u, isi_s, isi_t, isi_ll, isi_lt, isi_i, isi_ib, truD_b, len_l, len_t, max_ii, min_ii, int_i, list_l, list_t, tuple_l, tuple_t, eqD_ss, eqD_ii, c_eq, c_ne, c_lt, c_le, c_gt, c_ge, b_add, b_sub, isN_n, isN_i, ixT0, ixT1, kB1, kC1, kN, kIte, kIx, kSl, kCall, kCK2, kCK, kBlt, kG2, kG1, kG, kTr, kTC1, kTAnd, kTOr, kPs, kLs, kAs, kR2, kZ2, kZ, kFor, kLT2, kLT1, kLc, kIf, kAsg, kPar, kSx2, kSx, kMut, kRs, putS_k, RV.d, Option.bind_some, Option.bind_none, Option.map_some, Option.map_none, hideS, wipeS, backS, List.map_cons, List.map_nil, List.length_cons, List.length_nil, if_true, if_false, Bool.false_eq_true, eq_self, outsOf, decide_true, decide_false, Bool.not_true, Bool.not_false, Nat.reduceAdd, Nat.reduceLT, Nat.zero_add, h', hx, kTup2, kLst1, mut_e (l := es.map edD) (m := [_]) m1, List.map_append, edD]; rfl
  · have h' : ¬ (p : Int) < (m : Nat) := by omega
    simp -implicitDefEqProofs only [kpE, h, seqO_nx, seqO_ret, seqO_ct, seqO_brk, getS_z, getS_s, set_z, set_s, evB_nil, evB_cons, evS_for, evE_lc, lcTurn_k, evE_c, evE_g, evE_v, takeS_k, tkK_val, tkK_own, peekS_k, pkK_val, pkK_own, pkK_io, res_val, res_slot, sdK_val, sdK_own, sdK_io, evE_bin, evE_neg, evE_cmp, evE_isN, evE_notN, evE_and, evE_or, evE_nt, evE_ite, evE_tup, evE_lst, evE_dct, evE_ix, evE_sl, evE_call, evE_callK, evE_blt, evE_isi, evE_get2, evT_tr, evT_cmp, evT_isN, evT_notN, evT_and, evT_or, evT_nt, evTo_n, evTo_s, evP_slot, evP_ex, evPs_n, evPs_c, evL_n, evL_c, evA_n, evA_e, ioK_own, ioK_io, evA_io, evO_n, evO_e, evI_seq, evI_rng1, evI_rng2, evI_enum, evI_zip, evS_asg, evS_par, evS_setIx, evS_ex, evS_mut, evS_iF, evS_ret, evS_retS, rsK_val, rsK_own, evS_retN, evS_pass, evS_ct, evS_brk, resL_n, resL_c, kAnd_b, kOr_b, kNt_b, kO_i, kR1_i, kR22_i, evR_n, evR_c, noIo_un, noIo_val, noIo_own, of_val, of_own, chgS_k, chK_own, chK_io, heldS_k, lstS_k, lsK_own, lsK_io, putV_nm, putV_tup, putP_nm, putP_ixs, putP_tup, putPs_n, putPs_c, putN_n, putN_c, retV_s, retI_s, callD_0, callD_1, callD_2, callD_3, callD_4, ciK_own, ciK_io, callD_i1, callD_i2, forL_n, avS_v, avS_i, startS_c, startS_z, startS_u, isi_s, isi_t, isi_ll, isi_lt, isi_i, isi_ib, truD_b, len_l, len_t, max_ii, min_ii, int_i, list_l, list_t, tuple_l, tuple_t, eqD_ss, eqD_ii, c_eq, c_ne, c_lt, c_le, c_gt, c_ge, b_add, b_sub, isN_n, isN_i, ixT0, ixT1, kB1, kC1, kN, kIte, kIx, kSl, kCall, kCK2, kCK, kBlt, kG2, kG1, kG, kTr, kTC1, kTAnd, kTOr, kPs, kLs, kAs, kR2, kZ2, kZ, kFor, kLT2, kLT1, kLc, kIf, kAsg, kPar, kSx2, kSx, kMut, kRs, putS_k, RV.d, Option.bind_some, Option.bind_none, Option.map_some, Option.map_none, hideS, wipeS, backS, List.map_cons, List.map_nil, List.length_cons, List.length_nil, if_true, if_false, Bool.false_eq_true, eq_self, outsOf, decide_true, decide_false, Bool.not_true, Bool.not_false, Nat.reduceAdd, Nat.reduceLT, Nat.zero_add, h', kLst0, mut_e (l := es.map edD) (m := []) m0, List.append_nil]
theorem S_end (s0 s1 s2 s3 s4 s5 : SD) (p : Nat) (h3 : noIo s3 = true) (h4 : noIo s4 = true) :
    evS Φ W (.par [3, 4] [(.bin .add (.slot 6) (.ex (.c (.int 1)))), (.lst [])]) [s0, s1, s2, s3, s4, s5, .val (.int (p : Nat))]
      = some (.nx [s0, s1, s2, .val (.int ((p + 1 : Nat) : Int)), .own (.list (sD [])), s5, .val (.int (p : Nat))]) := by
  simp -implicitDefEqProofs only [seqO_nx, seqO_ret, seqO_ct, seqO_brk, getS_z, getS_s, set_z, set_s, evB_nil, evB_cons, evS_for, evE_lc, lcTurn_k, evE_c, evE_g, evE_v, takeS_k, tkK_val, tkK_own, peekS_k, pkK_val, pkK_own, pkK_io, res_val, res_slot, sdK_val, sdK_own, sdK_io, evE_bin, evE_neg, evE_cmp, evE_isN, evE_notN, evE_and, evE_or, evE_nt, evE_ite, evE_tup, evE_lst, evE_dct, evE_ix, evE_sl, evE_call, evE_callK, evE_blt, evE_isi, evE_get2, evT_tr, evT_cmp, evT_isN, evT_notN, evT_and, evT_or, evT_nt, evTo_n, evTo_s, evP_slot, evP_ex, evPs_n, evPs_c, evL_n, evL_c, evA_n, evA_e, ioK_own, ioK_io, evA_io, evO_n, evO_e, evI_seq, evI_rng1, evI_rng2, evI_enum, evI_zip, evS_asg, evS_par, evS_setIx, evS_ex, evS_mut, evS_iF, evS_ret, evS_retS, rsK_val, rsK_own, evS_retN, evS_pass, evS_ct, evS_brk, resL_n, resL_c, kAnd_b, kOr_b, kNt_b, kO_i, kR1_i, kR22_i, evR_n, evR_c, noIo_un, noIo_val, noIo_own, of_val, of_own, chgS_k, chK_own, chK_io, heldS_k, lstS_k, lsK_own, lsK_io, putV_nm, putV_tup, putP_nm, putP_ixs, putP_tup, putPs_n, putPs_c, putN_n, putN_c, retV_s, retI_s, callD_0, callD_1, callD_2, callD_3, callD_4, ciK_own, ciK_io, callD_i1, callD_i2, forL_n, avS_v, avS_i, startS_c, startS_z, startS_u, isi_s, isi_t, isi_ll, isi_lt, isi_i, isi_ib, truD_b, len_l, len_t, max_ii, min_ii, int_i, list_l, list_t, tuple_l, tuple_t, eqD_ss, eqD_ii, c_eq, c_ne, c_lt, c_le, c_gt, c_ge, b_add, b_sub, isN_n, isN_i, ixT0, ixT1, kB1, kC1, kN, kIte, kIx, kSl, kCall, kCK2, kCK, kBlt, kG2, kG1, kG, kTr, kTC1, kTAnd, kTOr, kPs, kLs, kAs, kR2, kZ2, kZ, kFor, kLT2, kLT1, kLc, kIf, kAsg, kPar, kSx2, kSx, kMut, kRs, putS_k, RV.d, Option.bind_some, Option.bind_none, Option.map_some, Option.map_none, hideS, wipeS, backS, List.map_cons, List.map_nil, List.length_cons, List.length_nil, if_true, if_false, Bool.false_eq_true, eq_self, outsOf, decide_true, decide_false, Bool.not_true, Bool.not_false, Nat.reduceAdd, Nat.reduceLT, Nat.zero_add, kLst0, h3, h4, sD, Int.natCast_add]; rfl
end
end K82

/-! V5: the loops over a trace; the two ways agree. -/
namespace K82
open PySem PySem.Spec PyProof.Rows L2 PL
variable {W n : Nat}
section
variable {Φ : Fn}
theorem g_ev (x s : String) : ∀ ρ, evE Φ (.g x (.str s)) ρ = some (.val (.str s), ρ) := fun ρ => evE_g
theorem c_ev (s : String) : ∀ ρ, evE Φ (.c (.str s)) ρ = some (.val (.str s), ρ) := fun ρ => evE_c
abbrev sS (es : List Ed) (a : Nat) (nw : List Str) : List SD := [.own (.list (es.map edD)), .val (.int (a : Nat)), .own (.list (sD nw))]
theorem pt_none (M T0 : SD) (es : List Ed) (a : Nat) (nw : List Str) (s5 s6 : SD) (h5 : noIo s5 = true) (h6 : noIo s6 = true) (x : Str) (hz : nw.length ≤ 1000000) :
    (putP (.tup [(.nm 5), (.nm 6)]) (enD (x, none)) [M, T0, .own (.list (es.map edD)), .val (.int (a : Nat)), .own (.list (sD nw)), s5, s6]).bind (evB Φ W b_patch_of_trace_0)
      = some (.ct [M, T0, .own (.list (es.map edD)), .val (.int (a : Nat)), .own (.list (sD (nw ++ [x]))), .val (.str x), .val .none]) := by
  have hm : (nw.map PyData.str).length < sizeLine := by rw [List.length_map]; exact sz2 (by omega)
  simp -implicitDefEqProofs only [enD, opD, b_patch_of_trace_0, seqO_nx, seqO_ret, seqO_ct, seqO_brk, getS_z, getS_s, set_z, set_s, evB_nil, evB_cons, evS_for, evE_lc, lcTurn_k, evE_c, evE_g, evE_v, takeS_k, tkK_val, tkK_own, peekS_k, pkK_val, pkK_own, pkK_io, res_val, res_slot, sdK_val, sdK_own, sdK_io, evE_bin, evE_neg, evE_cmp, evE_isN, evE_notN, evE_and, evE_or, evE_nt, evE_ite, evE_tup, evE_lst, evE_dct, evE_ix, evE_sl, evE_call, evE_callK, evE_blt, evE_isi, evE_get2, evT_tr, evT_cmp, evT_isN, evT_notN, evT_and, evT_or, evT_nt, evTo_n, evTo_s, evP_slot, evP_ex, evPs_n, evPs_c, evL_n, evL_c, evA_n, evA_e, ioK_own, ioK_io, evA_io, evO_n, evO_e, evI_seq, evI_rng1, evI_rng2, evI_enum, evI_zip, evS_asg, evS_par, evS_setIx, evS_ex, evS_mut, evS_iF, evS_ret, evS_retS, rsK_val, rsK_own, evS_retN, evS_pass, evS_ct, evS_brk, resL_n, resL_c, kAnd_b, kOr_b, kNt_b, kO_i, kR1_i, kR22_i, evR_n, evR_c, noIo_un, noIo_val, noIo_own, of_val, of_own, chgS_k, chK_own, chK_io, heldS_k, lstS_k, lsK_own, lsK_io, putV_nm, putV_tup, putP_nm, putP_ixs, putP_tup, putPs_n, putPs_c, putN_n, putN_c, retV_s, retI_s, callD_0, callD_1, callD_2, callD_3, callD_4, ciK_own, ciK_io, callD_i1, callD_i2, forL_n, avS_v, avS_i, startS_c, startS_z, startS_u, isi_s, isi_t, isi_ll, isi_lt, isi_i, isi_ib, truD_b, len_l, len_t, max_ii, min_ii, int_i, list_l, list_t, tuple_l, tuple_t, eqD_ss, eqD_ii, c_eq, c_ne, c_lt, c_le, c_gt, c_ge, b_add, b_sub, isN_n, isN_i, ixT0, ixT1, kB1, kC1, kN, kIte, kIx, kSl, kCall, kCK2, kCK, kBlt, kG2, kG1, kG, kTr, kTC1, kTAnd, kTOr, kPs, kLs, kAs, kR2, kZ2, kZ, kFor, kLT2, kLT1, kLc, kIf, kAsg, kPar, kSx2, kSx, kMut, kRs, putS_k, RV.d, Option.bind_some, Option.bind_none, Option.map_some, Option.map_none, hideS, wipeS, backS, List.map_cons, List.map_nil, List.length_cons, List.length_nil, if_true, if_false, Bool.false_eq_true, eq_self, outsOf, decide_true, decide_false, Bool.not_true, Bool.not_false, Nat.reduceAdd, Nat.reduceLT, Nat.zero_add, h5, h6, mut_a hm, sD, List.map_append]
theorem pt_some (T0 : SD) (m : Nat) (es : List Ed) (a p : Nat) (nw : List Str) (s5 s6 : SD) (h5 : noIo s5 = true) (h6 : noIo s6 = true) (x : D) (hz : es.length ≤ 900000) (hw : ∀ s ∈ nw, LnOk s) :
    (putP (.tup [(.nm 5), (.nm 6)]) (.tuple [x, .int (p : Nat)]) [.val (.int (m : Nat)), T0, .own (.list (es.map edD)), .val (.int (a : Nat)), .own (.list (sD nw)), s5, s6]).bind (evB Φ W b_patch_of_trace_0)
      = some (.nx [.val (.int (m : Nat)), T0, .own (.list ((es ++ tkE a p ++ ptE nw ++ kpE m p).map edD)), .val (.int ((p + 1 : Nat) : Int)), .own (.list (sD [])), .val x, .val (.int (p : Nat))]) := by
  have hp : putP (.tup [(.nm 5), (.nm 6)]) (.tuple [x, .int (p : Nat)]) [.val (.int (m : Nat)), T0, .own (.list (es.map edD)), .val (.int (a : Nat)), .own (.list (sD nw)), s5, s6]
      = some [.val (.int (m : Nat)), T0, .own (.list (es.map edD)), .val (.int (a : Nat)), .own (.list (sD nw)), .val x, .val (.int (p : Nat))] := by
    simp -implicitDefEqProofs only [seqO_nx, seqO_ret, seqO_ct, seqO_brk, getS_z, getS_s, set_z, set_s, evB_nil, evB_cons, evS_for, evE_lc, lcTurn_k, evE_c, evE_g, evE_v, takeS_k, tkK_val, tkK_own, peekS_k, pkK_val, pkK_own, pkK_io, res_val, res_slot, sdK_val, sdK_own, sdK_io, evE_bin, evE_neg, evE_cmp, evE_isN, evE_notN, evE_and, evE_or, evE_nt, evE_ite, evE_tup, evE_lst, evE_dct, evE_ix, evE_sl, evE_call, evE_callK, evE_blt, evE_isi, evE_get2, evT_tr, evT_cmp, evT_isN, evT_notN, evT_and, evT_or, evT_nt, evTo_n, evTo_s, evP_slot, evP_ex, evPs_n, evPs_c, evL_n, evL_c, evA_n, evA_e, ioK_own, ioK_io, evA_io, evO_n, evO_e, evI_seq, evI_rng1, evI_rng2, evI_enum, evI_zip, evS_asg, evS_par, evS_setIx, evS_ex, evS_mut, evS_iF, evS_ret, evS_retS, rsK_val, rsK_own, evS_retN, evS_pass, evS_ct, evS_brk, resL_n, resL_c, kAnd_b, kOr_b, kNt_b, kO_i, kR1_i, kR22_i, evR_n, evR_c, noIo_un, noIo_val, noIo_own, of_val, of_own, chgS_k, chK_own, chK_io, heldS_k, lstS_k, lsK_own, lsK_io, putV_nm, putV_tup, putP_nm, putP_ixs, putP_tup, putPs_n, putPs_c, putN_n, putN_c, retV_s, retI_s, callD_0, callD_1, callD_2, callD_3, callD_4, ciK_own, ciK_io, callD_i1, callD_i2, forL_n, avS_v, avS_i, startS_c, startS_z, startS_u, isi_s, isi_t, isi_ll, isi_lt, isi_i, isi_ib, truD_b, len_l, len_t, max_ii, min_ii, int_i, list_l, list_t, tuple_l, tuple_t, eqD_ss, eqD_ii, c_eq, c_ne, c_lt, c_le, c_gt, c_ge, b_add, b_sub, isN_n, isN_i, ixT0, ixT1, kB1, kC1, kN, kIte, kIx, kSl, kCall, kCK2, kCK, kBlt, kG2, kG1, kG, kTr, kTC1, kTAnd, kTOr, kPs, kLs, kAs, kR2, kZ2, kZ, kFor, kLT2, kLT1, kLc, kIf, kAsg, kPar, kSx2, kSx, kMut, kRs, putS_k, RV.d, Option.bind_some, Option.bind_none, Option.map_some, Option.map_none, hideS, wipeS, backS, List.map_cons, List.map_nil, List.length_cons, List.length_nil, if_true, if_false, Bool.false_eq_true, eq_self, outsOf, decide_true, decide_false, Bool.not_true, Bool.not_false, Nat.reduceAdd, Nat.reduceLT, Nat.zero_add, h5, h6]
  have hi : evS Φ W (.iF (.isN (.slot 6)) [.mut .append 4 (.v 5), .ct] []) [.val (.int (m : Nat)), T0, .own (.list (es.map edD)), .val (.int (a : Nat)), .own (.list (sD nw)), .val x, .val (.int (p : Nat))]
      = some (.nx [.val (.int (m : Nat)), T0, .own (.list (es.map edD)), .val (.int (a : Nat)), .own (.list (sD nw)), .val x, .val (.int (p : Nat))]) := by
    simp -implicitDefEqProofs only [seqO_nx, seqO_ret, seqO_ct, seqO_brk, getS_z, getS_s, set_z, set_s, evB_nil, evB_cons, evS_for, evE_lc, lcTurn_k, evE_c, evE_g, evE_v, takeS_k, tkK_val, tkK_own, peekS_k, pkK_val, pkK_own, pkK_io, res_val, res_slot, sdK_val, sdK_own, sdK_io, evE_bin, evE_neg, evE_cmp, evE_isN, evE_notN, evE_and, evE_or, evE_nt, evE_ite, evE_tup, evE_lst, evE_dct, evE_ix, evE_sl, evE_call, evE_callK, evE_blt, evE_isi, evE_get2, evT_tr, evT_cmp, evT_isN, evT_notN, evT_and, evT_or, evT_nt, evTo_n, evTo_s, evP_slot, evP_ex, evPs_n, evPs_c, evL_n, evL_c, evA_n, evA_e, ioK_own, ioK_io, evA_io, evO_n, evO_e, evI_seq, evI_rng1, evI_rng2, evI_enum, evI_zip, evS_asg, evS_par, evS_setIx, evS_ex, evS_mut, evS_iF, evS_ret, evS_retS, rsK_val, rsK_own, evS_retN, evS_pass, evS_ct, evS_brk, resL_n, resL_c, kAnd_b, kOr_b, kNt_b, kO_i, kR1_i, kR22_i, evR_n, evR_c, noIo_un, noIo_val, noIo_own, of_val, of_own, chgS_k, chK_own, chK_io, heldS_k, lstS_k, lsK_own, lsK_io, putV_nm, putV_tup, putP_nm, putP_ixs, putP_tup, putPs_n, putPs_c, putN_n, putN_c, retV_s, retI_s, callD_0, callD_1, callD_2, callD_3, callD_4, ciK_own, ciK_io, callD_i1, callD_i2, forL_n, avS_v, avS_i, startS_c, startS_z, startS_u, isi_s, isi_t, isi_ll, isi_lt, isi_i, isi_ib, truD_b, len_l, len_t, max_ii, min_ii, int_i, list_l, list_t, tuple_l, tuple_t, eqD_ss, eqD_ii, c_eq, c_ne, c_lt, c_le, c_gt, c_ge, b_add, b_sub, isN_n, isN_i, ixT0, ixT1, kB1, kC1, kN, kIte, kIx, kSl, kCall, kCK2, kCK, kBlt, kG2, kG1, kG, kTr, kTC1, kTAnd, kTOr, kPs, kLs, kAs, kR2, kZ2, kZ, kFor, kLT2, kLT1, kLc, kIf, kAsg, kPar, kSx2, kSx, kMut, kRs, putS_k, RV.d, Option.bind_some, Option.bind_none, Option.map_some, Option.map_none, hideS, wipeS, backS, List.map_cons, List.map_nil, List.length_cons, List.length_nil, if_true, if_false, Bool.false_eq_true, eq_self, outsOf, decide_true, decide_false, Bool.not_true, Bool.not_false, Nat.reduceAdd, Nat.reduceLT, Nat.zero_add]
  have z1 : (es ++ tkE a p).length ≤ 900001 := by rw [List.length_append]; unfold tkE; split <;> simp <;> omega
  have z2 : (es ++ tkE a p ++ ptE nw).length ≤ 900002 := by rw [List.length_append]; unfold ptE; split <;> simp only [List.length_cons, List.length_nil] <;> omega
  rw [hp, Option.bind_some, b_patch_of_trace_0, evB_cons, hi, seqO_nx, evB_cons, S_tk _ (g_ev "TAKE" "take") _ _ _ _ es a p (by omega), seqO_nx, evB_cons, S_pt _ (g_ev "PUT" "put") _ _ _ _ _ _ nw hw (by omega), seqO_nx,
    evB_cons, S_kp _ (g_ev "KEEP" "keep") _ _ _ _ _ m p (by omega), seqO_nx, evB_cons, S_end _ _ _ _ _ _ p rfl rfl, seqO_nx, evB_nil]
theorem ln_none (M T0 : SD) (es : List Ed) (a : Nat) (nw : List Str) (s5 s6 : SD) (h5 : noIo s5 = true) (h6 : noIo s6 = true) (x : Str) (hz : nw.length ≤ 1000000) :
    (putP (.tup [(.nm 5), (.nm 6)]) (enD (x, none)) [M, T0, .own (.list (es.map edD)), .val (.int (a : Nat)), .own (.list (sD nw)), s5, s6]).bind (evB Φ W b__law_normal_0)
      = some (.nx [M, T0, .own (.list (es.map edD)), .val (.int (a : Nat)), .own (.list (sD (nw ++ [x]))), .val (.str x), .val .none]) := by
  have hm : (nw.map PyData.str).length < sizeLine := by rw [List.length_map]; exact sz2 (by omega)
  simp -implicitDefEqProofs only [enD, opD, b__law_normal_0, seqO_nx, seqO_ret, seqO_ct, seqO_brk, getS_z, getS_s, set_z, set_s, evB_nil, evB_cons, evS_for, evE_lc, lcTurn_k, evE_c, evE_g, evE_v, takeS_k, tkK_val, tkK_own, peekS_k, pkK_val, pkK_own, pkK_io, res_val, res_slot, sdK_val, sdK_own, sdK_io, evE_bin, evE_neg, evE_cmp, evE_isN, evE_notN, evE_and, evE_or, evE_nt, evE_ite, evE_tup, evE_lst, evE_dct, evE_ix, evE_sl, evE_call, evE_callK, evE_blt, evE_isi, evE_get2, evT_tr, evT_cmp, evT_isN, evT_notN, evT_and, evT_or, evT_nt, evTo_n, evTo_s, evP_slot, evP_ex, evPs_n, evPs_c, evL_n, evL_c, evA_n, evA_e, ioK_own, ioK_io, evA_io, evO_n, evO_e, evI_seq, evI_rng1, evI_rng2, evI_enum, evI_zip, evS_asg, evS_par, evS_setIx, evS_ex, evS_mut, evS_iF, evS_ret, evS_retS, rsK_val, rsK_own, evS_retN, evS_pass, evS_ct, evS_brk, resL_n, resL_c, kAnd_b, kOr_b, kNt_b, kO_i, kR1_i, kR22_i, evR_n, evR_c, noIo_un, noIo_val, noIo_own, of_val, of_own, chgS_k, chK_own, chK_io, heldS_k, lstS_k, lsK_own, lsK_io, putV_nm, putV_tup, putP_nm, putP_ixs, putP_tup, putPs_n, putPs_c, putN_n, putN_c, retV_s, retI_s, callD_0, callD_1, callD_2, callD_3, callD_4, ciK_own, ciK_io, callD_i1, callD_i2, forL_n, avS_v, avS_i, startS_c, startS_z, startS_u, isi_s, isi_t, isi_ll, isi_lt, isi_i, isi_ib, truD_b, len_l, len_t, max_ii, min_ii, int_i, list_l, list_t, tuple_l, tuple_t, eqD_ss, eqD_ii, c_eq, c_ne, c_lt, c_le, c_gt, c_ge, b_add, b_sub, isN_n, isN_i, ixT0, ixT1, kB1, kC1, kN, kIte, kIx, kSl, kCall, kCK2, kCK, kBlt, kG2, kG1, kG, kTr, kTC1, kTAnd, kTOr, kPs, kLs, kAs, kR2, kZ2, kZ, kFor, kLT2, kLT1, kLc, kIf, kAsg, kPar, kSx2, kSx, kMut, kRs, putS_k, RV.d, Option.bind_some, Option.bind_none, Option.map_some, Option.map_none, hideS, wipeS, backS, List.map_cons, List.map_nil, List.length_cons, List.length_nil, if_true, if_false, Bool.false_eq_true, eq_self, outsOf, decide_true, decide_false, Bool.not_true, Bool.not_false, Nat.reduceAdd, Nat.reduceLT, Nat.zero_add, h5, h6, mut_a hm, sD, List.map_append]
theorem edS_tk {a p : Nat} : ∀ x ∈ tkE a p, EdS x := by
  intro x hx; unfold tkE at hx; split at hx
  · rcases List.mem_singleton.mp hx with rfl; trivial
  · cases hx
theorem edS_pt {nw : List Str} (hw : ∀ s ∈ nw, LnOk s) : ∀ x ∈ ptE nw, EdS x := by
  intro x hx; unfold ptE at hx; split at hx
  · cases hx
  · rcases List.mem_singleton.mp hx with rfl; exact hw
theorem S_ln (s1 s3 s4 s5 : SD) (f : List Ed) (m p : Nat) (hz : f.length ≤ 1000000) (hf : ∀ x ∈ f, EdS x) :
    evS Φ W (.iF (.and (.cmp .lt (.slot 6) (.slot 0)) (.and (.cmp .ne (.slot 2) (.ex (.lst []))) (.cmp .eq (.ex (.ix (.ex (.ix (.slot 2) (.neg (.c (.int 1))))) (.c (.int 0)))) (.ex (.c (.str "keep"))))))
            [.setIx 2 (.neg (.c (.int 1))) (.tup [(.c (.str "keep")), (.bin .add (.ex (.ix (.ex (.ix (.slot 2) (.neg (.c (.int 1))))) (.c (.int 1)))) (.ex (.c (.int 1))))])]
            [.iF (.cmp .lt (.slot 6) (.slot 0))
               [.mut .append 2 (.tup [(.c (.str "keep")), (.c (.int 1))])]
               []]) [.val (.int (m : Nat)), s1, .own (.list (f.map edD)), s3, s4, s5, .val (.int (p : Nat))]
      = some (.nx [.val (.int (m : Nat)), s1, .own (.list ((if p < m then mergeS f (.keep 1) else f).map edD)), s3, s4, s5, .val (.int (p : Nat))]) := by
  by_cases h : p < m
  · have h' : (p : Int) < (m : Nat) := by omega
    rw [if_pos h]
    rcases List.eq_nil_or_concat f with rfl | ⟨g, l, rfl⟩
    · have hm : ([] : List D).length < sizeLine := by decide
      rw [mergeS_n]
      simp -implicitDefEqProofs only [seqO_nx, seqO_ret, seqO_ct, seqO_brk, getS_z, getS_s, set_z, set_s, evB_nil, evB_cons, evS_for, evE_lc, lcTurn_k, evE_c, evE_g, evE_v, takeS_k, tkK_val, tkK_own, peekS_k, pkK_val, pkK_own, pkK_io, res_val, res_slot, sdK_val, sdK_own, sdK_io, evE_bin, evE_neg, evE_cmp, evE_isN, evE_notN, evE_and, evE_or, evE_nt, evE_ite, evE_tup, evE_lst, evE_dct, evE_ix, evE_sl, evE_call, evE_callK, evE_blt, evE_isi, evE_get2, evT_tr, evT_cmp, evT_isN, evT_notN, evT_and, evT_or, evT_nt, evTo_n, evTo_s, evP_slot, evP_ex, evPs_n, evPs_c, evL_n, evL_c, evA_n, evA_e, ioK_own, ioK_io, evA_io, evO_n, evO_e, evI_seq, evI_rng1, evI_rng2, evI_enum, evI_zip, evS_asg, evS_par, evS_setIx, evS_ex, evS_mut, evS_iF, evS_ret, evS_retS, rsK_val, rsK_own, evS_retN, evS_pass, evS_ct, evS_brk, resL_n, resL_c, kAnd_b, kOr_b, kNt_b, kO_i, kR1_i, kR22_i, evR_n, evR_c, noIo_un, noIo_val, noIo_own, of_val, of_own, chgS_k, chK_own, chK_io, heldS_k, lstS_k, lsK_own, lsK_io, putV_nm, putV_tup, putP_nm, putP_ixs, putP_tup, putPs_n, putPs_c, putN_n, putN_c, retV_s, retI_s, callD_0, callD_1, callD_2, callD_3, callD_4, ciK_own, ciK_io, callD_i1, callD_i2, forL_n, avS_v, avS_i, startS_c, startS_z, startS_u, isi_s, isi_t, isi_ll, isi_lt, isi_i, isi_ib, truD_b, len_l, len_t, max_ii, min_ii, int_i, list_l, list_t, tuple_l, tuple_t, eqD_ss, eqD_ii, c_eq, c_ne, c_lt, c_le, c_gt, c_ge, b_add, b_sub, isN_n, isN_i, ixT0, ixT1, kB1, kC1, kN, kIte, kIx, kSl, kCall, kCK2, kCK, kBlt, kG2, kG1, kG, kTr, kTC1, kTAnd, kTOr, kPs, kLs, kAs, kR2, kZ2, kZ, kFor, kLT2, kLT1, kLc, kIf, kAsg, kPar, kSx2, kSx, kMut, kRs, putS_k, RV.d, Option.bind_some, Option.bind_none, Option.map_some, Option.map_none, hideS, wipeS, backS, List.map_cons, List.map_nil, List.length_cons, List.length_nil, if_true, if_false, Bool.false_eq_true, eq_self, outsOf, decide_true, decide_false, Bool.not_true, Bool.not_false, Nat.reduceAdd, Nat.reduceLT, Nat.zero_add, h', kLst0, eq_nn, kTup2, mut_a hm, List.nil_append, edD]; rfl
    · rw [List.concat_eq_append] at hf hz ⊢
      rw [mergeS_c]
      have e0 := ne_eds hf
      have hm : (g.map edD ++ [edD l]).length < sizeLine := by
        rw [List.length_append, List.length_map] at *; exact sz2 (by simp only [List.length_cons, List.length_nil] at *; omega)
      cases l with
      | put b =>
        simp -implicitDefEqProofs only [edD, sameW, joinE, List.map_append, seqO_nx, seqO_ret, seqO_ct, seqO_brk, getS_z, getS_s, set_z, set_s, evB_nil, evB_cons, evS_for, evE_lc, lcTurn_k, evE_c, evE_g, evE_v, takeS_k, tkK_val, tkK_own, peekS_k, pkK_val, pkK_own, pkK_io, res_val, res_slot, sdK_val, sdK_own, sdK_io, evE_bin, evE_neg, evE_cmp, evE_isN, evE_notN, evE_and, evE_or, evE_nt, evE_ite, evE_tup, evE_lst, evE_dct, evE_ix, evE_sl, evE_call, evE_callK, evE_blt, evE_isi, evE_get2, evT_tr, evT_cmp, evT_isN, evT_notN, evT_and, evT_or, evT_nt, evTo_n, evTo_s, evP_slot, evP_ex, evPs_n, evPs_c, evL_n, evL_c, evA_n, evA_e, ioK_own, ioK_io, evA_io, evO_n, evO_e, evI_seq, evI_rng1, evI_rng2, evI_enum, evI_zip, evS_asg, evS_par, evS_setIx, evS_ex, evS_mut, evS_iF, evS_ret, evS_retS, rsK_val, rsK_own, evS_retN, evS_pass, evS_ct, evS_brk, resL_n, resL_c, kAnd_b, kOr_b, kNt_b, kO_i, kR1_i, kR22_i, evR_n, evR_c, noIo_un, noIo_val, noIo_own, of_val, of_own, chgS_k, chK_own, chK_io, heldS_k, lstS_k, lsK_own, lsK_io, putV_nm, putV_tup, putP_nm, putP_ixs, putP_tup, putPs_n, putPs_c, putN_n, putN_c, retV_s, retI_s, callD_0, callD_1, callD_2, callD_3, callD_4, ciK_own, ciK_io, callD_i1, callD_i2, forL_n, avS_v, avS_i, startS_c, startS_z, startS_u, isi_s, isi_t, isi_ll, isi_lt, isi_i, isi_ib, truD_b, len_l, len_t, max_ii, min_ii, int_i, list_l, list_t, tuple_l, tuple_t, eqD_ss, eqD_ii, c_eq, c_ne, c_lt, c_le, c_gt, c_ge, b_add, b_sub, isN_n, isN_i, ixT0, ixT1, kB1, kC1, kN, kIte, kIx, kSl, kCall, kCK2, kCK, kBlt, kG2, kG1, kG, kTr, kTC1, kTAnd, kTOr, kPs, kLs, kAs, kR2, kZ2, kZ, kFor, kLT2, kLT1, kLc, kIf, kAsg, kPar, kSx2, kSx, kMut, kRs, putS_k, RV.d, Option.bind_some, Option.bind_none, Option.map_some, Option.map_none, hideS, wipeS, backS, List.map_cons, List.map_nil, List.length_cons, List.length_nil, if_true, if_false, Bool.false_eq_true, eq_self, outsOf, decide_true, decide_false, Bool.not_true, Bool.not_false, Nat.reduceAdd, Nat.reduceLT, Nat.zero_add, h', kLst0, kTup2, s_pk, ixLlast] at e0 hm ⊢
        simp -implicitDefEqProofs only [e0, seqO_nx, seqO_ret, seqO_ct, seqO_brk, getS_z, getS_s, set_z, set_s, evB_nil, evB_cons, evS_for, evE_lc, lcTurn_k, evE_c, evE_g, evE_v, takeS_k, tkK_val, tkK_own, peekS_k, pkK_val, pkK_own, pkK_io, res_val, res_slot, sdK_val, sdK_own, sdK_io, evE_bin, evE_neg, evE_cmp, evE_isN, evE_notN, evE_and, evE_or, evE_nt, evE_ite, evE_tup, evE_lst, evE_dct, evE_ix, evE_sl, evE_call, evE_callK, evE_blt, evE_isi, evE_get2, evT_tr, evT_cmp, evT_isN, evT_notN, evT_and, evT_or, evT_nt, evTo_n, evTo_s, evP_slot, evP_ex, evPs_n, evPs_c, evL_n, evL_c, evA_n, evA_e, ioK_own, ioK_io, evA_io, evO_n, evO_e, evI_seq, evI_rng1, evI_rng2, evI_enum, evI_zip, evS_asg, evS_par, evS_setIx, evS_ex, evS_mut, evS_iF, evS_ret, evS_retS, rsK_val, rsK_own, evS_retN, evS_pass, evS_ct, evS_brk, resL_n, resL_c, kAnd_b, kOr_b, kNt_b, kO_i, kR1_i, kR22_i, evR_n, evR_c, noIo_un, noIo_val, noIo_own, of_val, of_own, chgS_k, chK_own, chK_io, heldS_k, lstS_k, lsK_own, lsK_io, putV_nm, putV_tup, putP_nm, putP_ixs, putP_tup, putPs_n, putPs_c, putN_n, putN_c, retV_s, retI_s, callD_0, callD_1, callD_2, callD_3, callD_4, ciK_own, ciK_io, callD_i1, callD_i2, forL_n, avS_v, avS_i, startS_c, startS_z, startS_u, isi_s, isi_t, isi_ll, isi_lt, isi_i, isi_ib, truD_b, len_l, len_t, max_ii, min_ii, int_i, list_l, list_t, tuple_l, tuple_t, eqD_ss, eqD_ii, c_eq, c_ne, c_lt, c_le, c_gt, c_ge, b_add, b_sub, isN_n, isN_i, ixT0, ixT1, kB1, kC1, kN, kIte, kIx, kSl, kCall, kCK2, kCK, kBlt, kG2, kG1, kG, kTr, kTC1, kTAnd, kTOr, kPs, kLs, kAs, kR2, kZ2, kZ, kFor, kLT2, kLT1, kLc, kIf, kAsg, kPar, kSx2, kSx, kMut, kRs, putS_k, RV.d, Option.bind_some, Option.bind_none, Option.map_some, Option.map_none, hideS, wipeS, backS, List.map_cons, List.map_nil, List.length_cons, List.length_nil, if_true, if_false, Bool.false_eq_true, eq_self, outsOf, decide_true, decide_false, Bool.not_true, Bool.not_false, Nat.reduceAdd, Nat.reduceLT, Nat.zero_add, h', s_pk, ixLlast, mut_a hm, kTup2]; rfl
      | take b =>
        simp -implicitDefEqProofs only [edD, sameW, joinE, List.map_append, seqO_nx, seqO_ret, seqO_ct, seqO_brk, getS_z, getS_s, set_z, set_s, evB_nil, evB_cons, evS_for, evE_lc, lcTurn_k, evE_c, evE_g, evE_v, takeS_k, tkK_val, tkK_own, peekS_k, pkK_val, pkK_own, pkK_io, res_val, res_slot, sdK_val, sdK_own, sdK_io, evE_bin, evE_neg, evE_cmp, evE_isN, evE_notN, evE_and, evE_or, evE_nt, evE_ite, evE_tup, evE_lst, evE_dct, evE_ix, evE_sl, evE_call, evE_callK, evE_blt, evE_isi, evE_get2, evT_tr, evT_cmp, evT_isN, evT_notN, evT_and, evT_or, evT_nt, evTo_n, evTo_s, evP_slot, evP_ex, evPs_n, evPs_c, evL_n, evL_c, evA_n, evA_e, ioK_own, ioK_io, evA_io, evO_n, evO_e, evI_seq, evI_rng1, evI_rng2, evI_enum, evI_zip, evS_asg, evS_par, evS_setIx, evS_ex, evS_mut, evS_iF, evS_ret, evS_retS, rsK_val, rsK_own, evS_retN, evS_pass, evS_ct, evS_brk, resL_n, resL_c, kAnd_b, kOr_b, kNt_b, kO_i, kR1_i, kR22_i, evR_n, evR_c, noIo_un, noIo_val, noIo_own, of_val, of_own, chgS_k, chK_own, chK_io, heldS_k, lstS_k, lsK_own, lsK_io, putV_nm, putV_tup, putP_nm, putP_ixs, putP_tup, putPs_n, putPs_c, putN_n, putN_c, retV_s, retI_s, callD_0, callD_1, callD_2, callD_3, callD_4, ciK_own, ciK_io, callD_i1, callD_i2, forL_n, avS_v, avS_i, startS_c, startS_z, startS_u, isi_s, isi_t, isi_ll, isi_lt, isi_i, isi_ib, truD_b, len_l, len_t, max_ii, min_ii, int_i, list_l, list_t, tuple_l, tuple_t, eqD_ss, eqD_ii, c_eq, c_ne, c_lt, c_le, c_gt, c_ge, b_add, b_sub, isN_n, isN_i, ixT0, ixT1, kB1, kC1, kN, kIte, kIx, kSl, kCall, kCK2, kCK, kBlt, kG2, kG1, kG, kTr, kTC1, kTAnd, kTOr, kPs, kLs, kAs, kR2, kZ2, kZ, kFor, kLT2, kLT1, kLc, kIf, kAsg, kPar, kSx2, kSx, kMut, kRs, putS_k, RV.d, Option.bind_some, Option.bind_none, Option.map_some, Option.map_none, hideS, wipeS, backS, List.map_cons, List.map_nil, List.length_cons, List.length_nil, if_true, if_false, Bool.false_eq_true, eq_self, outsOf, decide_true, decide_false, Bool.not_true, Bool.not_false, Nat.reduceAdd, Nat.reduceLT, Nat.zero_add, h', kLst0, kTup2, s_tk, ixLlast] at e0 hm ⊢
        simp -implicitDefEqProofs only [e0, seqO_nx, seqO_ret, seqO_ct, seqO_brk, getS_z, getS_s, set_z, set_s, evB_nil, evB_cons, evS_for, evE_lc, lcTurn_k, evE_c, evE_g, evE_v, takeS_k, tkK_val, tkK_own, peekS_k, pkK_val, pkK_own, pkK_io, res_val, res_slot, sdK_val, sdK_own, sdK_io, evE_bin, evE_neg, evE_cmp, evE_isN, evE_notN, evE_and, evE_or, evE_nt, evE_ite, evE_tup, evE_lst, evE_dct, evE_ix, evE_sl, evE_call, evE_callK, evE_blt, evE_isi, evE_get2, evT_tr, evT_cmp, evT_isN, evT_notN, evT_and, evT_or, evT_nt, evTo_n, evTo_s, evP_slot, evP_ex, evPs_n, evPs_c, evL_n, evL_c, evA_n, evA_e, ioK_own, ioK_io, evA_io, evO_n, evO_e, evI_seq, evI_rng1, evI_rng2, evI_enum, evI_zip, evS_asg, evS_par, evS_setIx, evS_ex, evS_mut, evS_iF, evS_ret, evS_retS, rsK_val, rsK_own, evS_retN, evS_pass, evS_ct, evS_brk, resL_n, resL_c, kAnd_b, kOr_b, kNt_b, kO_i, kR1_i, kR22_i, evR_n, evR_c, noIo_un, noIo_val, noIo_own, of_val, of_own, chgS_k, chK_own, chK_io, heldS_k, lstS_k, lsK_own, lsK_io, putV_nm, putV_tup, putP_nm, putP_ixs, putP_tup, putPs_n, putPs_c, putN_n, putN_c, retV_s, retI_s, callD_0, callD_1, callD_2, callD_3, callD_4, ciK_own, ciK_io, callD_i1, callD_i2, forL_n, avS_v, avS_i, startS_c, startS_z, startS_u, isi_s, isi_t, isi_ll, isi_lt, isi_i, isi_ib, truD_b, len_l, len_t, max_ii, min_ii, int_i, list_l, list_t, tuple_l, tuple_t, eqD_ss, eqD_ii, c_eq, c_ne, c_lt, c_le, c_gt, c_ge, b_add, b_sub, isN_n, isN_i, ixT0, ixT1, kB1, kC1, kN, kIte, kIx, kSl, kCall, kCK2, kCK, kBlt, kG2, kG1, kG, kTr, kTC1, kTAnd, kTOr, kPs, kLs, kAs, kR2, kZ2, kZ, kFor, kLT2, kLT1, kLc, kIf, kAsg, kPar, kSx2, kSx, kMut, kRs, putS_k, RV.d, Option.bind_some, Option.bind_none, Option.map_some, Option.map_none, hideS, wipeS, backS, List.map_cons, List.map_nil, List.length_cons, List.length_nil, if_true, if_false, Bool.false_eq_true, eq_self, outsOf, decide_true, decide_false, Bool.not_true, Bool.not_false, Nat.reduceAdd, Nat.reduceLT, Nat.zero_add, h', s_tk, ixLlast, mut_a hm, kTup2]; rfl
      | keep b =>
        simp -implicitDefEqProofs only [edD, sameW, joinE, List.map_append, seqO_nx, seqO_ret, seqO_ct, seqO_brk, getS_z, getS_s, set_z, set_s, evB_nil, evB_cons, evS_for, evE_lc, lcTurn_k, evE_c, evE_g, evE_v, takeS_k, tkK_val, tkK_own, peekS_k, pkK_val, pkK_own, pkK_io, res_val, res_slot, sdK_val, sdK_own, sdK_io, evE_bin, evE_neg, evE_cmp, evE_isN, evE_notN, evE_and, evE_or, evE_nt, evE_ite, evE_tup, evE_lst, evE_dct, evE_ix, evE_sl, evE_call, evE_callK, evE_blt, evE_isi, evE_get2, evT_tr, evT_cmp, evT_isN, evT_notN, evT_and, evT_or, evT_nt, evTo_n, evTo_s, evP_slot, evP_ex, evPs_n, evPs_c, evL_n, evL_c, evA_n, evA_e, ioK_own, ioK_io, evA_io, evO_n, evO_e, evI_seq, evI_rng1, evI_rng2, evI_enum, evI_zip, evS_asg, evS_par, evS_setIx, evS_ex, evS_mut, evS_iF, evS_ret, evS_retS, rsK_val, rsK_own, evS_retN, evS_pass, evS_ct, evS_brk, resL_n, resL_c, kAnd_b, kOr_b, kNt_b, kO_i, kR1_i, kR22_i, evR_n, evR_c, noIo_un, noIo_val, noIo_own, of_val, of_own, chgS_k, chK_own, chK_io, heldS_k, lstS_k, lsK_own, lsK_io, putV_nm, putV_tup, putP_nm, putP_ixs, putP_tup, putPs_n, putPs_c, putN_n, putN_c, retV_s, retI_s, callD_0, callD_1, callD_2, callD_3, callD_4, ciK_own, ciK_io, callD_i1, callD_i2, forL_n, avS_v, avS_i, startS_c, startS_z, startS_u, isi_s, isi_t, isi_ll, isi_lt, isi_i, isi_ib, truD_b, len_l, len_t, max_ii, min_ii, int_i, list_l, list_t, tuple_l, tuple_t, eqD_ss, eqD_ii, c_eq, c_ne, c_lt, c_le, c_gt, c_ge, b_add, b_sub, isN_n, isN_i, ixT0, ixT1, kB1, kC1, kN, kIte, kIx, kSl, kCall, kCK2, kCK, kBlt, kG2, kG1, kG, kTr, kTC1, kTAnd, kTOr, kPs, kLs, kAs, kR2, kZ2, kZ, kFor, kLT2, kLT1, kLc, kIf, kAsg, kPar, kSx2, kSx, kMut, kRs, putS_k, RV.d, Option.bind_some, Option.bind_none, Option.map_some, Option.map_none, hideS, wipeS, backS, List.map_cons, List.map_nil, List.length_cons, List.length_nil, if_true, if_false, Bool.false_eq_true, eq_self, outsOf, decide_true, decide_false, Bool.not_true, Bool.not_false, Nat.reduceAdd, Nat.reduceLT, Nat.zero_add, h', kLst0, kTup2, s_kk, ixLlast, setLlast] at e0 hm ⊢
        simp -implicitDefEqProofs only [e0, seqO_nx, seqO_ret, seqO_ct, seqO_brk, getS_z, getS_s, set_z, set_s, evB_nil, evB_cons, evS_for, evE_lc, lcTurn_k, evE_c, evE_g, evE_v, takeS_k, tkK_val, tkK_own, peekS_k, pkK_val, pkK_own, pkK_io, res_val, res_slot, sdK_val, sdK_own, sdK_io, evE_bin, evE_neg, evE_cmp, evE_isN, evE_notN, evE_and, evE_or, evE_nt, evE_ite, evE_tup, evE_lst, evE_dct, evE_ix, evE_sl, evE_call, evE_callK, evE_blt, evE_isi, evE_get2, evT_tr, evT_cmp, evT_isN, evT_notN, evT_and, evT_or, evT_nt, evTo_n, evTo_s, evP_slot, evP_ex, evPs_n, evPs_c, evL_n, evL_c, evA_n, evA_e, ioK_own, ioK_io, evA_io, evO_n, evO_e, evI_seq, evI_rng1, evI_rng2, evI_enum, evI_zip, evS_asg, evS_par, evS_setIx, evS_ex, evS_mut, evS_iF, evS_ret, evS_retS, rsK_val, rsK_own, evS_retN, evS_pass, evS_ct, evS_brk, resL_n, resL_c, kAnd_b, kOr_b, kNt_b, kO_i, kR1_i, kR22_i, evR_n, evR_c, noIo_un, noIo_val, noIo_own, of_val, of_own, chgS_k, chK_own, chK_io, heldS_k, lstS_k, lsK_own, lsK_io, putV_nm, putV_tup, putP_nm, putP_ixs, putP_tup, putPs_n, putPs_c, putN_n, putN_c, retV_s, retI_s, callD_0, callD_1, callD_2, callD_3, callD_4, ciK_own, ciK_io, callD_i1, callD_i2, forL_n, avS_v, avS_i, startS_c, startS_z, startS_u, isi_s, isi_t, isi_ll, isi_lt, isi_i, isi_ib, truD_b, len_l, len_t, max_ii, min_ii, int_i, list_l, list_t, tuple_l, tuple_t, eqD_ss, eqD_ii, c_eq, c_ne, c_lt, c_le, c_gt, c_ge, b_add, b_sub, isN_n, isN_i, ixT0, ixT1, kB1, kC1, kN, kIte, kIx, kSl, kCall, kCK2, kCK, kBlt, kG2, kG1, kG, kTr, kTC1, kTAnd, kTOr, kPs, kLs, kAs, kR2, kZ2, kZ, kFor, kLT2, kLT1, kLc, kIf, kAsg, kPar, kSx2, kSx, kMut, kRs, putS_k, RV.d, Option.bind_some, Option.bind_none, Option.map_some, Option.map_none, hideS, wipeS, backS, List.map_cons, List.map_nil, List.length_cons, List.length_nil, if_true, if_false, Bool.false_eq_true, eq_self, outsOf, decide_true, decide_false, Bool.not_true, Bool.not_false, Nat.reduceAdd, Nat.reduceLT, Nat.zero_add, h', s_kk, ixLlast, setLlast, kTup2, Int.natCast_add]; rfl
  · have h' : ¬ (p : Int) < (m : Nat) := by omega
    rw [if_neg h]
    simp -implicitDefEqProofs only [seqO_nx, seqO_ret, seqO_ct, seqO_brk, getS_z, getS_s, set_z, set_s, evB_nil, evB_cons, evS_for, evE_lc, lcTurn_k, evE_c, evE_g, evE_v, takeS_k, tkK_val, tkK_own, peekS_k, pkK_val, pkK_own, pkK_io, res_val, res_slot, sdK_val, sdK_own, sdK_io, evE_bin, evE_neg, evE_cmp, evE_isN, evE_notN, evE_and, evE_or, evE_nt, evE_ite, evE_tup, evE_lst, evE_dct, evE_ix, evE_sl, evE_call, evE_callK, evE_blt, evE_isi, evE_get2, evT_tr, evT_cmp, evT_isN, evT_notN, evT_and, evT_or, evT_nt, evTo_n, evTo_s, evP_slot, evP_ex, evPs_n, evPs_c, evL_n, evL_c, evA_n, evA_e, ioK_own, ioK_io, evA_io, evO_n, evO_e, evI_seq, evI_rng1, evI_rng2, evI_enum, evI_zip, evS_asg, evS_par, evS_setIx, evS_ex, evS_mut, evS_iF, evS_ret, evS_retS, rsK_val, rsK_own, evS_retN, evS_pass, evS_ct, evS_brk, resL_n, resL_c, kAnd_b, kOr_b, kNt_b, kO_i, kR1_i, kR22_i, evR_n, evR_c, noIo_un, noIo_val, noIo_own, of_val, of_own, chgS_k, chK_own, chK_io, heldS_k, lstS_k, lsK_own, lsK_io, putV_nm, putV_tup, putP_nm, putP_ixs, putP_tup, putPs_n, putPs_c, putN_n, putN_c, retV_s, retI_s, callD_0, callD_1, callD_2, callD_3, callD_4, ciK_own, ciK_io, callD_i1, callD_i2, forL_n, avS_v, avS_i, startS_c, startS_z, startS_u, isi_s, isi_t, isi_ll, isi_lt, isi_i, isi_ib, truD_b, len_l, len_t, max_ii, min_ii, int_i, list_l, list_t, tuple_l, tuple_t, eqD_ss, eqD_ii, c_eq, c_ne, c_lt, c_le, c_gt, c_ge, b_add, b_sub, isN_n, isN_i, ixT0, ixT1, kB1, kC1, kN, kIte, kIx, kSl, kCall, kCK2, kCK, kBlt, kG2, kG1, kG, kTr, kTC1, kTAnd, kTOr, kPs, kLs, kAs, kR2, kZ2, kZ, kFor, kLT2, kLT1, kLc, kIf, kAsg, kPar, kSx2, kSx, kMut, kRs, putS_k, RV.d, Option.bind_some, Option.bind_none, Option.map_some, Option.map_none, hideS, wipeS, backS, List.map_cons, List.map_nil, List.length_cons, List.length_nil, if_true, if_false, Bool.false_eq_true, eq_self, outsOf, decide_true, decide_false, Bool.not_true, Bool.not_false, Nat.reduceAdd, Nat.reduceLT, Nat.zero_add, h']
theorem ln_some (T0 : SD) (m : Nat) (es : List Ed) (a p : Nat) (nw : List Str) (s5 s6 : SD) (h5 : noIo s5 = true) (h6 : noIo s6 = true) (x : D) (hz : es.length ≤ 900000) (hw : ∀ s ∈ nw, LnOk s) (he : ∀ e ∈ es, EdS e) :
    (putP (.tup [(.nm 5), (.nm 6)]) (.tuple [x, .int (p : Nat)]) [.val (.int (m : Nat)), T0, .own (.list (es.map edD)), .val (.int (a : Nat)), .own (.list (sD nw)), s5, s6]).bind (evB Φ W b__law_normal_0)
      = some (.nx [.val (.int (m : Nat)), T0, .own (.list ((if p < m then mergeS (es ++ tkE a p ++ ptE nw) (.keep 1) else es ++ tkE a p ++ ptE nw).map edD)), .val (.int ((p + 1 : Nat) : Int)), .own (.list (sD [])), .val x, .val (.int (p : Nat))]) := by
  have hp : putP (.tup [(.nm 5), (.nm 6)]) (.tuple [x, .int (p : Nat)]) [.val (.int (m : Nat)), T0, .own (.list (es.map edD)), .val (.int (a : Nat)), .own (.list (sD nw)), s5, s6]
      = some [.val (.int (m : Nat)), T0, .own (.list (es.map edD)), .val (.int (a : Nat)), .own (.list (sD nw)), .val x, .val (.int (p : Nat))] := by
    simp -implicitDefEqProofs only [seqO_nx, seqO_ret, seqO_ct, seqO_brk, getS_z, getS_s, set_z, set_s, evB_nil, evB_cons, evS_for, evE_lc, lcTurn_k, evE_c, evE_g, evE_v, takeS_k, tkK_val, tkK_own, peekS_k, pkK_val, pkK_own, pkK_io, res_val, res_slot, sdK_val, sdK_own, sdK_io, evE_bin, evE_neg, evE_cmp, evE_isN, evE_notN, evE_and, evE_or, evE_nt, evE_ite, evE_tup, evE_lst, evE_dct, evE_ix, evE_sl, evE_call, evE_callK, evE_blt, evE_isi, evE_get2, evT_tr, evT_cmp, evT_isN, evT_notN, evT_and, evT_or, evT_nt, evTo_n, evTo_s, evP_slot, evP_ex, evPs_n, evPs_c, evL_n, evL_c, evA_n, evA_e, ioK_own, ioK_io, evA_io, evO_n, evO_e, evI_seq, evI_rng1, evI_rng2, evI_enum, evI_zip, evS_asg, evS_par, evS_setIx, evS_ex, evS_mut, evS_iF, evS_ret, evS_retS, rsK_val, rsK_own, evS_retN, evS_pass, evS_ct, evS_brk, resL_n, resL_c, kAnd_b, kOr_b, kNt_b, kO_i, kR1_i, kR22_i, evR_n, evR_c, noIo_un, noIo_val, noIo_own, of_val, of_own, chgS_k, chK_own, chK_io, heldS_k, lstS_k, lsK_own, lsK_io, putV_nm, putV_tup, putP_nm, putP_ixs, putP_tup, putPs_n, putPs_c, putN_n, putN_c, retV_s, retI_s, callD_0, callD_1, callD_2, callD_3, callD_4, ciK_own, ciK_io, callD_i1, callD_i2, forL_n, avS_v, avS_i, startS_c, startS_z, startS_u, isi_s, isi_t, isi_ll, isi_lt, isi_i, isi_ib, truD_b, len_l, len_t, max_ii, min_ii, int_i, list_l, list_t, tuple_l, tuple_t, eqD_ss, eqD_ii, c_eq, c_ne, c_lt, c_le, c_gt, c_ge, b_add, b_sub, isN_n, isN_i, ixT0, ixT1, kB1, kC1, kN, kIte, kIx, kSl, kCall, kCK2, kCK, kBlt, kG2, kG1, kG, kTr, kTC1, kTAnd, kTOr, kPs, kLs, kAs, kR2, kZ2, kZ, kFor, kLT2, kLT1, kLc, kIf, kAsg, kPar, kSx2, kSx, kMut, kRs, putS_k, RV.d, Option.bind_some, Option.bind_none, Option.map_some, Option.map_none, hideS, wipeS, backS, List.map_cons, List.map_nil, List.length_cons, List.length_nil, if_true, if_false, Bool.false_eq_true, eq_self, outsOf, decide_true, decide_false, Bool.not_true, Bool.not_false, Nat.reduceAdd, Nat.reduceLT, Nat.zero_add, h5, h6]
  have z1 : (es ++ tkE a p).length ≤ 900001 := by rw [List.length_append]; unfold tkE; split <;> simp <;> omega
  have z2 : (es ++ tkE a p ++ ptE nw).length ≤ 900002 := by rw [List.length_append]; unfold ptE; split <;> simp only [List.length_cons, List.length_nil] <;> omega
  have hS : ∀ x ∈ es ++ tkE a p ++ ptE nw, EdS x := by
    intro x hx
    rcases List.mem_append.mp hx with h | h
    · rcases List.mem_append.mp h with h | h
      · exact he x h
      · exact edS_tk x h
    · exact edS_pt hw x h
  have ht : ∀ (b1 b2 : List RS), evB Φ W [.iF (.isN (.slot 6)) b1 b2] [.val (.int (m : Nat)), T0, .own (.list (es.map edD)), .val (.int (a : Nat)), .own (.list (sD nw)), .val x, .val (.int (p : Nat))]
      = seqO (evB Φ W b2 [.val (.int (m : Nat)), T0, .own (.list (es.map edD)), .val (.int (a : Nat)), .own (.list (sD nw)), .val x, .val (.int (p : Nat))]) (evB Φ W []) := by
    intro b1 b2
    simp -implicitDefEqProofs only [seqO_nx, seqO_ret, seqO_ct, seqO_brk, getS_z, getS_s, set_z, set_s, evB_nil, evB_cons, evS_for, evE_lc, lcTurn_k, evE_c, evE_g, evE_v, takeS_k, tkK_val, tkK_own, peekS_k, pkK_val, pkK_own, pkK_io, res_val, res_slot, sdK_val, sdK_own, sdK_io, evE_bin, evE_neg, evE_cmp, evE_isN, evE_notN, evE_and, evE_or, evE_nt, evE_ite, evE_tup, evE_lst, evE_dct, evE_ix, evE_sl, evE_call, evE_callK, evE_blt, evE_isi, evE_get2, evT_tr, evT_cmp, evT_isN, evT_notN, evT_and, evT_or, evT_nt, evTo_n, evTo_s, evP_slot, evP_ex, evPs_n, evPs_c, evL_n, evL_c, evA_n, evA_e, ioK_own, ioK_io, evA_io, evO_n, evO_e, evI_seq, evI_rng1, evI_rng2, evI_enum, evI_zip, evS_asg, evS_par, evS_setIx, evS_ex, evS_mut, evS_iF, evS_ret, evS_retS, rsK_val, rsK_own, evS_retN, evS_pass, evS_ct, evS_brk, resL_n, resL_c, kAnd_b, kOr_b, kNt_b, kO_i, kR1_i, kR22_i, evR_n, evR_c, noIo_un, noIo_val, noIo_own, of_val, of_own, chgS_k, chK_own, chK_io, heldS_k, lstS_k, lsK_own, lsK_io, putV_nm, putV_tup, putP_nm, putP_ixs, putP_tup, putPs_n, putPs_c, putN_n, putN_c, retV_s, retI_s, callD_0, callD_1, callD_2, callD_3, callD_4, ciK_own, ciK_io, callD_i1, callD_i2, forL_n, avS_v, avS_i, startS_c, startS_z, startS_u, isi_s, isi_t, isi_ll, isi_lt, isi_i, isi_ib, truD_b, len_l, len_t, max_ii, min_ii, int_i, list_l, list_t, tuple_l, tuple_t, eqD_ss, eqD_ii, c_eq, c_ne, c_lt, c_le, c_gt, c_ge, b_add, b_sub, isN_n, isN_i, ixT0, ixT1, kB1, kC1, kN, kIte, kIx, kSl, kCall, kCK2, kCK, kBlt, kG2, kG1, kG, kTr, kTC1, kTAnd, kTOr, kPs, kLs, kAs, kR2, kZ2, kZ, kFor, kLT2, kLT1, kLc, kIf, kAsg, kPar, kSx2, kSx, kMut, kRs, putS_k, RV.d, Option.bind_some, Option.bind_none, Option.map_some, Option.map_none, hideS, wipeS, backS, List.map_cons, List.map_nil, List.length_cons, List.length_nil, if_true, if_false, Bool.false_eq_true, eq_self, outsOf, decide_true, decide_false, Bool.not_true, Bool.not_false, Nat.reduceAdd, Nat.reduceLT, Nat.zero_add]
  rw [hp, Option.bind_some, b__law_normal_0, ht, evB_cons, S_tk _ (c_ev "take") _ _ _ _ es a p (by omega), seqO_nx, evB_cons, S_pt _ (c_ev "put") _ _ _ _ _ _ nw hw (by omega), seqO_nx,
    evB_cons, S_ln _ _ _ _ _ m p (by omega) hS, seqO_nx, evB_cons, S_end _ _ _ _ _ _ p rfl rfl, seqO_nx, evB_nil, seqO_nx, evB_nil]
end
def EnOk (t : List En) : Prop := ∀ e ∈ t, LnOk e.1
def stOk (st : St) (k : Nat) : Prop := st.1.length + 3 * k ≤ 900000 ∧ st.2.2.length + k ≤ 900000 ∧ (∀ s ∈ st.2.2, LnOk s) ∧ (∀ e ∈ st.1, EdS e)
theorem len_tk {a p : Nat} : (tkE a p).length ≤ 1 := by unfold tkE; split <;> simp
theorem len_pt {nw : List Str} : (ptE nw).length ≤ 1 := by unfold ptE; split <;> simp
theorem len_kp {m p : Nat} : (kpE m p).length ≤ 1 := by unfold kpE; split <;> simp
theorem edS_kp {m p : Nat} : ∀ x ∈ kpE m p, EdS x := by
  intro x hx; unfold kpE at hx; split at hx
  · rcases List.mem_singleton.mp hx with rfl; trivial
  · cases hx
theorem edS_app {a b : List Ed} (ha : ∀ x ∈ a, EdS x) (hb : ∀ x ∈ b, EdS x) : ∀ x ∈ a ++ b, EdS x := by
  intro x hx; rcases List.mem_append.mp hx with h | h
  · exact ha x h
  · exact hb x h
theorem ok_stepE {m k : Nat} {st : St} {e : En} (h : stOk st (k + 1)) (he : LnOk e.1) : stOk (stepE m st e) k := by
  obtain ⟨h1, h2, h3, h4⟩ := h
  unfold stepE; split
  · refine ⟨by simp only; omega, by simp only [List.length_append, List.length_cons, List.length_nil]; omega, ?_, h4⟩
    intro s hs; rcases List.mem_append.mp hs with h | h
    · exact h3 s h
    · rcases List.mem_singleton.mp h with rfl; exact he
  · rename_i p _
    have l1 := len_tk (a := st.2.1) (p := p); have l2 := len_pt (nw := st.2.2); have l3 := len_kp (m := m) (p := p)
    exact ⟨by simp only [List.length_append]; omega, by simp only [List.length_nil]; omega, (by intro s hs; cases hs), edS_app (edS_app (edS_app h4 edS_tk) (edS_pt h3)) edS_kp⟩
theorem ok_stepN {m k : Nat} {st : St} {e : En} (h : stOk st (k + 1)) (he : LnOk e.1) : stOk (stepN m st e) k := by
  obtain ⟨h1, h2, h3, h4⟩ := h
  unfold stepN; split
  · refine ⟨by simp only; omega, by simp only [List.length_append, List.length_cons, List.length_nil]; omega, ?_, h4⟩
    intro s hs; rcases List.mem_append.mp hs with h | h
    · exact h3 s h
    · rcases List.mem_singleton.mp h with rfl; exact he
  · rename_i p _
    have l1 := len_tk (a := st.2.1) (p := p); have l2 := len_pt (nw := st.2.2)
    have l3 := len_merge (f := st.1 ++ tkE st.2.1 p ++ ptE st.2.2) (e := .keep 1)
    have hS := edS_app (edS_app h4 (edS_tk (a := st.2.1) (p := p))) (edS_pt h3)
    simp only [List.length_append] at l3
    refine ⟨?_, by simp only [List.length_nil]; omega, (by intro s hs; cases hs), ?_⟩
    · show (if p < m then mergeS (st.1 ++ tkE st.2.1 p ++ ptE st.2.2) (.keep 1) else st.1 ++ tkE st.2.1 p ++ ptE st.2.2).length + 3 * k ≤ 900000
      by_cases hp : p < m
      · rw [if_pos hp]; omega
      · rw [if_neg hp]; simp only [List.length_append]; omega
    · simp only; split
      · exact edS_merge hS trivial
      · exact hS
theorem loop_pt (Φ : Fn) (T0 : SD) (m : Nat) : ∀ (t : List En) (st : St) (s5 s6 : SD), noIo s5 = true → noIo s6 = true → EnOk t → stOk st t.length →
    ∃ t5 t6, noIo t5 = true ∧ noIo t6 = true ∧ ∀ ds, forL (.tup [(.nm 5), (.nm 6)]) (evB Φ W b_patch_of_trace_0) (trD t ++ ds) ([.val (.int (m : Nat)), T0] ++ sS st.1 st.2.1 st.2.2 ++ [s5, s6])
      = forL (.tup [(.nm 5), (.nm 6)]) (evB Φ W b_patch_of_trace_0) ds ([.val (.int (m : Nat)), T0] ++ sS (t.foldl (stepE m) st).1 (t.foldl (stepE m) st).2.1 (t.foldl (stepE m) st).2.2 ++ [t5, t6]) := by
  intro t
  induction t with
  | nil => intro st s5 s6 h5 h6 _ _; exact ⟨s5, s6, h5, h6, fun ds => rfl⟩
  | cons e r ih =>
    intro st s5 s6 h5 h6 he hst
    have he0 := he e List.mem_cons_self
    have ih' := fun u5 u6 (k5 : noIo u5 = true) (k6 : noIo u6 = true) => ih (stepE m st e) u5 u6 k5 k6 (fun x hx => he x (List.mem_cons_of_mem _ hx)) (ok_stepE hst he0)
    obtain ⟨h1, h2, h3, h4⟩ := hst
    simp only [List.length_cons] at h1 h2
    obtain ⟨x, o⟩ := e
    cases o with
    | none =>
      obtain ⟨t5, t6, k5, k6, h⟩ := ih' _ _ (noIo_val (d := .str x)) (noIo_val (d := .none))
      refine ⟨t5, t6, k5, k6, fun ds => ?_⟩
      have hs := pt_none (W := W) (Φ := Φ) (.val (.int (m : Nat))) T0 st.1 st.2.1 st.2.2 s5 s6 h5 h6 x (by omega)
      exact (forL_ct hs).trans (h ds)
    | some p =>
      obtain ⟨t5, t6, k5, k6, h⟩ := ih' _ _ (noIo_val (d := .str x)) (noIo_val (d := .int (p : Nat)))
      refine ⟨t5, t6, k5, k6, fun ds => ?_⟩
      have hs := pt_some (W := W) (Φ := Φ) T0 m st.1 st.2.1 p st.2.2 s5 s6 h5 h6 (.str x) (by omega) h3
      exact (forL_nx hs).trans (h ds)
theorem loop_ln (Φ : Fn) (T0 : SD) (m : Nat) : ∀ (t : List En) (st : St) (s5 s6 : SD), noIo s5 = true → noIo s6 = true → EnOk t → stOk st t.length →
    ∃ t5 t6, noIo t5 = true ∧ noIo t6 = true ∧ ∀ ds, forL (.tup [(.nm 5), (.nm 6)]) (evB Φ W b__law_normal_0) (trD t ++ ds) ([.val (.int (m : Nat)), T0] ++ sS st.1 st.2.1 st.2.2 ++ [s5, s6])
      = forL (.tup [(.nm 5), (.nm 6)]) (evB Φ W b__law_normal_0) ds ([.val (.int (m : Nat)), T0] ++ sS (t.foldl (stepN m) st).1 (t.foldl (stepN m) st).2.1 (t.foldl (stepN m) st).2.2 ++ [t5, t6]) := by
  intro t
  induction t with
  | nil => intro st s5 s6 h5 h6 _ _; exact ⟨s5, s6, h5, h6, fun ds => rfl⟩
  | cons e r ih =>
    intro st s5 s6 h5 h6 he hst
    have he0 := he e List.mem_cons_self
    have ih' := fun u5 u6 (k5 : noIo u5 = true) (k6 : noIo u6 = true) => ih (stepN m st e) u5 u6 k5 k6 (fun x hx => he x (List.mem_cons_of_mem _ hx)) (ok_stepN hst he0)
    obtain ⟨h1, h2, h3, h4⟩ := hst
    simp only [List.length_cons] at h1 h2
    obtain ⟨x, o⟩ := e
    cases o with
    | none =>
      obtain ⟨t5, t6, k5, k6, h⟩ := ih' _ _ (noIo_val (d := .str x)) (noIo_val (d := .none))
      refine ⟨t5, t6, k5, k6, fun ds => ?_⟩
      have hs := ln_none (W := W) (Φ := Φ) (.val (.int (m : Nat))) T0 st.1 st.2.1 st.2.2 s5 s6 h5 h6 x (by omega)
      exact (forL_nx hs).trans (h ds)
    | some p =>
      obtain ⟨t5, t6, k5, k6, h⟩ := ih' _ _ (noIo_val (d := .str x)) (noIo_val (d := .int (p : Nat)))
      refine ⟨t5, t6, k5, k6, fun ds => ?_⟩
      have hs := ln_some (W := W) (Φ := Φ) T0 m st.1 st.2.1 p st.2.2 s5 s6 h5 h6 (.str x) (by omega) h3 h4
      exact (forL_nx hs).trans (h ds)
/-! ### the two agree -/
def endK (f : List Ed) : Prop := ∀ g l, f = g ++ [l] → sameW l (.keep 1) = true
theorem merge_put {f : List Ed} {e : Ed} (h : ∀ g l, f = g ++ [l] → sameW l e = false) : mergeS f e = f ++ [e] := by
  rcases List.eq_nil_or_concat f with rfl | ⟨g, l, rfl⟩
  · rfl
  · rw [List.concat_eq_append] at h ⊢
    rw [mergeS_c, h g l rfl]; rfl
theorem merge_tkpt {f : List Ed} (h : endK f) (a p : Nat) (nw : List Str) : (tkE a p ++ ptE nw).foldl mergeS f = f ++ tkE a p ++ ptE nw := by
  have k1 : ∀ g l, f = g ++ [l] → sameW l (.take (p - a)) = false ∧ sameW l (.put nw) = false := by
    intro g l e
    have := h g l e
    cases l <;> simp [sameW] at this ⊢
  unfold tkE ptE
  by_cases h1 : a < p <;> by_cases h2 : nw = [] <;> simp only [h1, h2, if_true, if_false, List.nil_append, List.append_nil, List.foldl_nil, List.foldl_cons, List.cons_append]
  · exact merge_put fun g l e => (k1 g l e).1
  · rw [merge_put fun g l e => (k1 g l e).1]
    exact merge_put fun g l e => by
      have : l = .take (p - a) := by
        have e2 := (List.append_inj_right' e rfl)
        exact (List.singleton_inj.mp e2).symm
      subst this; rfl
  · exact merge_put fun g l e => (k1 g l e).2
theorem endK_merge {f : List Ed} {k : Nat} : endK (mergeS f (.keep k)) := by
  rcases List.eq_nil_or_concat f with rfl | ⟨g, l, rfl⟩
  · intro g l e
    have : l = .keep k := by
      have e2 : [] ++ [Ed.keep k] = g ++ [l] := e
      exact (List.singleton_inj.mp (List.append_inj_right' e2 rfl)).symm
    subst this; rfl
  · rw [List.concat_eq_append, mergeS_c]
    intro g' l' e
    by_cases hs : sameW l (.keep k) = true
    · rw [if_pos hs] at e
      have := (List.singleton_inj.mp (List.append_inj_right' e rfl)).symm
      subst this
      cases l <;> simp [sameW, joinE] at hs ⊢
    · rw [if_neg hs] at e
      have := (List.singleton_inj.mp (List.append_inj_right' e rfl)).symm
      subst this; rfl
def Bel (m : Nat) (t : List En) : Prop := ∀ e ∈ t, ∀ p, e.2 = some p → p < m
theorem agree_loop (m : Nat) : ∀ (t : List En), Bel m t → ∀ (a b : St), a.2 = b.2 → a.1.foldl mergeS [] = b.1 → endK b.1 →
    (t.foldl (stepE m) a).2 = (t.foldl (stepN m) b).2 ∧ (t.foldl (stepE m) a).1.foldl mergeS [] = (t.foldl (stepN m) b).1 ∧ endK (t.foldl (stepN m) b).1 := by
  intro t
  induction t with
  | nil => intro _ a b h1 h2 h3; exact ⟨h1, h2, h3⟩
  | cons e r ih =>
    intro hb a b h1 h2 h3
    have hr : Bel m r := fun x hx => hb x (List.mem_cons_of_mem _ hx)
    rw [List.foldl_cons, List.foldl_cons]
    obtain ⟨x, o⟩ := e
    cases o with
    | none => exact ih hr _ _ (by simp [stepE, stepN, h1]) (by simp [stepE, stepN, h2]) (by simpa [stepN] using h3)
    | some p =>
      have hp : p < m := hb (x, some p) List.mem_cons_self p rfl
      refine ih hr _ _ (by simp [stepE, stepN]) ?_ ?_
      · simp only [stepE, stepN, hp, if_true, kpE, h1]
        rw [List.foldl_append, List.append_assoc, List.foldl_append, h2, merge_tkpt h3]; rfl
      · simp only [stepN, hp, if_true]; exact endK_merge
theorem agree (m : Nat) (t : List En) (h : Bel m t) : (editsF m t).foldl mergeS [] = normF m t := by
  obtain ⟨h1, h2, h3⟩ := agree_loop m t h ([], 0, []) ([], 0, []) rfl rfl (fun g l e => by cases g <;> cases e)
  unfold editsF normF
  simp only [stepE, stepN, kpE, Nat.lt_irrefl, if_false, List.append_nil, h1]
  rw [List.append_assoc, List.foldl_append, h2, merge_tkpt h3]
theorem ok_foldE {m : Nat} : ∀ (t : List En) (st : St) (k : Nat), EnOk t → stOk st (t.length + k) → stOk (t.foldl (stepE m) st) k
  | [], st, k, _, h => by simpa using h
  | e :: r, st, k, he, h => ok_foldE r _ k (fun x hx => he x (List.mem_cons_of_mem _ hx)) (ok_stepE (by rw [List.length_cons] at h; rwa [show r.length + k + 1 = r.length + 1 + k by omega]) (he e List.mem_cons_self))
theorem ok_foldN {m : Nat} : ∀ (t : List En) (st : St) (k : Nat), EnOk t → stOk st (t.length + k) → stOk (t.foldl (stepN m) st) k
  | [], st, k, _, h => by simpa using h
  | e :: r, st, k, he, h => ok_foldN r _ k (fun x hx => he x (List.mem_cons_of_mem _ hx)) (ok_stepN (by rw [List.length_cons] at h; rwa [show r.length + k + 1 = r.length + 1 + k by omega]) (he e List.mem_cons_self))
theorem ok_start {k : Nat} (h : k ≤ 100000) : stOk ([], 0, []) k := ⟨by simp only [List.length_nil]; omega, by simp only [List.length_nil]; omega, by (intro s hs; cases hs), by (intro s hs; cases hs)⟩
theorem late_tk {a p : Nat} : lateOf (tkE a p) = 0 := by unfold tkE; split <;> simp [lateOf, lateE]
theorem late_pt {nw : List Str} : lateOf (ptE nw) = nw.length := by
  unfold ptE; split
  · rename_i h; subst h; rfl
  · simp [lateOf, lateE]
theorem late_kp {m p : Nat} : lateOf (kpE m p) ≤ 1 := by unfold kpE; split <;> simp [lateOf, lateE]
theorem late_stepE {m : Nat} {st : St} {e : En} : lateOf (stepE m st e).1 + (stepE m st e).2.2.length ≤ lateOf st.1 + st.2.2.length + 1 := by
  unfold stepE; split
  · simp only [List.length_append, List.length_cons, List.length_nil]; omega
  · rename_i p _
    have h := late_kp (m := m) (p := p)
    simp only [late_app, late_tk, late_pt, List.length_nil]; omega
theorem late_foldE {m : Nat} : ∀ (t : List En) (st : St), lateOf (t.foldl (stepE m) st).1 + (t.foldl (stepE m) st).2.2.length ≤ lateOf st.1 + st.2.2.length + t.length
  | [], st => by simp
  | e :: r, st => by
    have h1 := late_foldE (m := m) r (stepE m st e)
    have h2 := late_stepE (m := m) (st := st) (e := e)
    simp only [List.foldl_cons, List.length_cons]; omega
theorem e_patch_of_trace (m : Nat) (t : List En) (hE : EnOk t) (hB : Bel m t) (hl : t.length ≤ 1000) :
    callF T W (n+2) 12 [.val (.int (m : Nat)), .val (.list (trD t))] = some (.val (paD (normF m t)), []) := by
  rw [run_12, run_eq rfl rfl]
  have hk := ok_foldE (m := m) t ([], 0, []) 0 hE (ok_start (by omega))
  have hk1 := ok_stepE (m := m) (st := t.foldl (stepE m) ([], 0, [])) (e := (default, some m)) (k := 0)
  obtain ⟨t5, t6, k5, k6, h⟩ := loop_pt (W := W) (callF T W (n+1)) (.val (.list (trD t))) m t ([], 0, []) .un .un rfl rfl hE (ok_start (by omega))
  have h' := h [.tuple [.str "", .int (m : Nat)]]
  obtain ⟨b1, b2, b3, b4⟩ := hk
  have hs := pt_some (W := W) (Φ := callF T W (n+1)) (.val (.list (trD t))) m (t.foldl (stepE m) ([], 0, [])).1 (t.foldl (stepE m) ([], 0, [])).2.1 m (t.foldl (stepE m) ([], 0, [])).2.2 t5 t6 k5 k6 (.str "") (by omega) b3
  have hf := h'.trans ((forL_nx hs).trans forL_n)
  have hl0 := late_foldE (m := m) t ([], 0, [])
  have eE : editsF m t = (t.foldl (stepE m) ([], 0, [])).1 ++ tkE (t.foldl (stepE m) ([], 0, [])).2.1 m ++ ptE (t.foldl (stepE m) ([], 0, [])).2.2 ++ kpE m m := rfl
  rw [← eE] at hf
  have q1 : ∀ x ∈ editsF m t, EdS x := by rw [eE]; exact edS_app (edS_app (edS_app b4 edS_tk) (edS_pt b3)) edS_kp
  have q2 : (editsF m t).length ≤ 1000000 := by
    rw [eE]; simp only [List.length_append]
    have l1 := len_tk (a := (t.foldl (stepE m) ([], 0, [])).2.1) (p := m); have l2 := len_pt (nw := (t.foldl (stepE m) ([], 0, [])).2.2); have l3 := len_kp (m := m) (p := m)
    omega
  have q3 : lateOf (editsF m t) ≤ 1000000 := by
    rw [eE]; simp only [late_app, late_tk, late_pt]
    have l3 := late_kp (m := m) (p := m)
    simp only [lateOf, List.map_nil, List.sum_nil, List.length_nil] at hl0 ⊢ l3
    omega
  have hm := e_merge (W := W) (n := n) (editsF m t) q1 q2 q3
  rw [agree m t hB] at hm
  have hz : (trD t).length + [PyData.tuple [.str "", .int (m : Nat)]].length ≤ sizeLine := by rw [len_trD]; exact sz1 (by simp only [List.length_cons, List.length_nil]; omega)
  have hz2 : (trD t ++ [PyData.tuple [.str "", .int (m : Nat)]]).length ≤ sizeLine := by rw [List.length_append]; exact hz
  simp only [sS, List.map_nil, sD, List.cons_append, List.nil_append, Int.ofNat_zero, Int.cast_ofNat_Int] at hf
  simp -implicitDefEqProofs only [d_patch_of_trace, seqO_nx, seqO_ret, seqO_ct, seqO_brk, getS_z, getS_s, set_z, set_s, evB_nil, evB_cons, evS_for, evE_lc, lcTurn_k, evE_c, evE_g, evE_v, takeS_k, tkK_val, tkK_own, peekS_k, pkK_val, pkK_own, pkK_io, res_val, res_slot, sdK_val, sdK_own, sdK_io, evE_bin, evE_neg, evE_cmp, evE_isN, evE_notN, evE_and, evE_or, evE_nt, evE_ite, evE_tup, evE_lst, evE_dct, evE_ix, evE_sl, evE_call, evE_callK, evE_blt, evE_isi, evE_get2, evT_tr, evT_cmp, evT_isN, evT_notN, evT_and, evT_or, evT_nt, evTo_n, evTo_s, evP_slot, evP_ex, evPs_n, evPs_c, evL_n, evL_c, evA_n, evA_e, ioK_own, ioK_io, evA_io, evO_n, evO_e, evI_seq, evI_rng1, evI_rng2, evI_enum, evI_zip, evS_asg, evS_par, evS_setIx, evS_ex, evS_mut, evS_iF, evS_ret, evS_retS, rsK_val, rsK_own, evS_retN, evS_pass, evS_ct, evS_brk, resL_n, resL_c, kAnd_b, kOr_b, kNt_b, kO_i, kR1_i, kR22_i, evR_n, evR_c, noIo_un, noIo_val, noIo_own, of_val, of_own, chgS_k, chK_own, chK_io, heldS_k, lstS_k, lsK_own, lsK_io, putV_nm, putV_tup, putP_nm, putP_ixs, putP_tup, putPs_n, putPs_c, putN_n, putN_c, retV_s, retI_s, callD_0, callD_1, callD_2, callD_3, callD_4, ciK_own, ciK_io, callD_i1, callD_i2, forL_n, avS_v, avS_i, startS_c, startS_z, startS_u, isi_s, isi_t, isi_ll, isi_lt, isi_i, isi_ib, truD_b, len_l, len_t, max_ii, min_ii, int_i, list_l, list_t, tuple_l, tuple_t, eqD_ss, eqD_ii, c_eq, c_ne, c_lt, c_le, c_gt, c_ge, b_add, b_sub, isN_n, isN_i, ixT0, ixT1, kB1, kC1, kN, kIte, kIx, kSl, kCall, kCK2, kCK, kBlt, kG2, kG1, kG, kTr, kTC1, kTAnd, kTOr, kPs, kLs, kAs, kR2, kZ2, kZ, kFor, kLT2, kLT1, kLc, kIf, kAsg, kPar, kSx2, kSx, kMut, kRs, putS_k, RV.d, Option.bind_some, Option.bind_none, Option.map_some, Option.map_none, hideS, wipeS, backS, List.map_cons, List.map_nil, List.length_cons, List.length_nil, if_true, if_false, Bool.false_eq_true, eq_self, outsOf, decide_true, decide_false, Bool.not_true, Bool.not_false, Nat.reduceAdd, Nat.reduceLT, Nat.zero_add, kLst0, kLst1, kTup2, b_addl hz, items_l hz2, hf, hm]
theorem e_law_normal (m : Nat) (t : List En) (hE : EnOk t) (hl : t.length ≤ 1000) :
    callF T W (n+1) 26 [.val (.int (m : Nat)), .val (.list (trD t))] = some (.val (paD (normF m t)), []) := by
  rw [run_26, run_eq rfl rfl]
  have hk := ok_foldN (m := m) t ([], 0, []) 0 hE (ok_start (by omega))
  obtain ⟨t5, t6, k5, k6, h⟩ := loop_ln (W := W) (callF T W n) (.val (.list (trD t))) m t ([], 0, []) .un .un rfl rfl hE (ok_start (by omega))
  have h' := h [.tuple [.none, .int (m : Nat)]]
  obtain ⟨b1, b2, b3, b4⟩ := hk
  have hs := ln_some (W := W) (Φ := callF T W n) (.val (.list (trD t))) m (t.foldl (stepN m) ([], 0, [])).1 (t.foldl (stepN m) ([], 0, [])).2.1 m (t.foldl (stepN m) ([], 0, [])).2.2 t5 t6 k5 k6 .none (by omega) b3 b4
  have hf := h'.trans ((forL_nx hs).trans forL_n)
  have eE : normF m t = (if m < m then mergeS ((t.foldl (stepN m) ([], 0, [])).1 ++ tkE (t.foldl (stepN m) ([], 0, [])).2.1 m ++ ptE (t.foldl (stepN m) ([], 0, [])).2.2) (.keep 1) else (t.foldl (stepN m) ([], 0, [])).1 ++ tkE (t.foldl (stepN m) ([], 0, [])).2.1 m ++ ptE (t.foldl (stepN m) ([], 0, [])).2.2) := rfl
  rw [← eE] at hf
  have hz : (trD t).length + [PyData.tuple [.none, .int (m : Nat)]].length ≤ sizeLine := by rw [len_trD]; exact sz1 (by simp only [List.length_cons, List.length_nil]; omega)
  have hz2 : (trD t ++ [PyData.tuple [.none, .int (m : Nat)]]).length ≤ sizeLine := by rw [List.length_append]; exact hz
  simp only [sS, List.map_nil, sD, List.cons_append, List.nil_append, Int.ofNat_zero, Int.cast_ofNat_Int] at hf
  simp -implicitDefEqProofs only [d__law_normal, seqO_nx, seqO_ret, seqO_ct, seqO_brk, getS_z, getS_s, set_z, set_s, evB_nil, evB_cons, evS_for, evE_lc, lcTurn_k, evE_c, evE_g, evE_v, takeS_k, tkK_val, tkK_own, peekS_k, pkK_val, pkK_own, pkK_io, res_val, res_slot, sdK_val, sdK_own, sdK_io, evE_bin, evE_neg, evE_cmp, evE_isN, evE_notN, evE_and, evE_or, evE_nt, evE_ite, evE_tup, evE_lst, evE_dct, evE_ix, evE_sl, evE_call, evE_callK, evE_blt, evE_isi, evE_get2, evT_tr, evT_cmp, evT_isN, evT_notN, evT_and, evT_or, evT_nt, evTo_n, evTo_s, evP_slot, evP_ex, evPs_n, evPs_c, evL_n, evL_c, evA_n, evA_e, ioK_own, ioK_io, evA_io, evO_n, evO_e, evI_seq, evI_rng1, evI_rng2, evI_enum, evI_zip, evS_asg, evS_par, evS_setIx, evS_ex, evS_mut, evS_iF, evS_ret, evS_retS, rsK_val, rsK_own, evS_retN, evS_pass, evS_ct, evS_brk, resL_n, resL_c, kAnd_b, kOr_b, kNt_b, kO_i, kR1_i, kR22_i, evR_n, evR_c, noIo_un, noIo_val, noIo_own, of_val, of_own, chgS_k, chK_own, chK_io, heldS_k, lstS_k, lsK_own, lsK_io, putV_nm, putV_tup, putP_nm, putP_ixs, putP_tup, putPs_n, putPs_c, putN_n, putN_c, retV_s, retI_s, callD_0, callD_1, callD_2, callD_3, callD_4, ciK_own, ciK_io, callD_i1, callD_i2, forL_n, avS_v, avS_i, startS_c, startS_z, startS_u, isi_s, isi_t, isi_ll, isi_lt, isi_i, isi_ib, truD_b, len_l, len_t, max_ii, min_ii, int_i, list_l, list_t, tuple_l, tuple_t, eqD_ss, eqD_ii, c_eq, c_ne, c_lt, c_le, c_gt, c_ge, b_add, b_sub, isN_n, isN_i, ixT0, ixT1, kB1, kC1, kN, kIte, kIx, kSl, kCall, kCK2, kCK, kBlt, kG2, kG1, kG, kTr, kTC1, kTAnd, kTOr, kPs, kLs, kAs, kR2, kZ2, kZ, kFor, kLT2, kLT1, kLc, kIf, kAsg, kPar, kSx2, kSx, kMut, kRs, putS_k, RV.d, Option.bind_some, Option.bind_none, Option.map_some, Option.map_none, hideS, wipeS, backS, List.map_cons, List.map_nil, List.length_cons, List.length_nil, if_true, if_false, Bool.false_eq_true, eq_self, outsOf, decide_true, decide_false, Bool.not_true, Bool.not_false, Nat.reduceAdd, Nat.reduceLT, Nat.zero_add, kLst0, kLst1, kTup2, b_addl hz, items_l hz2, hf, paD]
theorem enok_trace {L : List Str} (hL : ∀ s ∈ L, LnOk s) : ∀ {p : List Ed} {a : Nat}, (∀ e ∈ p, EdOk e) → a + spanOf p ≤ L.length → EnOk (traceF L p a)
  | [], _, _, _ => by intro x hx; cases hx
  | .put ls :: r, a, he, hs => by
    rw [span_c] at hs; simp only [spanE] at hs
    have ih := enok_trace hL (p := r) (a := a) (fun x hx => he x (List.mem_cons_of_mem _ hx)) (by omega)
    intro x hx; rw [traceF] at hx
    rcases List.mem_append.mp hx with h | h
    · obtain ⟨s, hs', rfl⟩ := List.mem_map.mp h; exact (he _ List.mem_cons_self).2.2 s hs'
    · exact ih x h
  | .keep k :: r, a, he, hs => by
    rw [span_c] at hs; simp only [spanE] at hs
    have ih := enok_trace hL (p := r) (a := a + k) (fun x hx => he x (List.mem_cons_of_mem _ hx)) (by omega)
    intro x hx; rw [traceF] at hx
    rcases List.mem_append.mp hx with h | h
    · obtain ⟨i, hi, rfl⟩ := List.mem_map.mp h
      have hi2 : i < L.length := by have := List.mem_range'_1.mp hi; omega
      simp only [List.getD_eq_getElem?_getD, List.getElem?_eq_getElem hi2, Option.getD_some]
      exact hL _ (List.getElem_mem hi2)
    · exact ih x h
  | .take k :: r, a, he, hs => by
    rw [span_c] at hs; simp only [spanE] at hs
    rw [traceF]
    exact enok_trace hL (p := r) (a := a + k) (fun x hx => he x (List.mem_cons_of_mem _ hx)) (by omega)
end K82

/-! V6: plain facts on traces and their patches, no program in sight. -/
namespace K82
open PySem PySem.Spec PyProof.Rows L2 PL
def TrOk (L : List Str) : Nat → List En → Prop
  | _, [] => True
  | a, (s, none) :: r => LnOk s ∧ TrOk L a r
  | a, (s, some p) :: r => a ≤ p ∧ p < L.length ∧ s = L.getD p default ∧ TrOk L (p + 1) r
theorem tr_mono {L : List Str} : ∀ {t : List En} {a b : Nat}, a ≤ b → TrOk L b t → TrOk L a t
  | [], _, _, _, _ => trivial
  | (s, none) :: r, a, b, h, k => ⟨k.1, tr_mono h k.2⟩
  | (s, some p) :: r, a, b, h, k => ⟨Nat.le_trans h k.1, k.2⟩
theorem tr_news {L : List Str} {a : Nat} {t : List En} : ∀ {ls : List Str}, (∀ s ∈ ls, LnOk s) → TrOk L a t → TrOk L a (ls.map (fun s => (s, none)) ++ t)
  | [], _, h => h
  | s :: r, hl, h => ⟨hl s List.mem_cons_self, tr_news (fun x hx => hl x (List.mem_cons_of_mem _ hx)) h⟩
theorem tr_olds {L : List Str} {t : List En} : ∀ {k a : Nat}, a + k ≤ L.length → TrOk L (a + k) t → TrOk L a ((List.range' a k).map (fun i => (L.getD i default, some i)) ++ t)
  | 0, a, _, h => h
  | k + 1, a, hl, h => ⟨Nat.le_refl _, by omega, rfl, tr_olds (k := k) (a := a + 1) (by omega) (by rwa [show a + 1 + k = a + (k + 1) by omega])⟩
theorem tr_trace {L : List Str} : ∀ {p : List Ed} {a : Nat}, (∀ e ∈ p, EdOk e) → a + spanOf p ≤ L.length → TrOk L a (traceF L p a)
  | [], _, _, _ => trivial
  | .put ls :: r, a, he, hs => by
    rw [span_c] at hs; simp only [spanE] at hs
    rw [traceF]
    exact tr_news (he _ List.mem_cons_self).2.2 (tr_trace (fun x hx => he x (List.mem_cons_of_mem _ hx)) (by omega))
  | .keep k :: r, a, he, hs => by
    rw [span_c] at hs; simp only [spanE] at hs
    rw [traceF]
    exact tr_olds (by omega) (tr_trace (fun x hx => he x (List.mem_cons_of_mem _ hx)) (by omega))
  | .take k :: r, a, he, hs => by
    rw [span_c] at hs; simp only [spanE] at hs
    rw [traceF]
    exact tr_mono (Nat.le_add_right a k) (tr_trace (fun x hx => he x (List.mem_cons_of_mem _ hx)) (by omega))
theorem tr_bel {L : List Str} : ∀ {t : List En} {a : Nat}, TrOk L a t → Bel L.length t
  | [], _, _ => by intro x hx; cases hx
  | (s, none) :: r, a, h => by
    intro x hx p hp
    rcases List.mem_cons.mp hx with rfl | hx
    · cases hp
    · exact tr_bel h.2 x hx p hp
  | (s, some q) :: r, a, h => by
    intro x hx p hp
    rcases List.mem_cons.mp hx with rfl | hx
    · cases hp; exact h.2.1
    · exact tr_bel h.2.2.2 x hx p hp
theorem getD_ok {L : List Str} (hL : ∀ s ∈ L, LnOk s) {i : Nat} (h : i < L.length) : LnOk (L.getD i default) := by
  simp only [List.getD_eq_getElem?_getD, List.getElem?_eq_getElem h, Option.getD_some]; exact hL _ (List.getElem_mem h)
theorem tr_enok {L : List Str} (hL : ∀ s ∈ L, LnOk s) : ∀ {t : List En} {a : Nat}, TrOk L a t → EnOk t
  | [], _, _ => by intro x hx; cases hx
  | (s, none) :: r, a, h => by
    intro x hx
    rcases List.mem_cons.mp hx with rfl | hx
    · exact h.1
    · exact tr_enok hL h.2 x hx
  | (s, some q) :: r, a, h => by
    intro x hx
    rcases List.mem_cons.mp hx with rfl | hx
    · have := h.2.2.1; simp only [this]; exact getD_ok hL h.2.1
    · exact tr_enok hL h.2.2.2 x hx
theorem span_app {a b : List Ed} : spanOf (a ++ b) = spanOf a + spanOf b := by simp [spanOf]
theorem trace_app {L : List Str} : ∀ {p q : List Ed} {a : Nat}, traceF L (p ++ q) a = traceF L p a ++ traceF L q (a + spanOf p)
  | [], q, a => by simp [traceF, spanOf]
  | .put ls :: r, q, a => by rw [List.cons_append, traceF, traceF, trace_app (p := r), span_c, List.append_assoc]; simp [spanE]
  | .keep k :: r, q, a => by rw [List.cons_append, traceF, traceF, trace_app (p := r), span_c, List.append_assoc, Nat.add_assoc]; rfl
  | .take k :: r, q, a => by rw [List.cons_append, traceF, traceF, trace_app (p := r), span_c, Nat.add_assoc]; rfl
theorem trace_keep1 {L : List Str} {f : List Ed} {a : Nat} : traceF L (mergeS f (.keep 1)) a = traceF L f a ++ [(L.getD (a + spanOf f) default, some (a + spanOf f))] := by
  rcases List.eq_nil_or_concat f with rfl | ⟨g, l, rfl⟩
  · rw [mergeS_n]; simp [traceF, spanOf]
  · rw [List.concat_eq_append, mergeS_c]
    cases l with
    | keep k =>
      simp only [sameW, if_true, joinE, trace_app, traceF, span_app, List.append_nil, List.append_assoc]
      rw [List.range'_concat]; simp [spanOf, spanE, Nat.add_assoc]
    | put ls => simp [sameW, trace_app, traceF, span_app, spanOf, spanE]
    | take k => simp [sameW, trace_app, traceF, span_app, spanOf, spanE, Nat.add_assoc]
theorem span_keep1 {f : List Ed} : spanOf (mergeS f (.keep 1)) = spanOf f + 1 := by
  rcases List.eq_nil_or_concat f with rfl | ⟨g, l, rfl⟩
  · rfl
  · rw [List.concat_eq_append, mergeS_c]
    cases l <;> simp [sameW, joinE, spanOf, spanE, Nat.add_assoc]
def EdP : Ed → Prop
  | .put ls => ls ≠ [] ∧ ∀ s ∈ ls, LnOk s
  | .keep k => 0 < k
  | .take k => 0 < k
theorem edP_app {a b : List Ed} (ha : ∀ x ∈ a, EdP x) (hb : ∀ x ∈ b, EdP x) : ∀ x ∈ a ++ b, EdP x := by
  intro x hx; rcases List.mem_append.mp hx with h | h
  · exact ha x h
  · exact hb x h
theorem edP_tk {a p : Nat} : ∀ x ∈ tkE a p, EdP x := by
  intro x hx; unfold tkE at hx; split at hx
  · rcases List.mem_singleton.mp hx with rfl; show 0 < p - a; omega
  · cases hx
theorem edP_pt {nw : List Str} (hw : ∀ s ∈ nw, LnOk s) : ∀ x ∈ ptE nw, EdP x := by
  intro x hx; unfold ptE at hx; split at hx
  · cases hx
  · rename_i h; rcases List.mem_singleton.mp hx with rfl; exact ⟨h, hw⟩
theorem edP_keep1 {f : List Ed} (hf : ∀ x ∈ f, EdP x) : ∀ x ∈ mergeS f (.keep 1), EdP x := by
  rcases List.eq_nil_or_concat f with rfl | ⟨g, l, rfl⟩
  · intro x hx; rw [mergeS_n] at hx; rcases List.mem_singleton.mp hx with rfl; exact Nat.one_pos
  · rw [List.concat_eq_append] at hf ⊢
    rw [mergeS_c]
    have hg : ∀ x ∈ g, EdP x := fun x hx => hf x (by simp [hx])
    cases l with
    | keep k =>
      simp only [sameW, if_true, joinE]
      exact edP_app hg (by intro x hx; rcases List.mem_singleton.mp hx with rfl; exact Nat.succ_pos k)
    | put ls => exact edP_app hf (by intro x hx; rcases List.mem_singleton.mp hx with rfl; exact Nat.one_pos)
    | take k => exact edP_app hf (by intro x hx; rcases List.mem_singleton.mp hx with rfl; exact Nat.one_pos)
theorem span_tk {a p : Nat} (h : a ≤ p) : spanOf (tkE a p) = p - a := by
  unfold tkE; split
  · simp [spanOf, spanE]
  · simp [spanOf]; omega
theorem span_pt {nw : List Str} : spanOf (ptE nw) = 0 := by unfold ptE; split <;> simp [spanOf, spanE]
theorem trace_tk {L : List Str} {a p b : Nat} : traceF L (tkE a p) b = [] := by unfold tkE; split <;> simp [traceF]
theorem trace_pt {L : List Str} {nw : List Str} {b : Nat} : traceF L (ptE nw) b = nw.map fun s => (s, none) := by
  unfold ptE; split
  · rename_i h; subst h; rfl
  · simp [traceF]
/-- what holds while a trace is turned to a patch -/
structure Mid (L : List Str) (st : St) (t : List En) : Prop where
  sp : spanOf st.1 = st.2.1
  le : st.2.1 ≤ L.length
  tr : traceF L st.1 0 ++ st.2.2.map (fun s => (s, none)) = t
  ed : ∀ e ∈ st.1, EdP e
  ln : ∀ s ∈ st.2.2, LnOk s
theorem mid_loop {L : List Str} : ∀ {t : List En} {st : St} {t0 : List En}, TrOk L st.2.1 t → Mid L st t0 → Mid L (t.foldl (stepN L.length) st) (t0 ++ t)
  | [], st, t0, _, h => by simpa using h
  | (s, none) :: r, st, t0, ht, h => by
    have hm : Mid L (stepN L.length st (s, none)) (t0 ++ [(s, none)]) := by
      refine ⟨h.sp, h.le, ?_, h.ed, ?_⟩
      · simp only [stepN, List.map_append, List.map_cons, List.map_nil]; rw [← List.append_assoc, h.tr]
      · intro x hx; simp only [stepN] at hx
        rcases List.mem_append.mp hx with hx | hx
        · exact h.ln x hx
        · rcases List.mem_singleton.mp hx with rfl; exact ht.1
    have := mid_loop (t := r) (st := stepN L.length st (s, none)) ht.2 hm
    simpa using this
  | (s, some p) :: r, st, t0, ht, h => by
    obtain ⟨h1, h2, h3, h4⟩ := ht
    have hsp : spanOf (st.1 ++ tkE st.2.1 p ++ ptE st.2.2) = p := by rw [span_app, span_app, span_tk h1, span_pt, h.sp]; omega
    have hm : Mid L (stepN L.length st (s, some p)) (t0 ++ [(s, some p)]) := by
      simp only [stepN, h2, if_true]
      refine ⟨?_, ?_, ?_, ?_, ?_⟩
      · simp only [span_keep1, hsp]
      · simp only; omega
      · simp only [trace_keep1, hsp, Nat.zero_add, List.map_nil, List.append_nil]
        rw [trace_app, trace_app, trace_tk, trace_pt, List.append_nil, h.tr, h3]
      · exact edP_keep1 (edP_app (edP_app h.ed edP_tk) (edP_pt h.ln))
      · intro x hx; cases hx
    have := mid_loop (t := r) (st := stepN L.length st (s, some p)) h4 hm
    simpa using this
theorem len_stepN {m : Nat} {st : St} {e : En} : (stepN m st e).1.length ≤ st.1.length + 3 := by
  unfold stepN; split
  · simp
  · rename_i p _
    have l1 := len_tk (a := st.2.1) (p := p); have l2 := len_pt (nw := st.2.2)
    have l3 := len_merge (f := st.1 ++ tkE st.2.1 p ++ ptE st.2.2) (e := .keep 1)
    simp only [List.length_append] at l3
    by_cases hp : p < m
    · simp only [hp, if_true]; omega
    · simp only [hp, if_false, List.length_append]; omega
theorem len_foldN {m : Nat} : ∀ (t : List En) (st : St), (t.foldl (stepN m) st).1.length ≤ st.1.length + 3 * t.length
  | [], st => by simp
  | e :: r, st => by
    have h1 := len_foldN (m := m) r (stepN m st e)
    have h2 := len_stepN (m := m) (st := st) (e := e)
    simp only [List.foldl_cons, List.length_cons]; omega
theorem norm_facts {L : List Str} {t : List En} (h : TrOk L 0 t) : spanOf (normF L.length t) = L.length ∧ traceF L (normF L.length t) 0 = t ∧ (∀ e ∈ normF L.length t, EdP e) ∧ (normF L.length t).length ≤ 3 * t.length + 3 := by
  have m0 : Mid L ([], 0, []) [] := ⟨rfl, Nat.zero_le _, rfl, by (intro e he; cases he), by (intro e he; cases he)⟩
  have m1 := mid_loop (st := ([], 0, [])) h m0
  rw [List.nil_append] at m1
  have l1 := len_foldN (m := L.length) t ([], 0, [])
  have l2 := len_stepN (m := L.length) (st := t.foldl (stepN L.length) ([], 0, [])) (e := (default, some L.length))
  have e : normF L.length t = (t.foldl (stepN L.length) ([], 0, [])).1 ++ tkE (t.foldl (stepN L.length) ([], 0, [])).2.1 L.length ++ ptE (t.foldl (stepN L.length) ([], 0, [])).2.2 := by
    unfold normF; simp only [stepN, Nat.lt_irrefl, if_false]
  refine ⟨?_, ?_, ?_, ?_⟩
  · have := m1.le
    rw [e, span_app, span_app, span_tk m1.le, span_pt, m1.sp]; omega
  · rw [e, trace_app, trace_app, trace_tk, trace_pt, List.append_nil, m1.tr]
  · rw [e]; exact edP_app (edP_app m1.ed edP_tk) (edP_pt m1.ln)
  · exact Nat.le_trans l2 (by simp only [List.length_nil] at l1; omega)
theorem span_mem {p : List Ed} {e : Ed} (h : e ∈ p) : spanE e ≤ spanOf p := by
  induction p with
  | nil => cases h
  | cons a r ih =>
    rw [span_c]
    rcases List.mem_cons.mp h with rfl | h
    · omega
    · have := ih h; omega
theorem late_mem {p : List Ed} {e : Ed} (h : e ∈ p) : lateE e ≤ lateOf p := by
  induction p with
  | nil => cases h
  | cons a r ih =>
    rw [late_c]
    rcases List.mem_cons.mp h with rfl | h
    · omega
    · have := ih h; omega
theorem fit_of {L : List Str} {p : List Ed} (hL : L.length ≤ 200) (hl : ∀ s ∈ L, LnOk s) (h1 : spanOf p = L.length) (h2 : ∀ e ∈ p, EdP e) (h3 : p.length ≤ 400) (h4 : lateOf p ≤ 200) : Fit L p := by
  refine ⟨⟨hL, hl⟩, ⟨h3, ?_, h4⟩, h1⟩
  intro e he
  have a := h2 e he
  have b := span_mem he
  have c := late_mem he
  cases e with
  | put ls => exact ⟨a.1, by simp only [lateE] at c; omega, a.2⟩
  | keep k => exact ⟨a, by simp only [spanE] at b; omega⟩
  | take k => exact ⟨a, by simp only [spanE] at b; omega⟩
theorem norm_fit {L : List Str} {t : List En} (h : TrOk L 0 t) (hL : L.length ≤ 200) (hl : ∀ s ∈ L, LnOk s) (ht : t.length ≤ 130) : Fit L (normF L.length t) := by
  obtain ⟨h1, h2, h3, h4⟩ := norm_facts h
  refine fit_of hL hl h1 h3 (by omega) ?_
  rw [← len_trace L _ 0, h2]; omega
/-! costs -/
def nones (t : List En) : Nat := (t.filter fun e => e.2.isNone).length
def somes (t : List En) : Nat := (t.filter fun e => e.2.isSome).length
theorem nones_app {a b : List En} : nones (a ++ b) = nones a + nones b := by simp [nones]
theorem somes_app {a b : List En} : somes (a ++ b) = somes a + somes b := by simp [somes]
theorem cost_eq {L : List Str} : ∀ {p : List Ed} {a : Nat}, costOf p + somes (traceF L p a) = spanOf p + nones (traceF L p a)
  | [], a => by simp [traceF, costOf, spanOf, somes, nones]
  | .put ls :: r, a => by
    have ih := cost_eq (L := L) (p := r) (a := a)
    have h1 : somes (ls.map fun s => ((s, none) : En)) = 0 := by simp [somes, List.filter_map, Function.comp_def]
    have h2 : nones (ls.map fun s => ((s, none) : En)) = ls.length := by simp [nones, List.filter_map, Function.comp_def]
    rw [traceF, cost_c, span_c, nones_app, somes_app, h1, h2]; simp only [costE, spanE]; omega
  | .keep k :: r, a => by
    have ih := cost_eq (L := L) (p := r) (a := a + k)
    have h1 : somes ((List.range' a k).map fun i => ((L.getD i default, some i) : En)) = k := by
      have e : ∀ l : List Nat, l.filter (fun _ => true) = l := fun l => by induction l <;> simp_all
      simp [somes, List.filter_map, Function.comp_def, e]
    have h2 : nones ((List.range' a k).map fun i => ((L.getD i default, some i) : En)) = 0 := by simp [nones, List.filter_map, Function.comp_def]
    rw [traceF, cost_c, span_c, nones_app, somes_app, h1, h2]; simp only [costE, spanE]; omega
  | .take k :: r, a => by
    have ih := cost_eq (L := L) (p := r) (a := a + k)
    rw [traceF, cost_c, span_c]; simp only [costE, spanE]; omega
theorem some_none (t : List En) : somes t + nones t = t.length := by
  induction t with
  | nil => rfl
  | cons e r ih =>
    obtain ⟨x, o⟩ := e
    cases o <;> simp [somes, nones, List.filter_cons] at ih ⊢ <;> omega
/-! ### turned about -/
def prsT (t : List En) (n : Nat) : List (Nat × Nat) := (t.zipIdx n).filterMap fun p => p.1.2.map fun pl => (pl, p.2)
def putM (m : List (Nat × Nat)) (k v : Nat) : List (Nat × Nat) := if (m.any fun p => p.1 == k) = true then m.map (fun p => if (p.1 == k) = true then (p.1, v) else p) else m ++ [(k, v)]
def getM : List (Nat × Nat) → Nat → Option Nat
  | [], _ => none
  | (k', v) :: r, k => if (k' == k) = true then some v else getM r k
def dicM (t : List En) : List (Nat × Nat) := (prsT t 0).foldl (fun m p => putM m p.1 p.2) []
theorem getM_mem : ∀ {m : List (Nat × Nat)} {k v : Nat}, getM m k = some v → (k, v) ∈ m
  | (k', v') :: r, k, v, h => by
    rw [getM] at h
    by_cases e : (k' == k) = true
    · rw [if_pos e] at h; have := eq_of_beq e; cases h; subst this; exact List.mem_cons_self
    · rw [if_neg e] at h; exact List.mem_cons_of_mem _ (getM_mem h)
theorem putM_mem {m : List (Nat × Nat)} {k v a b : Nat} (h : (a, b) ∈ putM m k v) : (a, b) ∈ m ∨ (a = k ∧ b = v) := by
  unfold putM at h; split at h
  · obtain ⟨p, hp, he⟩ := List.mem_map.mp h
    split at he
    · rename_i e; cases he; exact .inr ⟨eq_of_beq e, rfl⟩
    · subst he; exact .inl hp
  · rcases List.mem_append.mp h with h | h
    · exact .inl h
    · rcases List.mem_singleton.mp h with h; cases h; exact .inr ⟨rfl, rfl⟩
theorem fold_mem : ∀ {ps m : List (Nat × Nat)} {a b : Nat}, (a, b) ∈ ps.foldl (fun m p => putM m p.1 p.2) m → (a, b) ∈ m ∨ (a, b) ∈ ps
  | [], m, a, b, h => .inl h
  | p :: r, m, a, b, h => by
    rcases fold_mem (ps := r) h with h | h
    · rcases putM_mem h with h | ⟨h1, h2⟩
      · exact .inl h
      · exact .inr (by subst h1; subst h2; exact List.mem_cons_self)
    · exact .inr (List.mem_cons_of_mem _ h)
theorem dic_mem {t : List En} {a b : Nat} (h : getM (dicM t) a = some b) : ∃ x, t[b]? = some (x, some a) := by
  rcases fold_mem (getM_mem h) with h | h
  · cases h
  · unfold prsT at h
    obtain ⟨p, hp, he⟩ := List.mem_filterMap.mp h
    obtain ⟨⟨x, o⟩, i⟩ := p
    cases o with
    | none => cases he
    | some q =>
      simp only [Option.map_some, Option.some.injEq, Prod.mk.injEq] at he
      obtain ⟨rfl, rfl⟩ := he
      exact ⟨x, by simpa using List.mem_zipIdx_iff_getElem?.mp hp⟩
def aboutT (L : List Str) (t : List En) : List En := L.zipIdx.map fun p => (p.1, getM (dicM t) p.2)
/-- places rise along a trace -/
theorem tr_get {L : List Str} : ∀ {t : List En} {a i p : Nat} {x : Str}, TrOk L a t → t[i]? = some (x, some p) → a ≤ p ∧ p < L.length ∧ x = L.getD p default
  | (s, none) :: r, a, 0, p, x, _, h => by simp at h
  | (s, none) :: r, a, i + 1, p, x, ht, h => tr_get (t := r) ht.2 (by simpa using h)
  | (s, some q) :: r, a, 0, p, x, ht, h => by
    simp at h; obtain ⟨rfl, rfl⟩ := h; exact ⟨ht.1, ht.2.1, ht.2.2.1⟩
  | (s, some q) :: r, a, i + 1, p, x, ht, h => by
    have := tr_get (t := r) ht.2.2.2 (by simpa using h)
    exact ⟨by have := ht.1; omega, this.2⟩
theorem tr_rise {L : List Str} : ∀ {t : List En} {a i j p q : Nat} {x y : Str}, TrOk L a t → t[i]? = some (x, some p) → t[j]? = some (y, some q) → i < j → p < q
  | (s, none) :: r, a, 0, j, p, q, x, y, _, h, _, _ => by simp at h
  | (s, none) :: r, a, i + 1, 0, p, q, x, y, _, _, _, h => by omega
  | (s, none) :: r, a, i + 1, j + 1, p, q, x, y, ht, h1, h2, h => tr_rise (t := r) ht.2 (by simpa using h1) (by simpa using h2) (by omega)
  | (s, some z) :: r, a, i, 0, p, q, x, y, _, _, _, h => by omega
  | (s, some z) :: r, a, 0, j + 1, p, q, x, y, ht, h1, h2, _ => by
    simp at h1; obtain ⟨rfl, rfl⟩ := h1
    have := (tr_get (t := r) ht.2.2.2 (by simpa using h2)).1; omega
  | (s, some z) :: r, a, i + 1, j + 1, p, q, x, y, ht, h1, h2, h => tr_rise (t := r) ht.2.2.2 (by simpa using h1) (by simpa using h2) (by omega)
theorem lines_get {t : List En} {i : Nat} {x : Str} {o : Option Nat} (h : t[i]? = some (x, o)) : i < (linesT t).length ∧ (linesT t).getD i default = x := by
  have hi : i < t.length := by
    rcases Nat.lt_or_ge i t.length with h' | h'
    · exact h'
    · rw [List.getElem?_eq_none h'] at h; cases h
  refine ⟨by simpa [linesT] using hi, ?_⟩
  simp [linesT, h]
theorem tr_about {L : List Str} {t : List En} (ht : TrOk L 0 t) (hL : ∀ s ∈ L, LnOk s) : ∀ (l : List Str) (a b : Nat), (∀ i, l[i]? = L[a + i]?) → (∀ j p x, t[j]? = some (x, some p) → a ≤ p → b ≤ j) →
    TrOk (linesT t) b ((l.zipIdx a).map fun p => (p.1, getM (dicM t) p.2))
  | [], _, _, _, _ => trivial
  | s :: r, a, b, hl, hb => by
    have h0 := hl 0
    have hr : ∀ i, r[i]? = L[a + 1 + i]? := fun i => by have := hl (i + 1); simpa [Nat.add_assoc, Nat.add_comm 1 i] using this
    simp only [List.getElem?_cons_zero, Nat.add_zero] at h0
    have hs : s = L.getD a default := by simp [← h0]
    have hal : a < L.length := by
      rcases Nat.lt_or_ge a L.length with h' | h'
      · exact h'
      · rw [List.getElem?_eq_none h'] at h0; cases h0
    rw [List.zipIdx_cons, List.map_cons]
    cases hg : getM (dicM t) a with
    | none =>
      refine ⟨by rw [hs]; exact getD_ok hL hal, tr_about ht hL r (a + 1) b hr fun j p x h1 h2 => hb j p x h1 (by omega)⟩
    | some to =>
      obtain ⟨x, hx⟩ := dic_mem hg
      have g1 := tr_get ht hx
      have g2 := lines_get hx
      refine ⟨hb to a x hx (Nat.le_refl _), g2.1, ?_, ?_⟩
      · rw [g2.2, hs, g1.2.2]
      · refine tr_about ht hL r (a + 1) (to + 1) hr fun j p y h1 h2 => ?_
        rcases Nat.lt_trichotomy j to with h | h | h
        · have := tr_rise ht h1 hx h; omega
        · subst h; rw [hx] at h1; simp at h1; omega
        · exact h
theorem about_ok {L : List Str} {t : List En} (ht : TrOk L 0 t) (hL : ∀ s ∈ L, LnOk s) : TrOk (linesT t) 0 (aboutT L t) :=
  tr_about ht hL L 0 0 (fun i => by rw [Nat.zero_add]) fun _ _ _ _ _ => Nat.zero_le _
theorem about_lines {L : List Str} {t : List En} : linesT (aboutT L t) = L := by
  have h : ∀ (l : List Str) (a : Nat), ((l.zipIdx a).map fun p => ((p.1, getM (dicM t) p.2) : En)).map (·.1) = l := by
    intro l
    induction l with
    | nil => intro a; rfl
    | cons s r ih => intro a; rw [List.zipIdx_cons, List.map_cons, List.map_cons, ih]
  exact h L 0
/-! ### joined -/
def bothT (t t2 : List En) : List En := t2.map fun e => (e.1, e.2.bind fun to => (t.getD to default).2)
theorem both_lines {t t2 : List En} : linesT (bothT t t2) = linesT t2 := by simp [linesT, bothT, Function.comp_def]
theorem both_ok {L : List Str} {t : List En} (ht : TrOk L 0 t) (hL : ∀ s ∈ L, LnOk s) (hE : EnOk t) : ∀ {t2 : List En} {a b : Nat}, TrOk (linesT t) a t2 → (∀ j p x, t[j]? = some (x, some p) → a ≤ j → b ≤ p) → TrOk L b (bothT t t2)
  | [], _, _, _, _ => trivial
  | (s, none) :: r, a, b, h, hb => ⟨h.1, both_ok ht hL hE h.2 hb⟩
  | (s, some to) :: r, a, b, h, hb => by
    obtain ⟨h1, h2, h3, h4⟩ := h
    have hlt : to < t.length := by simpa [linesT] using h2
    obtain ⟨y, o, hy⟩ : ∃ y o, t[to]? = some (y, o) := ⟨_, _, List.getElem?_eq_getElem hlt⟩
    have g := lines_get hy
    have hs : s = y := by rw [h3, g.2]
    have hd : t.getD to default = (y, o) := by simp [hy]
    show TrOk L b ((s, (t.getD to default).2) :: bothT t r)
    rw [hd]
    cases o with
    | none =>
      refine ⟨?_, both_ok ht hL hE h4 fun j p x k1 k2 => hb j p x k1 (by omega)⟩
      rw [hs]; exact hE (y, none) (List.mem_of_getElem? hy)
    | some p =>
      have g1 := tr_get ht hy
      refine ⟨hb to p y hy h1, g1.2.1, by rw [hs, g1.2.2], both_ok ht hL hE h4 fun j q x k1 k2 => ?_⟩
      have := tr_rise ht hy k1 (by omega); omega
/-- the entries of t2 that come from new lines of t are at most the new lines of t -/
theorem nones_drop {t : List En} {k : Nat} : nones (t.drop k) = (if ((t[k]?).map fun e => e.2.isNone) = some true then 1 else 0) + nones (t.drop (k + 1)) := by
  rcases Nat.lt_or_ge k t.length with h | h
  · rw [List.drop_eq_getElem_cons h, List.getElem?_eq_getElem h]
    generalize t[k] = e
    obtain ⟨x, o⟩ := e
    cases o <;> simp [nones, List.filter_cons] <;> omega
  · rw [List.drop_eq_nil_of_le h, List.drop_eq_nil_of_le (by omega), List.getElem?_eq_none h]; simp
theorem nones_drop_le {t : List En} : ∀ {a b : Nat}, a ≤ b → nones (t.drop b) ≤ nones (t.drop a) := by
  intro a b h
  induction h with
  | refl => exact Nat.le_refl _
  | step h ih => rename_i m; have := nones_drop (t := t) (k := m); show nones (t.drop (m + 1)) ≤ _; omega
theorem both_count {t : List En} : ∀ {t2 : List En} {a : Nat}, TrOk (linesT t) a t2 → nones (bothT t t2) + somes t2 ≤ nones t2 + somes t2 + nones (t.drop a) ∧ nones (bothT t t2) + somes (bothT t t2) = t2.length
  | [], a, _ => by simp [bothT, nones, somes]
  | (s, none) :: r, a, h => by
    obtain ⟨i1, i2⟩ := both_count (t2 := r) h.2
    simp only [bothT, nones, somes, List.map_cons, List.filter_cons, Option.bind_none, Option.isNone_none, Option.isSome_none, if_true, List.length_cons, Bool.false_eq_true, if_false] at i1 i2 ⊢
    exact ⟨by omega, by omega⟩
  | (s, some to) :: r, a, h => by
    obtain ⟨h1, h2, h3, h4⟩ := h
    obtain ⟨i1, i2⟩ := both_count (t2 := r) h4
    have hlt : to < t.length := by simpa [linesT] using h2
    have d1 := nones_drop (t := t) (k := to)
    have d2 := nones_drop_le (t := t) h1
    obtain ⟨y, o, hy⟩ : ∃ y o, t[to]? = some (y, o) := ⟨_, _, List.getElem?_eq_getElem hlt⟩
    have hd : t.getD to default = (y, o) := by simp [hy]
    rw [hy] at d1
    cases o with
    | none =>
      simp only [Option.map_some, Option.isNone_none, if_true] at d1
      simp only [bothT, nones, somes, List.map_cons, List.filter_cons, Option.bind_some, hd, Option.isNone_none, Option.isSome_none, Option.isNone_some, Option.isSome_some, if_true, List.length_cons, Bool.false_eq_true, if_false] at i1 i2 d1 d2 ⊢
      exact ⟨by omega, by omega⟩
    | some p =>
      simp only [bothT, nones, somes, List.map_cons, List.filter_cons, Option.bind_some, hd, Option.isNone_none, Option.isSome_none, Option.isNone_some, Option.isSome_some, if_true, List.length_cons, Bool.false_eq_true, if_false, Option.map_some, Option.some.injEq, Nat.zero_add] at i1 i2 d1 d2 ⊢
      exact ⟨by omega, by omega⟩
end K82

/-! V7: normalized, turned_about, joined_patch. -/
namespace K82
open PySem PySem.Spec PyProof.Rows L2 PL
variable {W n : Nat}
/-- what the three need of lines and patch -/
structure Good (L : List Str) (p : List Ed) : Prop where
  fit : Fit L p
  small : (traceF L p 0).length ≤ 130
theorem Good.tr {L : List Str} {p : List Ed} (h : Good L p) : TrOk L 0 (traceF L p 0) := tr_trace h.fit.2.1.2.1 (by rw [h.fit.2.2]; omega)
theorem Good.eno {L : List Str} {p : List Ed} (h : Good L p) : EnOk (traceF L p 0) := tr_enok h.fit.1.2 h.tr
theorem e_trace' {L : List Str} {p : List Ed} (h : Fit L p) : callF T W (n+1) 10 [.val (.list (sD L)), .val (paD p)] = some (.own (.list (trD (traceF L p 0))), []) :=
  e_trace_of L (Nat.le_trans h.1.1 (by decide)) p (Nat.le_trans h.2.1.1 (by decide)) (Nat.le_of_eq h.2.2) (Nat.le_trans h.2.1.2.2 (by decide))
theorem e_ltrace' {L : List Str} {p : List Ed} (h : Fit L p) : callF T W (n+1) 25 [.val (.list (sD L)), .val (paD p)] = some (.own (.list (trD (traceF L p 0))), []) :=
  e_law_trace L (Nat.le_trans h.1.1 (by decide)) p (Nat.le_trans h.2.1.1 (by decide)) (Nat.le_of_eq h.2.2) (Nat.le_trans h.2.1.2.2 (by decide))
theorem e_normalized (L : List Str) (p : List Ed) (h : Good L p) : callF T W (n+6) 18 [.val (lnD false L), .val (paD p)] = some (.val (paD (normF L.length (traceF L p 0))), []) := by
  rw [run_18, run_eq rfl rfl]
  have e1 := e_want_patch (W := W) (n := n) false L h.fit.1.1 h.fit.1.2 p h.fit.2.1 h.fit.2.2
  simp -implicitDefEqProofs only [d_normalized, seqO_nx, seqO_ret, seqO_ct, seqO_brk, getS_z, getS_s, set_z, set_s, evB_nil, evB_cons, evS_for, evE_lc, lcTurn_k, evE_c, evE_g, evE_v, takeS_k, tkK_val, tkK_own, peekS_k, pkK_val, pkK_own, pkK_io, res_val, res_slot, sdK_val, sdK_own, sdK_io, evE_bin, evE_neg, evE_cmp, evE_isN, evE_notN, evE_and, evE_or, evE_nt, evE_ite, evE_tup, evE_lst, evE_dct, evE_ix, evE_sl, evE_call, evE_callK, evE_blt, evE_isi, evE_get2, evT_tr, evT_cmp, evT_isN, evT_notN, evT_and, evT_or, evT_nt, evTo_n, evTo_s, evP_slot, evP_ex, evPs_n, evPs_c, evL_n, evL_c, evA_n, evA_e, ioK_own, ioK_io, evA_io, evO_n, evO_e, evI_seq, evI_rng1, evI_rng2, evI_enum, evI_zip, evS_asg, evS_par, evS_setIx, evS_ex, evS_mut, evS_iF, evS_ret, evS_retS, rsK_val, rsK_own, evS_retN, evS_pass, evS_ct, evS_brk, resL_n, resL_c, kAnd_b, kOr_b, kNt_b, kO_i, kR1_i, kR22_i, evR_n, evR_c, noIo_un, noIo_val, noIo_own, of_val, of_own, chgS_k, chK_own, chK_io, heldS_k, lstS_k, lsK_own, lsK_io, putV_nm, putV_tup, putP_nm, putP_ixs, putP_tup, putPs_n, putPs_c, putN_n, putN_c, retV_s, retI_s, callD_0, callD_1, callD_2, callD_3, callD_4, ciK_own, ciK_io, callD_i1, callD_i2, forL_n, avS_v, avS_i, startS_c, startS_z, startS_u, isi_s, isi_t, isi_ll, isi_lt, isi_i, isi_ib, truD_b, len_l, len_t, max_ii, min_ii, int_i, list_l, list_t, tuple_l, tuple_t, eqD_ss, eqD_ii, c_eq, c_ne, c_lt, c_le, c_gt, c_ge, b_add, b_sub, isN_n, isN_i, ixT0, ixT1, kB1, kC1, kN, kIte, kIx, kSl, kCall, kCK2, kCK, kBlt, kG2, kG1, kG, kTr, kTC1, kTAnd, kTOr, kPs, kLs, kAs, kR2, kZ2, kZ, kFor, kLT2, kLT1, kLc, kIf, kAsg, kPar, kSx2, kSx, kMut, kRs, putS_k, RV.d, Option.bind_some, Option.bind_none, Option.map_some, Option.map_none, hideS, wipeS, backS, List.map_cons, List.map_nil, List.length_cons, List.length_nil, if_true, if_false, Bool.false_eq_true, eq_self, outsOf, decide_true, decide_false, Bool.not_true, Bool.not_false, Nat.reduceAdd, Nat.reduceLT, Nat.zero_add, e1, len_ln, list_ln, e_trace' h.fit, e_patch_of_trace L.length (traceF L p 0) h.eno (tr_bel h.tr) (Nat.le_trans h.small (by decide))]
/-! ### turned about -/
theorem eqv_ii {i j : Nat} : PyData.eqv (.int (i : Nat)) (.int (j : Nat)) = (i == j) := by
  show ((i : Int) == (j : Int)) = (i == j)
  exact Bool.eq_iff_iff.mpr (by simp only [beq_iff_eq]; omega)
def kvD (m : List (Nat × Nat)) : List (D × D) := m.map fun q => (.int (q.1 : Nat), .int (q.2 : Nat))
theorem putK_kv {m : List (Nat × Nat)} {k v : Nat} : PL.putK (kvD m) (.int (k : Nat)) (.int (v : Nat)) = kvD (putM m k v) := by
  unfold PL.putK putM kvD
  rw [List.any_map]
  have e : ((fun p : D × D => PyData.eqv p.1 (.int (k : Nat))) ∘ fun q : Nat × Nat => ((.int (q.1 : Nat), .int (q.2 : Nat)) : D × D)) = fun p => p.1 == k := by
    funext q; simp only [Function.comp]; exact eqv_ii
  rw [e]
  split
  · rw [List.map_map, List.map_map]
    apply List.map_congr_left
    intro q _
    simp only [Function.comp, eqv_ii]
    by_cases h : (q.1 == k) = true
    · rw [if_pos h, if_pos h]
    · rw [if_neg h, if_neg h]
  · simp
theorem getK_kv : ∀ {m : List (Nat × Nat)} {k : Nat}, PL.getK (kvD m) (.int (k : Nat)) = (getM m k).map fun v => .int (v : Nat)
  | [], _ => rfl
  | (a, b) :: r, k => by
    have ih := getK_kv (m := r) (k := k)
    show (if PyData.eqv (.int (a : Nat)) (.int (k : Nat)) = true then some (.int (b : Nat)) else PL.getK (kvD r) (.int (k : Nat))) = _
    rw [eqv_ii, getM, ih]; split <;> rfl
theorem fold_kv : ∀ {ps m : List (Nat × Nat)}, (ps.map fun q => (((.int (q.1 : Nat)) : D), ((.int (q.2 : Nat)) : D))).foldl (fun m p => PL.putK m p.1 p.2) (kvD m) = kvD (ps.foldl (fun m p => putM m p.1 p.2) m)
  | [], _ => rfl
  | p :: r, m => by rw [List.map_cons, List.foldl_cons, putK_kv]; exact fold_kv
theorem pairs_ps : ∀ {ps : List (Nat × Nat)}, PL.pairsOf (ps.map fun q => .tuple [.int (q.1 : Nat), .int (q.2 : Nat)]) = some (ps.map fun q => (.int (q.1 : Nat), .int (q.2 : Nat)))
  | [] => rfl
  | p :: r => by simp only [List.map_cons, PL.pairsOf, keyOf, Option.isSome_some, if_true, pairs_ps (ps := r), Option.map]
theorem dict_ps (ps : List (Nat × Nat)) : bltD .dict [.list (ps.map fun q => .tuple [.int (q.1 : Nat), .int (q.2 : Nat)])] = some (.own (.dict (kvD (ps.foldl (fun m p => putM m p.1 p.2) [])))) := by
  simp only [bltD, pairs_ps, Option.map]
  have := fold_kv (ps := ps) (m := [])
  simp only [kvD, List.map_nil] at this ⊢
  rw [this]
theorem opD_get {m : List (Nat × Nat)} {k : Nat} : (PL.getK (kvD m) (.int (k : Nat))).getD .none = opD (getM m k) := by
  rw [getK_kv]; cases getM m k <;> rfl
theorem prs_map {t : List En} : (t.zipIdx.filterMap fun p => p.1.2.map fun pl => PyData.tuple [.int (pl : Nat), .int (p.2 : Nat)]) = (prsT t 0).map fun q => .tuple [.int (q.1 : Nat), .int (q.2 : Nat)] := by
  unfold prsT; rw [List.map_filterMap]; congr 1; funext p; cases p.1.2 <;> rfl
theorem g2_kv {kvs : List (D × D)} {a : PV} {k : D} {ρ ρ' : PL.Env} (h : PV.res ρ a = some (.dict kvs)) (hk : (keyOf k).isSome = true) : kG2 a (.val k, ρ') (.val .none, ρ) = some (.val ((PL.getK kvs k).getD .none), ρ) := by
  unfold kG2; simp only [h, Option.bind_some, hk, if_true, RV.d]
theorem keyI {i : Int} : (keyOf (.int i)).isSome = true := rfl
theorem e_turned (L : List Str) (p : List Ed) (h : Good L p) : callF T W (n+6) 19 [.val (lnD false L), .val (paD p)] = some (.val (paD (normF (linesT (traceF L p 0)).length (aboutT L (traceF L p 0)))), []) := by
  rw [run_19, run_eq rfl rfl]
  have e1 := e_want_patch (W := W) (n := n) false L h.fit.1.1 h.fit.1.2 p h.fit.2.1 h.fit.2.2
  have hs := h.small
  have hL := h.fit.1.1
  have et := e_trace' (W := W) (n := n+4) h.fit
  generalize ht : traceF L p 0 = t at et hs
  have hlc : ∀ (s0 s1 s2 s3 s4 s5 : SD), compE (callF T W (n+5)) (.tup [(.v 8), (.v 7)]) (.tup [(.nm 7), (.tup [(.nm 6), (.nm 8)])]) (some (.notN (.slot 8))) [7, 6, 8] (enumD 0 (trD t)) [s0, s1, s2, s3, s4, s5, .un, .un, .un]
      = some (.own (.list ((prsT t 0).map fun q => .tuple [.int (q.1 : Nat), .int (q.2 : Nat)])), [s0, s1, s2, s3, s4, s5, .un, .un, .un]) := by
    intro s0 s1 s2 s3 s4 s5
    rw [trD, enumD_eq, ← prs_map]
    apply lc_fm
    intro x hx
    obtain ⟨⟨s, o⟩, i⟩ := x
    cases o <;> simp -implicitDefEqProofs only [enD, opD, seqO_nx, seqO_ret, seqO_ct, seqO_brk, getS_z, getS_s, set_z, set_s, evB_nil, evB_cons, evS_for, evE_lc, lcTurn_k, evE_c, evE_g, evE_v, takeS_k, tkK_val, tkK_own, peekS_k, pkK_val, pkK_own, pkK_io, res_val, res_slot, sdK_val, sdK_own, sdK_io, evE_bin, evE_neg, evE_cmp, evE_isN, evE_notN, evE_and, evE_or, evE_nt, evE_ite, evE_tup, evE_lst, evE_dct, evE_ix, evE_sl, evE_call, evE_callK, evE_blt, evE_isi, evE_get2, evT_tr, evT_cmp, evT_isN, evT_notN, evT_and, evT_or, evT_nt, evTo_n, evTo_s, evP_slot, evP_ex, evPs_n, evPs_c, evL_n, evL_c, evA_n, evA_e, ioK_own, ioK_io, evA_io, evO_n, evO_e, evI_seq, evI_rng1, evI_rng2, evI_enum, evI_zip, evS_asg, evS_par, evS_setIx, evS_ex, evS_mut, evS_iF, evS_ret, evS_retS, rsK_val, rsK_own, evS_retN, evS_pass, evS_ct, evS_brk, resL_n, resL_c, kAnd_b, kOr_b, kNt_b, kO_i, kR1_i, kR22_i, evR_n, evR_c, noIo_un, noIo_val, noIo_own, of_val, of_own, chgS_k, chK_own, chK_io, heldS_k, lstS_k, lsK_own, lsK_io, putV_nm, putV_tup, putP_nm, putP_ixs, putP_tup, putPs_n, putPs_c, putN_n, putN_c, retV_s, retI_s, callD_0, callD_1, callD_2, callD_3, callD_4, ciK_own, ciK_io, callD_i1, callD_i2, forL_n, avS_v, avS_i, startS_c, startS_z, startS_u, isi_s, isi_t, isi_ll, isi_lt, isi_i, isi_ib, truD_b, len_l, len_t, max_ii, min_ii, int_i, list_l, list_t, tuple_l, tuple_t, eqD_ss, eqD_ii, c_eq, c_ne, c_lt, c_le, c_gt, c_ge, b_add, b_sub, isN_n, isN_i, ixT0, ixT1, kB1, kC1, kN, kIte, kIx, kSl, kCall, kCK2, kCK, kBlt, kG2, kG1, kG, kTr, kTC1, kTAnd, kTOr, kPs, kLs, kAs, kR2, kZ2, kZ, kFor, kLT2, kLT1, kLc, kIf, kAsg, kPar, kSx2, kSx, kMut, kRs, putS_k, RV.d, Option.bind_some, Option.bind_none, Option.map_some, Option.map_none, hideS, wipeS, backS, List.map_cons, List.map_nil, List.length_cons, List.length_nil, if_true, if_false, Bool.false_eq_true, eq_self, outsOf, decide_true, decide_false, Bool.not_true, Bool.not_false, Nat.reduceAdd, Nat.reduceLT, Nat.zero_add, kTup2]
  have hlp : ∀ (l : List Str) (k : Nat) (acc : List D) (s5 s6 : SD) (s0 s1 s3 s7 s8 : SD), noIo s5 = true → noIo s6 = true → acc.length + l.length ≤ 1000000 → ∃ t5 t6, forL (.tup [(.nm 5), (.nm 6)]) (evB (callF T W (n+5)) W b_turned_about_0) (enumD k (sD l)) [s0, s1, .own (.dict (kvD (dicM t))), s3, .own (.list acc), s5, s6, s7, s8]
      = some (.nx [s0, s1, .own (.dict (kvD (dicM t))), s3, .own (.list (acc ++ trD ((l.zipIdx k).map fun p => (p.1, getM (dicM t) p.2)))), t5, t6, s7, s8]) := by
    intro l
    induction l with
    | nil => intro k acc s5 s6 s0 s1 s3 s7 s8 h5 h6 hl; exact ⟨s5, s6, by simp only [sD, List.map_nil, enumD, forL_n, List.zipIdx_nil, trD, List.append_nil]⟩
    | cons x r ih =>
      intro k acc s5 s6 s0 s1 s3 s7 s8 h5 h6 hl
      rw [List.length_cons] at hl
      have hm : acc.length < sizeLine := sz2 (by omega)
      have hst : (putP (.tup [(.nm 5), (.nm 6)]) (.tuple [.int (k : Nat), .str x]) [s0, s1, .own (.dict (kvD (dicM t))), s3, .own (.list acc), s5, s6, s7, s8]).bind (evB (callF T W (n+5)) W b_turned_about_0)
          = some (.nx [s0, s1, .own (.dict (kvD (dicM t))), s3, .own (.list (acc ++ [enD (x, getM (dicM t) k)])), .val (.int (k : Nat)), .val (.str x), s7, s8]) := by
        simp -implicitDefEqProofs only [b_turned_about_0, enD, seqO_nx, seqO_ret, seqO_ct, seqO_brk, getS_z, getS_s, set_z, set_s, evB_nil, evB_cons, evS_for, evE_lc, lcTurn_k, evE_c, evE_g, evE_v, takeS_k, tkK_val, tkK_own, peekS_k, pkK_val, pkK_own, pkK_io, res_val, res_slot, sdK_val, sdK_own, sdK_io, evE_bin, evE_neg, evE_cmp, evE_isN, evE_notN, evE_and, evE_or, evE_nt, evE_ite, evE_tup, evE_lst, evE_dct, evE_ix, evE_sl, evE_call, evE_callK, evE_blt, evE_isi, evE_get2, evT_tr, evT_cmp, evT_isN, evT_notN, evT_and, evT_or, evT_nt, evTo_n, evTo_s, evP_slot, evP_ex, evPs_n, evPs_c, evL_n, evL_c, evA_n, evA_e, ioK_own, ioK_io, evA_io, evO_n, evO_e, evI_seq, evI_rng1, evI_rng2, evI_enum, evI_zip, evS_asg, evS_par, evS_setIx, evS_ex, evS_mut, evS_iF, evS_ret, evS_retS, rsK_val, rsK_own, evS_retN, evS_pass, evS_ct, evS_brk, resL_n, resL_c, kAnd_b, kOr_b, kNt_b, kO_i, kR1_i, kR22_i, evR_n, evR_c, noIo_un, noIo_val, noIo_own, of_val, of_own, chgS_k, chK_own, chK_io, heldS_k, lstS_k, lsK_own, lsK_io, putV_nm, putV_tup, putP_nm, putP_ixs, putP_tup, putPs_n, putPs_c, putN_n, putN_c, retV_s, retI_s, callD_0, callD_1, callD_2, callD_3, callD_4, ciK_own, ciK_io, callD_i1, callD_i2, forL_n, avS_v, avS_i, startS_c, startS_z, startS_u, isi_s, isi_t, isi_ll, isi_lt, isi_i, isi_ib, truD_b, len_l, len_t, max_ii, min_ii, int_i, list_l, list_t, tuple_l, tuple_t, eqD_ss, eqD_ii, c_eq, c_ne, c_lt, c_le, c_gt, c_ge, b_add, b_sub, isN_n, isN_i, ixT0, ixT1, kB1, kC1, kN, kIte, kIx, kSl, kCall, kCK2, kCK, kBlt, kG2, kG1, kG, kTr, kTC1, kTAnd, kTOr, kPs, kLs, kAs, kR2, kZ2, kZ, kFor, kLT2, kLT1, kLc, kIf, kAsg, kPar, kSx2, kSx, kMut, kRs, putS_k, RV.d, Option.bind_some, Option.bind_none, Option.map_some, Option.map_none, hideS, wipeS, backS, List.map_cons, List.map_nil, List.length_cons, List.length_nil, if_true, if_false, Bool.false_eq_true, eq_self, outsOf, decide_true, decide_false, Bool.not_true, Bool.not_false, Nat.reduceAdd, Nat.reduceLT, Nat.zero_add, h5, h6, isDic, Option.getD_some, keyI, opD_get, kTup2, mut_a hm]
      obtain ⟨t5, t6, hh⟩ := ih (k + 1) (acc ++ [enD (x, getM (dicM t) k)]) _ _ s0 s1 s3 s7 s8 noIo_val noIo_val (by rw [List.length_append]; simp only [List.length_cons, List.length_nil]; omega)
      refine ⟨t5, t6, ?_⟩
      have he : enumD k (sD (x :: r)) = .tuple [.int (k : Nat), .str x] :: enumD (k + 1) (sD r) := rfl
      rw [he, forL_nx hst, hh, List.zipIdx_cons, List.map_cons]
      simp only [trD, List.map_cons, List.append_assoc, List.cons_append, List.nil_append]
  obtain ⟨t5, t6, hf⟩ := hlp L 0 [] .un .un (.val (.list (sD L))) (.val (paD p)) (.val (.list (trD t))) .un .un rfl rfl (by simp only [List.length_nil]; omega)
  have htr : TrOk L 0 t := ht ▸ h.tr
  have ha := about_ok htr h.fit.1.2
  have hln : ∀ s ∈ linesT t, LnOk s := by
    intro s hs'; obtain ⟨e, he, rfl⟩ := List.mem_map.mp hs'; exact (ht ▸ h.eno : EnOk t) e he
  have hlen : (aboutT L t).length ≤ 1000 := by simp only [aboutT, List.length_map, List.length_zipIdx]; omega
  have ep := e_patch_of_trace (W := W) (n := n + 3) (linesT t).length (aboutT L t) (tr_enok hln ha) (tr_bel ha) hlen
  have z1 : (trD t).length ≤ sizeLine := by rw [len_trD]; exact sz1 (by omega)
  have z2 : (sD L).length ≤ sizeLine := by rw [len_sD]; exact sz1 (by omega)
  have z3 : (linesT t).length = t.length := by simp [linesT]
  rw [z3] at ep ⊢
  have hab : aboutT L t = (L.zipIdx 0).map fun p => (p.1, getM (dicM t) p.2) := rfl
  rw [← hab] at hf
  simp only [lnD, Bool.false_eq_true, if_false] at e1 ⊢
  simp only [List.nil_append] at hf
  simp -implicitDefEqProofs only [d_turned_about, seqO_nx, seqO_ret, seqO_ct, seqO_brk, getS_z, getS_s, set_z, set_s, evB_nil, evB_cons, evS_for, evE_lc, lcTurn_k, evE_c, evE_g, evE_v, takeS_k, tkK_val, tkK_own, peekS_k, pkK_val, pkK_own, pkK_io, res_val, res_slot, sdK_val, sdK_own, sdK_io, evE_bin, evE_neg, evE_cmp, evE_isN, evE_notN, evE_and, evE_or, evE_nt, evE_ite, evE_tup, evE_lst, evE_dct, evE_ix, evE_sl, evE_call, evE_callK, evE_blt, evE_isi, evE_get2, evT_tr, evT_cmp, evT_isN, evT_notN, evT_and, evT_or, evT_nt, evTo_n, evTo_s, evP_slot, evP_ex, evPs_n, evPs_c, evL_n, evL_c, evA_n, evA_e, ioK_own, ioK_io, evA_io, evO_n, evO_e, evI_seq, evI_rng1, evI_rng2, evI_enum, evI_zip, evS_asg, evS_par, evS_setIx, evS_ex, evS_mut, evS_iF, evS_ret, evS_retS, rsK_val, rsK_own, evS_retN, evS_pass, evS_ct, evS_brk, resL_n, resL_c, kAnd_b, kOr_b, kNt_b, kO_i, kR1_i, kR22_i, evR_n, evR_c, noIo_un, noIo_val, noIo_own, of_val, of_own, chgS_k, chK_own, chK_io, heldS_k, lstS_k, lsK_own, lsK_io, putV_nm, putV_tup, putP_nm, putP_ixs, putP_tup, putPs_n, putPs_c, putN_n, putN_c, retV_s, retI_s, callD_0, callD_1, callD_2, callD_3, callD_4, ciK_own, ciK_io, callD_i1, callD_i2, forL_n, avS_v, avS_i, startS_c, startS_z, startS_u, isi_s, isi_t, isi_ll, isi_lt, isi_i, isi_ib, truD_b, len_l, len_t, max_ii, min_ii, int_i, list_l, list_t, tuple_l, tuple_t, eqD_ss, eqD_ii, c_eq, c_ne, c_lt, c_le, c_gt, c_ge, b_add, b_sub, isN_n, isN_i, ixT0, ixT1, kB1, kC1, kN, kIte, kIx, kSl, kCall, kCK2, kCK, kBlt, kG2, kG1, kG, kTr, kTC1, kTAnd, kTOr, kPs, kLs, kAs, kR2, kZ2, kZ, kFor, kLT2, kLT1, kLc, kIf, kAsg, kPar, kSx2, kSx, kMut, kRs, putS_k, RV.d, Option.bind_some, Option.bind_none, Option.map_some, Option.map_none, hideS, wipeS, backS, List.map_cons, List.map_nil, List.length_cons, List.length_nil, if_true, if_false, Bool.false_eq_true, eq_self, outsOf, decide_true, decide_false, Bool.not_true, Bool.not_false, Nat.reduceAdd, Nat.reduceLT, Nat.zero_add, e1, et, kLst0, listOf_l z1, listOf_l z2, hlc, dict_ps, ← dicM.eq_1, hf, len_trD, ep]
/-! ### joined -/
theorem e_joined (L : List Str) (p q : List Ed) (h : Good L p) (hq : Fit (linesT (traceF L p 0)) q) (hs2 : (traceF (linesT (traceF L p 0)) q 0).length ≤ 130) :
    callF T W (n+6) 20 [.val (lnD false L), .val (paD p), .val (paD q)] = some (.val (paD (normF L.length (bothT (traceF L p 0) (traceF (linesT (traceF L p 0)) q 0)))), []) := by
  rw [run_20, run_eq rfl rfl]
  have e1 := e_want_patch (W := W) (n := n) false L h.fit.1.1 h.fit.1.2 p h.fit.2.1 h.fit.2.2
  have hs := h.small
  have et := e_trace' (W := W) (n := n+4) h.fit
  have et2 := e_trace' (W := W) (n := n+4) hq
  have htr := h.tr
  have heo := h.eno
  generalize traceF L p 0 = t at *
  have ei := e_is_patch_of (W := W) (n := n + 1) false (trD t) q hq.2.1 (by rw [len_trD, hq.2.2]; simp [linesT])
  have ht2 : TrOk (linesT t) 0 (traceF (linesT t) q 0) := tr_trace hq.2.1.2.1 (by rw [hq.2.2]; omega)
  generalize traceF (linesT t) q 0 = t2 at *
  have hb : TrOk L 0 (bothT t t2) := both_ok htr h.fit.1.2 heo ht2 (fun _ _ _ _ _ => Nat.zero_le _)
  have hbl : (bothT t t2).length ≤ 1000 := by simp only [bothT, List.length_map]; omega
  have ep := e_patch_of_trace (W := W) (n := n + 3) L.length (bothT t t2) (tr_enok h.fit.1.2 hb) (tr_bel hb) hbl
  have c1 : ∀ (s0 s1 s2 s3 s4 s7 : SD), compE (callF T W (n+5)) (.v 5) (.tup [(.nm 5), (.nm 6)]) none [5, 6] (trD t) [s0, s1, s2, s3, s4, .un, .un, s7] = some (.own (.list (sD (linesT t))), [s0, s1, s2, s3, s4, .un, .un, s7]) := by
    intro s0 s1 s2 s3 s4 s7
    have hh := lc_map (Φ := callF T W (n+5)) (elt := .v 5) (tg := .tup [.nm 5, .nm 6]) (ifs := none) (vs := [5, 6]) (ρ1 := [s0, s1, s2, s3, s4, .un, .un, s7]) enD (fun e => .str e.1) t (by
      intro e he
      simp -implicitDefEqProofs only [enD, seqO_nx, seqO_ret, seqO_ct, seqO_brk, getS_z, getS_s, set_z, set_s, evB_nil, evB_cons, evS_for, evE_lc, lcTurn_k, evE_c, evE_g, evE_v, takeS_k, tkK_val, tkK_own, peekS_k, pkK_val, pkK_own, pkK_io, res_val, res_slot, sdK_val, sdK_own, sdK_io, evE_bin, evE_neg, evE_cmp, evE_isN, evE_notN, evE_and, evE_or, evE_nt, evE_ite, evE_tup, evE_lst, evE_dct, evE_ix, evE_sl, evE_call, evE_callK, evE_blt, evE_isi, evE_get2, evT_tr, evT_cmp, evT_isN, evT_notN, evT_and, evT_or, evT_nt, evTo_n, evTo_s, evP_slot, evP_ex, evPs_n, evPs_c, evL_n, evL_c, evA_n, evA_e, ioK_own, ioK_io, evA_io, evO_n, evO_e, evI_seq, evI_rng1, evI_rng2, evI_enum, evI_zip, evS_asg, evS_par, evS_setIx, evS_ex, evS_mut, evS_iF, evS_ret, evS_retS, rsK_val, rsK_own, evS_retN, evS_pass, evS_ct, evS_brk, resL_n, resL_c, kAnd_b, kOr_b, kNt_b, kO_i, kR1_i, kR22_i, evR_n, evR_c, noIo_un, noIo_val, noIo_own, of_val, of_own, chgS_k, chK_own, chK_io, heldS_k, lstS_k, lsK_own, lsK_io, putV_nm, putV_tup, putP_nm, putP_ixs, putP_tup, putPs_n, putPs_c, putN_n, putN_c, retV_s, retI_s, callD_0, callD_1, callD_2, callD_3, callD_4, ciK_own, ciK_io, callD_i1, callD_i2, forL_n, avS_v, avS_i, startS_c, startS_z, startS_u, isi_s, isi_t, isi_ll, isi_lt, isi_i, isi_ib, truD_b, len_l, len_t, max_ii, min_ii, int_i, list_l, list_t, tuple_l, tuple_t, eqD_ss, eqD_ii, c_eq, c_ne, c_lt, c_le, c_gt, c_ge, b_add, b_sub, isN_n, isN_i, ixT0, ixT1, kB1, kC1, kN, kIte, kIx, kSl, kCall, kCK2, kCK, kBlt, kG2, kG1, kG, kTr, kTC1, kTAnd, kTOr, kPs, kLs, kAs, kR2, kZ2, kZ, kFor, kLT2, kLT1, kLc, kIf, kAsg, kPar, kSx2, kSx, kMut, kRs, putS_k, RV.d, Option.bind_some, Option.bind_none, Option.map_some, Option.map_none, hideS, wipeS, backS, List.map_cons, List.map_nil, List.length_cons, List.length_nil, if_true, if_false, Bool.false_eq_true, eq_self, outsOf, decide_true, decide_false, Bool.not_true, Bool.not_false, Nat.reduceAdd, Nat.reduceLT, Nat.zero_add])
    simp only [sD, linesT, List.map_map]; exact hh
  have c2 : ∀ (s0 s1 s2 s4 s6 : SD), compE (callF T W (n+5)) (.tup [(.v 5), (.ite (.isN (.slot 7)) (.c .none) (.ix (.ex (.ix (.slot 3) (.v 7))) (.c (.int 1))))]) (.tup [(.nm 5), (.nm 7)]) none [5, 7] (trD t2) [s0, s1, s2, .val (.list (trD t)), s4, .un, s6, .un]
      = some (.own (.list (trD (bothT t t2))), [s0, s1, s2, .val (.list (trD t)), s4, .un, s6, .un]) := by
    intro s0 s1 s2 s4 s6
    have hh := lc_map (Φ := callF T W (n+5)) (elt := .tup [(.v 5), (.ite (.isN (.slot 7)) (.c .none) (.ix (.ex (.ix (.slot 3) (.v 7))) (.c (.int 1))))]) (tg := .tup [.nm 5, .nm 7]) (ifs := none) (vs := [5, 7]) (ρ1 := [s0, s1, s2, .val (.list (trD t)), s4, .un, s6, .un]) enD
      (fun e => enD (e.1, e.2.bind fun to => (t.getD to default).2)) t2 (by
      intro e he
      obtain ⟨s, o⟩ := e
      cases o with
      | none => simp -implicitDefEqProofs only [enD, opD, Option.bind_none, seqO_nx, seqO_ret, seqO_ct, seqO_brk, getS_z, getS_s, set_z, set_s, evB_nil, evB_cons, evS_for, evE_lc, lcTurn_k, evE_c, evE_g, evE_v, takeS_k, tkK_val, tkK_own, peekS_k, pkK_val, pkK_own, pkK_io, res_val, res_slot, sdK_val, sdK_own, sdK_io, evE_bin, evE_neg, evE_cmp, evE_isN, evE_notN, evE_and, evE_or, evE_nt, evE_ite, evE_tup, evE_lst, evE_dct, evE_ix, evE_sl, evE_call, evE_callK, evE_blt, evE_isi, evE_get2, evT_tr, evT_cmp, evT_isN, evT_notN, evT_and, evT_or, evT_nt, evTo_n, evTo_s, evP_slot, evP_ex, evPs_n, evPs_c, evL_n, evL_c, evA_n, evA_e, ioK_own, ioK_io, evA_io, evO_n, evO_e, evI_seq, evI_rng1, evI_rng2, evI_enum, evI_zip, evS_asg, evS_par, evS_setIx, evS_ex, evS_mut, evS_iF, evS_ret, evS_retS, rsK_val, rsK_own, evS_retN, evS_pass, evS_ct, evS_brk, resL_n, resL_c, kAnd_b, kOr_b, kNt_b, kO_i, kR1_i, kR22_i, evR_n, evR_c, noIo_un, noIo_val, noIo_own, of_val, of_own, chgS_k, chK_own, chK_io, heldS_k, lstS_k, lsK_own, lsK_io, putV_nm, putV_tup, putP_nm, putP_ixs, putP_tup, putPs_n, putPs_c, putN_n, putN_c, retV_s, retI_s, callD_0, callD_1, callD_2, callD_3, callD_4, ciK_own, ciK_io, callD_i1, callD_i2, forL_n, avS_v, avS_i, startS_c, startS_z, startS_u, isi_s, isi_t, isi_ll, isi_lt, isi_i, isi_ib, truD_b, len_l, len_t, max_ii, min_ii, int_i, list_l, list_t, tuple_l, tuple_t, eqD_ss, eqD_ii, c_eq, c_ne, c_lt, c_le, c_gt, c_ge, b_add, b_sub, isN_n, isN_i, ixT0, ixT1, kB1, kC1, kN, kIte, kIx, kSl, kCall, kCK2, kCK, kBlt, kG2, kG1, kG, kTr, kTC1, kTAnd, kTOr, kPs, kLs, kAs, kR2, kZ2, kZ, kFor, kLT2, kLT1, kLc, kIf, kAsg, kPar, kSx2, kSx, kMut, kRs, putS_k, RV.d, Option.bind_some, Option.bind_none, Option.map_some, Option.map_none, hideS, wipeS, backS, List.map_cons, List.map_nil, List.length_cons, List.length_nil, if_true, if_false, Bool.false_eq_true, eq_self, outsOf, decide_true, decide_false, Bool.not_true, Bool.not_false, Nat.reduceAdd, Nat.reduceLT, Nat.zero_add, kTup2]
      | some to =>
        have hlt : to < t.length := by have := tr_bel ht2 _ he to rfl; simpa [linesT] using this
        have hx : ixD (.list (trD t)) (.int (to : Nat)) = some (enD (t.getD to default)) := by
          apply ixLn; simp [trD, hlt]
        simp -implicitDefEqProofs only [enD, opD, Option.bind_some, seqO_nx, seqO_ret, seqO_ct, seqO_brk, getS_z, getS_s, set_z, set_s, evB_nil, evB_cons, evS_for, evE_lc, lcTurn_k, evE_c, evE_g, evE_v, takeS_k, tkK_val, tkK_own, peekS_k, pkK_val, pkK_own, pkK_io, res_val, res_slot, sdK_val, sdK_own, sdK_io, evE_bin, evE_neg, evE_cmp, evE_isN, evE_notN, evE_and, evE_or, evE_nt, evE_ite, evE_tup, evE_lst, evE_dct, evE_ix, evE_sl, evE_call, evE_callK, evE_blt, evE_isi, evE_get2, evT_tr, evT_cmp, evT_isN, evT_notN, evT_and, evT_or, evT_nt, evTo_n, evTo_s, evP_slot, evP_ex, evPs_n, evPs_c, evL_n, evL_c, evA_n, evA_e, ioK_own, ioK_io, evA_io, evO_n, evO_e, evI_seq, evI_rng1, evI_rng2, evI_enum, evI_zip, evS_asg, evS_par, evS_setIx, evS_ex, evS_mut, evS_iF, evS_ret, evS_retS, rsK_val, rsK_own, evS_retN, evS_pass, evS_ct, evS_brk, resL_n, resL_c, kAnd_b, kOr_b, kNt_b, kO_i, kR1_i, kR22_i, evR_n, evR_c, noIo_un, noIo_val, noIo_own, of_val, of_own, chgS_k, chK_own, chK_io, heldS_k, lstS_k, lsK_own, lsK_io, putV_nm, putV_tup, putP_nm, putP_ixs, putP_tup, putPs_n, putPs_c, putN_n, putN_c, retV_s, retI_s, callD_0, callD_1, callD_2, callD_3, callD_4, ciK_own, ciK_io, callD_i1, callD_i2, forL_n, avS_v, avS_i, startS_c, startS_z, startS_u, isi_s, isi_t, isi_ll, isi_lt, isi_i, isi_ib, truD_b, len_l, len_t, max_ii, min_ii, int_i, list_l, list_t, tuple_l, tuple_t, eqD_ss, eqD_ii, c_eq, c_ne, c_lt, c_le, c_gt, c_ge, b_add, b_sub, isN_n, isN_i, ixT0, ixT1, kB1, kC1, kN, kIte, kIx, kSl, kCall, kCK2, kCK, kBlt, kG2, kG1, kG, kTr, kTC1, kTAnd, kTOr, kPs, kLs, kAs, kR2, kZ2, kZ, kFor, kLT2, kLT1, kLc, kIf, kAsg, kPar, kSx2, kSx, kMut, kRs, putS_k, RV.d, Option.bind_some, Option.bind_none, Option.map_some, Option.map_none, hideS, wipeS, backS, List.map_cons, List.map_nil, List.length_cons, List.length_nil, if_true, if_false, Bool.false_eq_true, eq_self, outsOf, decide_true, decide_false, Bool.not_true, Bool.not_false, Nat.reduceAdd, Nat.reduceLT, Nat.zero_add, kTup2] at hx ⊢
        simp -implicitDefEqProofs only [hx, seqO_nx, seqO_ret, seqO_ct, seqO_brk, getS_z, getS_s, set_z, set_s, evB_nil, evB_cons, evS_for, evE_lc, lcTurn_k, evE_c, evE_g, evE_v, takeS_k, tkK_val, tkK_own, peekS_k, pkK_val, pkK_own, pkK_io, res_val, res_slot, sdK_val, sdK_own, sdK_io, evE_bin, evE_neg, evE_cmp, evE_isN, evE_notN, evE_and, evE_or, evE_nt, evE_ite, evE_tup, evE_lst, evE_dct, evE_ix, evE_sl, evE_call, evE_callK, evE_blt, evE_isi, evE_get2, evT_tr, evT_cmp, evT_isN, evT_notN, evT_and, evT_or, evT_nt, evTo_n, evTo_s, evP_slot, evP_ex, evPs_n, evPs_c, evL_n, evL_c, evA_n, evA_e, ioK_own, ioK_io, evA_io, evO_n, evO_e, evI_seq, evI_rng1, evI_rng2, evI_enum, evI_zip, evS_asg, evS_par, evS_setIx, evS_ex, evS_mut, evS_iF, evS_ret, evS_retS, rsK_val, rsK_own, evS_retN, evS_pass, evS_ct, evS_brk, resL_n, resL_c, kAnd_b, kOr_b, kNt_b, kO_i, kR1_i, kR22_i, evR_n, evR_c, noIo_un, noIo_val, noIo_own, of_val, of_own, chgS_k, chK_own, chK_io, heldS_k, lstS_k, lsK_own, lsK_io, putV_nm, putV_tup, putP_nm, putP_ixs, putP_tup, putPs_n, putPs_c, putN_n, putN_c, retV_s, retI_s, callD_0, callD_1, callD_2, callD_3, callD_4, ciK_own, ciK_io, callD_i1, callD_i2, forL_n, avS_v, avS_i, startS_c, startS_z, startS_u, isi_s, isi_t, isi_ll, isi_lt, isi_i, isi_ib, truD_b, len_l, len_t, max_ii, min_ii, int_i, list_l, list_t, tuple_l, tuple_t, eqD_ss, eqD_ii, c_eq, c_ne, c_lt, c_le, c_gt, c_ge, b_add, b_sub, isN_n, isN_i, ixT0, ixT1, kB1, kC1, kN, kIte, kIx, kSl, kCall, kCK2, kCK, kBlt, kG2, kG1, kG, kTr, kTC1, kTAnd, kTOr, kPs, kLs, kAs, kR2, kZ2, kZ, kFor, kLT2, kLT1, kLc, kIf, kAsg, kPar, kSx2, kSx, kMut, kRs, putS_k, RV.d, Option.bind_some, Option.bind_none, Option.map_some, Option.map_none, hideS, wipeS, backS, List.map_cons, List.map_nil, List.length_cons, List.length_nil, if_true, if_false, Bool.false_eq_true, eq_self, outsOf, decide_true, decide_false, Bool.not_true, Bool.not_false, Nat.reduceAdd, Nat.reduceLT, Nat.zero_add, kTup2])
    simp only [trD, bothT, List.map_map]; exact hh
  have z1 : (trD t).length ≤ sizeLine := by rw [len_trD]; exact sz1 (by omega)
  have z2 : (trD t2).length ≤ sizeLine := by rw [len_trD]; exact sz1 (by omega)
  simp only [lnD, Bool.false_eq_true, if_false] at e1 ei ⊢
  simp -implicitDefEqProofs only [d_joined_patch, seqO_nx, seqO_ret, seqO_ct, seqO_brk, getS_z, getS_s, set_z, set_s, evB_nil, evB_cons, evS_for, evE_lc, lcTurn_k, evE_c, evE_g, evE_v, takeS_k, tkK_val, tkK_own, peekS_k, pkK_val, pkK_own, pkK_io, res_val, res_slot, sdK_val, sdK_own, sdK_io, evE_bin, evE_neg, evE_cmp, evE_isN, evE_notN, evE_and, evE_or, evE_nt, evE_ite, evE_tup, evE_lst, evE_dct, evE_ix, evE_sl, evE_call, evE_callK, evE_blt, evE_isi, evE_get2, evT_tr, evT_cmp, evT_isN, evT_notN, evT_and, evT_or, evT_nt, evTo_n, evTo_s, evP_slot, evP_ex, evPs_n, evPs_c, evL_n, evL_c, evA_n, evA_e, ioK_own, ioK_io, evA_io, evO_n, evO_e, evI_seq, evI_rng1, evI_rng2, evI_enum, evI_zip, evS_asg, evS_par, evS_setIx, evS_ex, evS_mut, evS_iF, evS_ret, evS_retS, rsK_val, rsK_own, evS_retN, evS_pass, evS_ct, evS_brk, resL_n, resL_c, kAnd_b, kOr_b, kNt_b, kO_i, kR1_i, kR22_i, evR_n, evR_c, noIo_un, noIo_val, noIo_own, of_val, of_own, chgS_k, chK_own, chK_io, heldS_k, lstS_k, lsK_own, lsK_io, putV_nm, putV_tup, putP_nm, putP_ixs, putP_tup, putPs_n, putPs_c, putN_n, putN_c, retV_s, retI_s, callD_0, callD_1, callD_2, callD_3, callD_4, ciK_own, ciK_io, callD_i1, callD_i2, forL_n, avS_v, avS_i, startS_c, startS_z, startS_u, isi_s, isi_t, isi_ll, isi_lt, isi_i, isi_ib, truD_b, len_l, len_t, max_ii, min_ii, int_i, list_l, list_t, tuple_l, tuple_t, eqD_ss, eqD_ii, c_eq, c_ne, c_lt, c_le, c_gt, c_ge, b_add, b_sub, isN_n, isN_i, ixT0, ixT1, kB1, kC1, kN, kIte, kIx, kSl, kCall, kCK2, kCK, kBlt, kG2, kG1, kG, kTr, kTC1, kTAnd, kTOr, kPs, kLs, kAs, kR2, kZ2, kZ, kFor, kLT2, kLT1, kLc, kIf, kAsg, kPar, kSx2, kSx, kMut, kRs, putS_k, RV.d, Option.bind_some, Option.bind_none, Option.map_some, Option.map_none, hideS, wipeS, backS, List.map_cons, List.map_nil, List.length_cons, List.length_nil, if_true, if_false, Bool.false_eq_true, eq_self, outsOf, decide_true, decide_false, Bool.not_true, Bool.not_false, Nat.reduceAdd, Nat.reduceLT, Nat.zero_add, e1, et, ei, items_l z1, c1, et2, items_l z2, c2, len_sD, ep]
end K82

/-! V8: what the law draws. -/
namespace K82
open PySem PySem.Spec PyProof.Rows L2 PL
variable {W n : Nat}
def potD (a b : Int) : D := .list [.int a, .int b]
theorem ix0 {x y : D} : ixD (.list [x, y]) (.int 0) = some x := rfl
theorem ix1 {x y : D} : ixD (.list [x, y]) (.int 1) = some y := rfl
theorem ixN20 : ixN 2 0 = some 0 := rfl
theorem set1 {x y v : D} : setD (.int 1) v (.list [x, y]) = some (.list [x, v]) := rfl
theorem lset0 {x y v : D} : [x, y].set 0 v = [v, y] := rfl
theorem dm {i j : Int} (h : 0 < j) (h2 : j < 1073741824) : bltD .divmod [.int i, .int j] = some (.val (.tuple [.int (i / j), .int (i % j)])) := if_pos ⟨h, h2⟩
theorem sm_k : PL.small64 39373 = true := by decide
theorem lt29 : (0 : Int) < 29 ∧ (29 : Int) < 1073741824 := by decide
theorem e_draw (a b : Int) (m : Nat) (h0 : 0 < m) (h1 : m < 1000000) : ∃ (d : Nat) (a' b' : Int), d < m ∧ callF T W (n+1) 21 [.io (potD a b), .val (.int (m : Nat))] = some (.val (.int (d : Nat)), [potD a' b']) := by
  have k0 : (0 : Int) < (m : Nat) := by omega
  have k1 : (m : Int) < 1073741824 := by omega
  by_cases h : 0 < a
  · have hd0 : 0 ≤ a % (m : Int) := Int.emod_nonneg _ (by omega)
    have hd1 : a % (m : Int) < m := Int.emod_lt_of_pos _ k0
    refine ⟨(a % (m : Int)).toNat, a / (m : Int), b, by omega, ?_⟩
    have e : ((a % (m : Int)).toNat : Int) = a % (m : Int) := by omega
    rw [run_21, run_eq rfl rfl, e]
    simp -implicitDefEqProofs only [d__law_draw, potD, seqO_nx, seqO_ret, seqO_ct, seqO_brk, getS_z, getS_s, set_z, set_s, evB_nil, evB_cons, evS_for, evE_lc, lcTurn_k, evE_c, evE_g, evE_v, takeS_k, tkK_val, tkK_own, peekS_k, pkK_val, pkK_own, pkK_io, res_val, res_slot, sdK_val, sdK_own, sdK_io, evE_bin, evE_neg, evE_cmp, evE_isN, evE_notN, evE_and, evE_or, evE_nt, evE_ite, evE_tup, evE_lst, evE_dct, evE_ix, evE_sl, evE_call, evE_callK, evE_blt, evE_isi, evE_get2, evT_tr, evT_cmp, evT_isN, evT_notN, evT_and, evT_or, evT_nt, evTo_n, evTo_s, evP_slot, evP_ex, evPs_n, evPs_c, evL_n, evL_c, evA_n, evA_e, ioK_own, ioK_io, evA_io, evO_n, evO_e, evI_seq, evI_rng1, evI_rng2, evI_enum, evI_zip, evS_asg, evS_par, evS_setIx, evS_ex, evS_mut, evS_iF, evS_ret, evS_retS, rsK_val, rsK_own, evS_retN, evS_pass, evS_ct, evS_brk, resL_n, resL_c, kAnd_b, kOr_b, kNt_b, kO_i, kR1_i, kR22_i, evR_n, evR_c, noIo_un, noIo_val, noIo_own, of_val, of_own, chgS_k, chK_own, chK_io, heldS_k, lstS_k, lsK_own, lsK_io, putV_nm, putV_tup, putP_nm, putP_ixs, putP_tup, putPs_n, putPs_c, putN_n, putN_c, retV_s, retI_s, callD_0, callD_1, callD_2, callD_3, callD_4, ciK_own, ciK_io, callD_i1, callD_i2, forL_n, avS_v, avS_i, startS_c, startS_z, startS_u, isi_s, isi_t, isi_ll, isi_lt, isi_i, isi_ib, truD_b, len_l, len_t, max_ii, min_ii, int_i, list_l, list_t, tuple_l, tuple_t, eqD_ss, eqD_ii, c_eq, c_ne, c_lt, c_le, c_gt, c_ge, b_add, b_sub, isN_n, isN_i, ixT0, ixT1, kB1, kC1, kN, kIte, kIx, kSl, kCall, kCK2, kCK, kBlt, kG2, kG1, kG, kTr, kTC1, kTAnd, kTOr, kPs, kLs, kAs, kR2, kZ2, kZ, kFor, kLT2, kLT1, kLc, kIf, kAsg, kPar, kSx2, kSx, kMut, kRs, putS_k, RV.d, Option.bind_some, Option.bind_none, Option.map_some, Option.map_none, hideS, wipeS, backS, List.map_cons, List.map_nil, List.length_cons, List.length_nil, if_true, if_false, Bool.false_eq_true, eq_self, outsOf, decide_true, decide_false, Bool.not_true, Bool.not_false, Nat.reduceAdd, Nat.reduceLT, Nat.zero_add, ix0, h, dm k0 k1, ixN20, lset0]
  · have c0 : (0 : Int) < 2147483587 := by decide
    have c1 : (0 : Int) < 2147483563 := by decide
    have hb0 : 0 ≤ (b * 39373 + 733) % 2147483587 := Int.emod_nonneg _ (by decide)
    have hb1 : (b * 39373 + 733) % 2147483587 < 2147483587 := Int.emod_lt_of_pos _ c0
    have hs : PL.small64 ((b * 39373 + 733) % 2147483587) = true := by
      simp only [PL.small64, Bool.and_eq_true, decide_eq_true_eq]; omega
    have m1 : binD .mul (.int b) (.int 39373) = some (.val (.int (b * 39373))) := b_mul (.inr sm_k)
    have m2 := b_mul (j := (b * 39373 + 733) % 2147483587) (.inl hs)
    have hd0 : 0 ≤ (((b * 39373 + 733) % 2147483587) * ((b * 39373 + 733) % 2147483587)) % 2147483563 / 29 % (m : Int) := Int.emod_nonneg _ (by omega)
    have hd1 : (((b * 39373 + 733) % 2147483587) * ((b * 39373 + 733) % 2147483587)) % 2147483563 / 29 % (m : Int) < m := Int.emod_lt_of_pos _ k0
    refine ⟨((((b * 39373 + 733) % 2147483587) * ((b * 39373 + 733) % 2147483587)) % 2147483563 / 29 % (m : Int)).toNat, a, (b * 39373 + 733) % 2147483587, by omega, ?_⟩
    have e : (((((b * 39373 + 733) % 2147483587) * ((b * 39373 + 733) % 2147483587)) % 2147483563 / 29 % (m : Int)).toNat : Int) = (((b * 39373 + 733) % 2147483587) * ((b * 39373 + 733) % 2147483587)) % 2147483563 / 29 % (m : Int) := by omega
    rw [run_21, run_eq rfl rfl, e]
    simp -implicitDefEqProofs only [d__law_draw, potD, seqO_nx, seqO_ret, seqO_ct, seqO_brk, getS_z, getS_s, set_z, set_s, evB_nil, evB_cons, evS_for, evE_lc, lcTurn_k, evE_c, evE_g, evE_v, takeS_k, tkK_val, tkK_own, peekS_k, pkK_val, pkK_own, pkK_io, res_val, res_slot, sdK_val, sdK_own, sdK_io, evE_bin, evE_neg, evE_cmp, evE_isN, evE_notN, evE_and, evE_or, evE_nt, evE_ite, evE_tup, evE_lst, evE_dct, evE_ix, evE_sl, evE_call, evE_callK, evE_blt, evE_isi, evE_get2, evT_tr, evT_cmp, evT_isN, evT_notN, evT_and, evT_or, evT_nt, evTo_n, evTo_s, evP_slot, evP_ex, evPs_n, evPs_c, evL_n, evL_c, evA_n, evA_e, ioK_own, ioK_io, evA_io, evO_n, evO_e, evI_seq, evI_rng1, evI_rng2, evI_enum, evI_zip, evS_asg, evS_par, evS_setIx, evS_ex, evS_mut, evS_iF, evS_ret, evS_retS, rsK_val, rsK_own, evS_retN, evS_pass, evS_ct, evS_brk, resL_n, resL_c, kAnd_b, kOr_b, kNt_b, kO_i, kR1_i, kR22_i, evR_n, evR_c, noIo_un, noIo_val, noIo_own, of_val, of_own, chgS_k, chK_own, chK_io, heldS_k, lstS_k, lsK_own, lsK_io, putV_nm, putV_tup, putP_nm, putP_ixs, putP_tup, putPs_n, putPs_c, putN_n, putN_c, retV_s, retI_s, callD_0, callD_1, callD_2, callD_3, callD_4, ciK_own, ciK_io, callD_i1, callD_i2, forL_n, avS_v, avS_i, startS_c, startS_z, startS_u, isi_s, isi_t, isi_ll, isi_lt, isi_i, isi_ib, truD_b, len_l, len_t, max_ii, min_ii, int_i, list_l, list_t, tuple_l, tuple_t, eqD_ss, eqD_ii, c_eq, c_ne, c_lt, c_le, c_gt, c_ge, b_add, b_sub, isN_n, isN_i, ixT0, ixT1, kB1, kC1, kN, kIte, kIx, kSl, kCall, kCK2, kCK, kBlt, kG2, kG1, kG, kTr, kTC1, kTAnd, kTOr, kPs, kLs, kAs, kR2, kZ2, kZ, kFor, kLT2, kLT1, kLc, kIf, kAsg, kPar, kSx2, kSx, kMut, kRs, putS_k, RV.d, Option.bind_some, Option.bind_none, Option.map_some, Option.map_none, hideS, wipeS, backS, List.map_cons, List.map_nil, List.length_cons, List.length_nil, if_true, if_false, Bool.false_eq_true, eq_self, outsOf, decide_true, decide_false, Bool.not_true, Bool.not_false, Nat.reduceAdd, Nat.reduceLT, Nat.zero_add, ix0, ix1, h, m1, b_mod c0, set1, m2, b_mod c1, b_div lt29.1 lt29.2, b_mod k0]
theorem e_pick (a b : Int) (ls : List Str) (h0 : ls ≠ []) (h1 : ls.length < 1000000) : ∃ (s : Str) (a' b' : Int), s ∈ ls ∧ callF T W (n+2) 22 [.io (potD a b), .val (.list (sD ls))] = some (.val (.str s), [potD a' b']) := by
  have hp : 0 < ls.length := by cases ls; exact absurd rfl h0; exact Nat.succ_pos _
  obtain ⟨d, a', b', hd, he⟩ := e_draw (W := W) (n := n) a b ls.length hp h1
  refine ⟨ls.getD d default, a', b', ?_, ?_⟩
  · simp only [List.getD_eq_getElem?_getD, List.getElem?_eq_getElem hd, Option.getD_some]; exact List.getElem_mem hd
  · rw [run_22, run_eq rfl rfl]
    simp -implicitDefEqProofs only [d__law_pick, seqO_nx, seqO_ret, seqO_ct, seqO_brk, getS_z, getS_s, set_z, set_s, evB_nil, evB_cons, evS_for, evE_lc, lcTurn_k, evE_c, evE_g, evE_v, takeS_k, tkK_val, tkK_own, peekS_k, pkK_val, pkK_own, pkK_io, res_val, res_slot, sdK_val, sdK_own, sdK_io, evE_bin, evE_neg, evE_cmp, evE_isN, evE_notN, evE_and, evE_or, evE_nt, evE_ite, evE_tup, evE_lst, evE_dct, evE_ix, evE_sl, evE_call, evE_callK, evE_blt, evE_isi, evE_get2, evT_tr, evT_cmp, evT_isN, evT_notN, evT_and, evT_or, evT_nt, evTo_n, evTo_s, evP_slot, evP_ex, evPs_n, evPs_c, evL_n, evL_c, evA_n, evA_e, ioK_own, ioK_io, evA_io, evO_n, evO_e, evI_seq, evI_rng1, evI_rng2, evI_enum, evI_zip, evS_asg, evS_par, evS_setIx, evS_ex, evS_mut, evS_iF, evS_ret, evS_retS, rsK_val, rsK_own, evS_retN, evS_pass, evS_ct, evS_brk, resL_n, resL_c, kAnd_b, kOr_b, kNt_b, kO_i, kR1_i, kR22_i, evR_n, evR_c, noIo_un, noIo_val, noIo_own, of_val, of_own, chgS_k, chK_own, chK_io, heldS_k, lstS_k, lsK_own, lsK_io, putV_nm, putV_tup, putP_nm, putP_ixs, putP_tup, putPs_n, putPs_c, putN_n, putN_c, retV_s, retI_s, callD_0, callD_1, callD_2, callD_3, callD_4, ciK_own, ciK_io, callD_i1, callD_i2, forL_n, avS_v, avS_i, startS_c, startS_z, startS_u, isi_s, isi_t, isi_ll, isi_lt, isi_i, isi_ib, truD_b, len_l, len_t, max_ii, min_ii, int_i, list_l, list_t, tuple_l, tuple_t, eqD_ss, eqD_ii, c_eq, c_ne, c_lt, c_le, c_gt, c_ge, b_add, b_sub, isN_n, isN_i, ixT0, ixT1, kB1, kC1, kN, kIte, kIx, kSl, kCall, kCK2, kCK, kBlt, kG2, kG1, kG, kTr, kTC1, kTAnd, kTOr, kPs, kLs, kAs, kR2, kZ2, kZ, kFor, kLT2, kLT1, kLc, kIf, kAsg, kPar, kSx2, kSx, kMut, kRs, putS_k, RV.d, Option.bind_some, Option.bind_none, Option.map_some, Option.map_none, hideS, wipeS, backS, List.map_cons, List.map_nil, List.length_cons, List.length_nil, if_true, if_false, Bool.false_eq_true, eq_self, outsOf, decide_true, decide_false, Bool.not_true, Bool.not_false, Nat.reduceAdd, Nat.reduceLT, Nat.zero_add, len_sD, he, ixL_sD hd]
def menu : List Str := [Str.ofString "a", Str.ofString "b", Str.ofString "c", Str.ofString "", Str.ofString "a b"]
theorem menu_ok : ∀ s ∈ menu, LnOk s := by
  have h : ∀ s ∈ menu, s.length ≤ 10 ∧ PyData.strOk s = true := by decide +kernel
  exact h
theorem menu_ne : menu ≠ [] := by decide
theorem len_rangeD : ∀ (k : Nat) (i : Int), (rangeD i k).length = k
  | 0, _ => rfl
  | k + 1, i => by rw [rangeD, List.length_cons, len_rangeD k]
theorem kLst5 {a b c d e : D} {ρ : PL.Env} : kLst ([a, b, c, d, e], ρ) = some (.own (.list [a, b, c, d, e]), ρ) := rfl
theorem menuD : (.list [.str "a", .str "b", .str "c", .str "", .str "a b"] : D) = .list (sD menu) := rfl
theorem e_lines (a b : Int) (m : Nat) (h : m ≤ 1000) : ∃ (ls : List Str) (a' b' : Int), ls.length = m ∧ (∀ s ∈ ls, LnOk s) ∧ callF T W (n+3) 23 [.io (potD a b), .val (.int (m : Nat))] = some (.own (.list (sD ls)), [potD a' b']) := by
  have main : ∀ (ds : List D) (a b : Int) (s2 : SD) (acc : List D), (∀ d ∈ ds, ∃ i : Int, d = .int i) → ∃ (ls : List Str) (a' b' : Int) (t2 : SD), ls.length = ds.length ∧ (∀ s ∈ ls, LnOk s) ∧
      compL (fun d ρ2 => lcTurn (callF T W (n+2)) (.call 22 "_law_pick" [(.io 0), (.e (.lst [(.c (.str "a")), (.c (.str "b")), (.c (.str "c")), (.c (.str "")), (.c (.str "a b"))]))]) (.nm 2) none d (wipeS ρ2 [2])) ds [.io (potD a b), .val (.int (m : Nat)), s2] acc
        = some (acc ++ sD ls, [.io (potD a' b'), .val (.int (m : Nat)), t2]) := by
    intro ds
    induction ds with
    | nil => intro a b s2 acc _; exact ⟨[], a, b, s2, rfl, fun s hs => (by cases hs), by simp [compL, sD]⟩
    | cons d ds ih =>
      intro a b s2 acc hd
      obtain ⟨s, a1, b1, hs, he⟩ := e_pick (W := W) (n := n) a b menu menu_ne (by decide)
      have ht : lcTurn (callF T W (n+2)) (.call 22 "_law_pick" [(.io 0), (.e (.lst [(.c (.str "a")), (.c (.str "b")), (.c (.str "c")), (.c (.str "")), (.c (.str "a b"))]))]) (.nm 2) none d (wipeS [.io (potD a b), .val (.int (m : Nat)), s2] [2])
          = some (some (.str s), [.io (potD a1 b1), .val (.int (m : Nat)), .val d]) := by
        simp -implicitDefEqProofs only [seqO_nx, seqO_ret, seqO_ct, seqO_brk, getS_z, getS_s, set_z, set_s, evB_nil, evB_cons, evS_for, evE_lc, lcTurn_k, evE_c, evE_g, evE_v, takeS_k, tkK_val, tkK_own, peekS_k, pkK_val, pkK_own, pkK_io, res_val, res_slot, sdK_val, sdK_own, sdK_io, evE_bin, evE_neg, evE_cmp, evE_isN, evE_notN, evE_and, evE_or, evE_nt, evE_ite, evE_tup, evE_lst, evE_dct, evE_ix, evE_sl, evE_call, evE_callK, evE_blt, evE_isi, evE_get2, evT_tr, evT_cmp, evT_isN, evT_notN, evT_and, evT_or, evT_nt, evTo_n, evTo_s, evP_slot, evP_ex, evPs_n, evPs_c, evL_n, evL_c, evA_n, evA_e, ioK_own, ioK_io, evA_io, evO_n, evO_e, evI_seq, evI_rng1, evI_rng2, evI_enum, evI_zip, evS_asg, evS_par, evS_setIx, evS_ex, evS_mut, evS_iF, evS_ret, evS_retS, rsK_val, rsK_own, evS_retN, evS_pass, evS_ct, evS_brk, resL_n, resL_c, kAnd_b, kOr_b, kNt_b, kO_i, kR1_i, kR22_i, evR_n, evR_c, noIo_un, noIo_val, noIo_own, of_val, of_own, chgS_k, chK_own, chK_io, heldS_k, lstS_k, lsK_own, lsK_io, putV_nm, putV_tup, putP_nm, putP_ixs, putP_tup, putPs_n, putPs_c, putN_n, putN_c, retV_s, retI_s, callD_0, callD_1, callD_2, callD_3, callD_4, ciK_own, ciK_io, callD_i1, callD_i2, forL_n, avS_v, avS_i, startS_c, startS_z, startS_u, isi_s, isi_t, isi_ll, isi_lt, isi_i, isi_ib, truD_b, len_l, len_t, max_ii, min_ii, int_i, list_l, list_t, tuple_l, tuple_t, eqD_ss, eqD_ii, c_eq, c_ne, c_lt, c_le, c_gt, c_ge, b_add, b_sub, isN_n, isN_i, ixT0, ixT1, kB1, kC1, kN, kIte, kIx, kSl, kCall, kCK2, kCK, kBlt, kG2, kG1, kG, kTr, kTC1, kTAnd, kTOr, kPs, kLs, kAs, kR2, kZ2, kZ, kFor, kLT2, kLT1, kLc, kIf, kAsg, kPar, kSx2, kSx, kMut, kRs, putS_k, RV.d, Option.bind_some, Option.bind_none, Option.map_some, Option.map_none, hideS, wipeS, backS, List.map_cons, List.map_nil, List.length_cons, List.length_nil, if_true, if_false, Bool.false_eq_true, eq_self, outsOf, decide_true, decide_false, Bool.not_true, Bool.not_false, Nat.reduceAdd, Nat.reduceLT, Nat.zero_add, kLst5, menuD, he]
      obtain ⟨ls, a', b', t2, h1, h2, h3⟩ := ih a1 b1 (.val d) (acc ++ [.str s]) fun x hx => hd x (List.mem_cons_of_mem _ hx)
      refine ⟨s :: ls, a', b', t2, by simp [h1], ?_, ?_⟩
      · intro x hx; rcases List.mem_cons.mp hx with rfl | hx
        · exact menu_ok _ hs
        · exact h2 x hx
      · simp only [compL, ht, h3, List.append_assoc]; rfl
  have hr : ∀ d ∈ rangeD 0 m, ∃ i : Int, d = .int i := by
    intro d hd
    have := rangeD_eq m 0
    rw [show ((0 : Nat) : Int) = 0 from rfl] at this
    rw [this] at hd; obtain ⟨i, _, rfl⟩ := List.mem_map.mp hd; exact ⟨_, rfl⟩
  obtain ⟨ls, a', b', t2, h1, h2, h3⟩ := main (rangeD 0 m) a b .un [] hr
  rw [len_rangeD] at h1
  refine ⟨ls, a', b', h1, h2, ?_⟩
  rw [run_23, run_eq rfl rfl]
  have hm : (m : Int) ≤ 16777216 ∧ -(2 ^ 62) ≤ (m : Int) := by omega
  have hc : compE (callF T W (n+2)) (.call 22 "_law_pick" [(.io 0), (.e (.lst [(.c (.str "a")), (.c (.str "b")), (.c (.str "c")), (.c (.str "")), (.c (.str "a b"))]))]) (.nm 2) none [2] (rangeD 0 m) [.io (potD a b), .val (.int (m : Nat)), .un] = some (.own (.list (sD ls)), [.io (potD a' b'), .val (.int (m : Nat)), .un]) := by
    unfold compE; rw [h3]; rfl
  simp -implicitDefEqProofs only [d__law_lines_drawn, seqO_nx, seqO_ret, seqO_ct, seqO_brk, getS_z, getS_s, set_z, set_s, evB_nil, evB_cons, evS_for, evE_lc, lcTurn_k, evE_c, evE_g, evE_v, takeS_k, tkK_val, tkK_own, peekS_k, pkK_val, pkK_own, pkK_io, res_val, res_slot, sdK_val, sdK_own, sdK_io, evE_bin, evE_neg, evE_cmp, evE_isN, evE_notN, evE_and, evE_or, evE_nt, evE_ite, evE_tup, evE_lst, evE_dct, evE_ix, evE_sl, evE_call, evE_callK, evE_blt, evE_isi, evE_get2, evT_tr, evT_cmp, evT_isN, evT_notN, evT_and, evT_or, evT_nt, evTo_n, evTo_s, evP_slot, evP_ex, evPs_n, evPs_c, evL_n, evL_c, evA_n, evA_e, ioK_own, ioK_io, evA_io, evO_n, evO_e, evI_seq, evI_rng1, evI_rng2, evI_enum, evI_zip, evS_asg, evS_par, evS_setIx, evS_ex, evS_mut, evS_iF, evS_ret, evS_retS, rsK_val, rsK_own, evS_retN, evS_pass, evS_ct, evS_brk, resL_n, resL_c, kAnd_b, kOr_b, kNt_b, kO_i, kR1_i, kR22_i, evR_n, evR_c, noIo_un, noIo_val, noIo_own, of_val, of_own, chgS_k, chK_own, chK_io, heldS_k, lstS_k, lsK_own, lsK_io, putV_nm, putV_tup, putP_nm, putP_ixs, putP_tup, putPs_n, putPs_c, putN_n, putN_c, retV_s, retI_s, callD_0, callD_1, callD_2, callD_3, callD_4, ciK_own, ciK_io, callD_i1, callD_i2, forL_n, avS_v, avS_i, startS_c, startS_z, startS_u, isi_s, isi_t, isi_ll, isi_lt, isi_i, isi_ib, truD_b, len_l, len_t, max_ii, min_ii, int_i, list_l, list_t, tuple_l, tuple_t, eqD_ss, eqD_ii, c_eq, c_ne, c_lt, c_le, c_gt, c_ge, b_add, b_sub, isN_n, isN_i, ixT0, ixT1, kB1, kC1, kN, kIte, kIx, kSl, kCall, kCK2, kCK, kBlt, kG2, kG1, kG, kTr, kTC1, kTAnd, kTOr, kPs, kLs, kAs, kR2, kZ2, kZ, kFor, kLT2, kLT1, kLc, kIf, kAsg, kPar, kSx2, kSx, kMut, kRs, putS_k, RV.d, Option.bind_some, Option.bind_none, Option.map_some, Option.map_none, hideS, wipeS, backS, List.map_cons, List.map_nil, List.length_cons, List.length_nil, if_true, if_false, Bool.false_eq_true, eq_self, outsOf, decide_true, decide_false, Bool.not_true, Bool.not_false, Nat.reduceAdd, Nat.reduceLT, Nat.zero_add, hm, Int.toNat_natCast, and_self, hc]
structure Drw (f f' : List Ed) (l l' : Nat) : Prop where
  sp : spanOf f' + l' = spanOf f + l
  len : f'.length ≤ f.length + 1
  ed : (∀ e ∈ f, EdP e) → ∀ e ∈ f', EdP e
  late : lateOf f' ≤ lateOf f + 3
theorem min_n {k l : Nat} : (if (l : Int) < (k : Nat) then (l : Int) else (k : Nat)) = ((min k l : Nat) : Int) := by
  by_cases h : l < k
  · rw [if_pos (by omega), Nat.min_eq_right (by omega)]
  · rw [if_neg (by omega), Nat.min_eq_left (by omega)]
theorem kt0 : ixD (.list [.str "keep", .str "take"]) (.int 0) = some (.str "keep") := rfl
theorem kt1 : ixD (.list [.str "keep", .str "take"]) (.int 1) = some (.str "take") := rfl
theorem st_draw (M : SD) (d : D) (f : List Ed) (l : Nat) (s2 s5 s6 : SD) (h2 : noIo s2 = true) (h5 : noIo s5 = true) (h6 : noIo s6 = true) (a b : Int) (hf : f.length ≤ 1000) :
    ∃ (f' : List Ed) (l' : Nat) (a' b' : Int) (t5 t6 : SD), Drw f f' l l' ∧ noIo t5 = true ∧ noIo t6 = true ∧
      (putP (.nm 2) d [.io (potD a b), M, s2, .own (.list (f.map edD)), .val (.int (l : Nat)), s5, s6]).bind (evB (callF T W (n+3)) W b__law_patch_0)
        = some (.nx [.io (potD a' b'), M, .val d, .own (.list (f'.map edD)), .val (.int (l' : Nat)), t5, t6]) := by
  obtain ⟨w1, a1, b1, hw, e1⟩ := e_draw (W := W) (n := n+2) a b 3 (by decide) (by decide)
  obtain ⟨w2, a2, b2, hw2, e2⟩ := e_draw (W := W) (n := n+2) a1 b1 3 (by decide) (by decide)
  have e1' : callF T W (n+3) 21 [.io (potD a b), .val (.int 3)] = some (.val (.int (w1 : Nat)), [potD a1 b1]) := e1
  have e2' : callF T W (n+3) 21 [.io (potD a1 b1), .val (.int 3)] = some (.val (.int (w2 : Nat)), [potD a2 b2]) := e2
  have ek : (1 : Int) + (w2 : Nat) = ((w2 + 1 : Nat) : Int) := by omega
  have hm : (f.map edD).length < sizeLine := by rw [List.length_map]; exact sz2 (by omega)
  have happ : ∀ e, f.map edD ++ [edD e] = (f ++ [e]).map edD := fun e => by simp
  rcases Nat.eq_zero_or_pos w1 with rfl | hp
  · obtain ⟨ls, a3, b3, hl, hok, e3⟩ := e_lines (W := W) (n := n) a2 b2 (w2 + 1) (by omega)
    refine ⟨f ++ [.put ls], l, a3, b3, .val (.int ((0 : Nat) : Int)), .val (.int ((w2 + 1 : Nat) : Int)), ⟨?_, ?_, ?_, ?_⟩, rfl, rfl, ?_⟩
    · simp [spanOf, spanE]
    · simp
    · intro hf'; refine edP_app hf' ?_
      intro x hx; rcases List.mem_singleton.mp hx with rfl
      exact ⟨by intro h; rw [h] at hl; simp at hl, hok⟩
    · simp only [late_app, late_1, lateE]; omega
    · have z : (((0 : Nat) : Int) == 0) = true := rfl
      rw [← happ]
      simp -implicitDefEqProofs only [b__law_patch_0, seqO_nx, seqO_ret, seqO_ct, seqO_brk, getS_z, getS_s, set_z, set_s, evB_nil, evB_cons, evS_for, evE_lc, lcTurn_k, evE_c, evE_g, evE_v, takeS_k, tkK_val, tkK_own, peekS_k, pkK_val, pkK_own, pkK_io, res_val, res_slot, sdK_val, sdK_own, sdK_io, evE_bin, evE_neg, evE_cmp, evE_isN, evE_notN, evE_and, evE_or, evE_nt, evE_ite, evE_tup, evE_lst, evE_dct, evE_ix, evE_sl, evE_call, evE_callK, evE_blt, evE_isi, evE_get2, evT_tr, evT_cmp, evT_isN, evT_notN, evT_and, evT_or, evT_nt, evTo_n, evTo_s, evP_slot, evP_ex, evPs_n, evPs_c, evL_n, evL_c, evA_n, evA_e, ioK_own, ioK_io, evA_io, evO_n, evO_e, evI_seq, evI_rng1, evI_rng2, evI_enum, evI_zip, evS_asg, evS_par, evS_setIx, evS_ex, evS_mut, evS_iF, evS_ret, evS_retS, rsK_val, rsK_own, evS_retN, evS_pass, evS_ct, evS_brk, resL_n, resL_c, kAnd_b, kOr_b, kNt_b, kO_i, kR1_i, kR22_i, evR_n, evR_c, noIo_un, noIo_val, noIo_own, of_val, of_own, chgS_k, chK_own, chK_io, heldS_k, lstS_k, lsK_own, lsK_io, putV_nm, putV_tup, putP_nm, putP_ixs, putP_tup, putPs_n, putPs_c, putN_n, putN_c, retV_s, retI_s, callD_0, callD_1, callD_2, callD_3, callD_4, ciK_own, ciK_io, callD_i1, callD_i2, forL_n, avS_v, avS_i, startS_c, startS_z, startS_u, isi_s, isi_t, isi_ll, isi_lt, isi_i, isi_ib, truD_b, len_l, len_t, max_ii, min_ii, int_i, list_l, list_t, tuple_l, tuple_t, eqD_ss, eqD_ii, c_eq, c_ne, c_lt, c_le, c_gt, c_ge, b_add, b_sub, isN_n, isN_i, ixT0, ixT1, kB1, kC1, kN, kIte, kIx, kSl, kCall, kCK2, kCK, kBlt, kG2, kG1, kG, kTr, kTC1, kTAnd, kTOr, kPs, kLs, kAs, kR2, kZ2, kZ, kFor, kLT2, kLT1, kLc, kIf, kAsg, kPar, kSx2, kSx, kMut, kRs, putS_k, RV.d, Option.bind_some, Option.bind_none, Option.map_some, Option.map_none, hideS, wipeS, backS, List.map_cons, List.map_nil, List.length_cons, List.length_nil, if_true, if_false, Bool.false_eq_true, eq_self, outsOf, decide_true, decide_false, Bool.not_true, Bool.not_false, Nat.reduceAdd, Nat.reduceLT, Nat.zero_add, h2, h5, h6, e1', e2', ek, z, e3, kTup2, mut_a hm, edD]
  · have z : ((w1 : Int) == 0) = false := by simp only [beq_eq_false_iff_ne]; omega
    rcases Nat.eq_zero_or_pos l with rfl | hl
    · refine ⟨f, 0, a2, b2, .val (.int (w1 : Nat)), .val (.int ((w2 + 1 : Nat) : Int)), ⟨rfl, by omega, fun h => h, by omega⟩, rfl, rfl, ?_⟩
      have z2 : ¬ (0 : Int) < ((0 : Nat) : Int) := by decide
      simp -implicitDefEqProofs only [b__law_patch_0, seqO_nx, seqO_ret, seqO_ct, seqO_brk, getS_z, getS_s, set_z, set_s, evB_nil, evB_cons, evS_for, evE_lc, lcTurn_k, evE_c, evE_g, evE_v, takeS_k, tkK_val, tkK_own, peekS_k, pkK_val, pkK_own, pkK_io, res_val, res_slot, sdK_val, sdK_own, sdK_io, evE_bin, evE_neg, evE_cmp, evE_isN, evE_notN, evE_and, evE_or, evE_nt, evE_ite, evE_tup, evE_lst, evE_dct, evE_ix, evE_sl, evE_call, evE_callK, evE_blt, evE_isi, evE_get2, evT_tr, evT_cmp, evT_isN, evT_notN, evT_and, evT_or, evT_nt, evTo_n, evTo_s, evP_slot, evP_ex, evPs_n, evPs_c, evL_n, evL_c, evA_n, evA_e, ioK_own, ioK_io, evA_io, evO_n, evO_e, evI_seq, evI_rng1, evI_rng2, evI_enum, evI_zip, evS_asg, evS_par, evS_setIx, evS_ex, evS_mut, evS_iF, evS_ret, evS_retS, rsK_val, rsK_own, evS_retN, evS_pass, evS_ct, evS_brk, resL_n, resL_c, kAnd_b, kOr_b, kNt_b, kO_i, kR1_i, kR22_i, evR_n, evR_c, noIo_un, noIo_val, noIo_own, of_val, of_own, chgS_k, chK_own, chK_io, heldS_k, lstS_k, lsK_own, lsK_io, putV_nm, putV_tup, putP_nm, putP_ixs, putP_tup, putPs_n, putPs_c, putN_n, putN_c, retV_s, retI_s, callD_0, callD_1, callD_2, callD_3, callD_4, ciK_own, ciK_io, callD_i1, callD_i2, forL_n, avS_v, avS_i, startS_c, startS_z, startS_u, isi_s, isi_t, isi_ll, isi_lt, isi_i, isi_ib, truD_b, len_l, len_t, max_ii, min_ii, int_i, list_l, list_t, tuple_l, tuple_t, eqD_ss, eqD_ii, c_eq, c_ne, c_lt, c_le, c_gt, c_ge, b_add, b_sub, isN_n, isN_i, ixT0, ixT1, kB1, kC1, kN, kIte, kIx, kSl, kCall, kCK2, kCK, kBlt, kG2, kG1, kG, kTr, kTC1, kTAnd, kTOr, kPs, kLs, kAs, kR2, kZ2, kZ, kFor, kLT2, kLT1, kLc, kIf, kAsg, kPar, kSx2, kSx, kMut, kRs, putS_k, RV.d, Option.bind_some, Option.bind_none, Option.map_some, Option.map_none, hideS, wipeS, backS, List.map_cons, List.map_nil, List.length_cons, List.length_nil, if_true, if_false, Bool.false_eq_true, eq_self, outsOf, decide_true, decide_false, Bool.not_true, Bool.not_false, Nat.reduceAdd, Nat.reduceLT, Nat.zero_add, h2, h5, h6, e1', e2', ek, z, z2]
    · have z2 : (0 : Int) < (l : Nat) := by omega
      have z3 : (l : Int) - ((min (w2 + 1) l : Nat) : Int) = ((l - min (w2 + 1) l : Nat) : Int) := by omega
      have hw1 : w1 = 1 ∨ w1 = 2 := by omega
      rcases hw1 with rfl | rfl
      · refine ⟨f ++ [.keep (min (w2 + 1) l)], l - min (w2 + 1) l, a2, b2, .val (.int ((1 : Nat) : Int)), .val (.int ((w2 + 1 : Nat) : Int)), ⟨?_, by simp, ?_, ?_⟩, rfl, rfl, ?_⟩
        · rw [span_app, show spanOf [Ed.keep (min (w2 + 1) l)] = min (w2 + 1) l from by simp [spanOf, spanE]]; omega
        · intro hf'; refine edP_app hf' ?_
          intro x hx; rcases List.mem_singleton.mp hx with rfl; show 0 < min (w2 + 1) l; omega
        · simp only [late_app, late_1, lateE]; omega
        · have z4 : ((1 : Nat) : Int) - 1 = 0 := rfl
          rw [← happ]
          simp -implicitDefEqProofs only [b__law_patch_0, seqO_nx, seqO_ret, seqO_ct, seqO_brk, getS_z, getS_s, set_z, set_s, evB_nil, evB_cons, evS_for, evE_lc, lcTurn_k, evE_c, evE_g, evE_v, takeS_k, tkK_val, tkK_own, peekS_k, pkK_val, pkK_own, pkK_io, res_val, res_slot, sdK_val, sdK_own, sdK_io, evE_bin, evE_neg, evE_cmp, evE_isN, evE_notN, evE_and, evE_or, evE_nt, evE_ite, evE_tup, evE_lst, evE_dct, evE_ix, evE_sl, evE_call, evE_callK, evE_blt, evE_isi, evE_get2, evT_tr, evT_cmp, evT_isN, evT_notN, evT_and, evT_or, evT_nt, evTo_n, evTo_s, evP_slot, evP_ex, evPs_n, evPs_c, evL_n, evL_c, evA_n, evA_e, ioK_own, ioK_io, evA_io, evO_n, evO_e, evI_seq, evI_rng1, evI_rng2, evI_enum, evI_zip, evS_asg, evS_par, evS_setIx, evS_ex, evS_mut, evS_iF, evS_ret, evS_retS, rsK_val, rsK_own, evS_retN, evS_pass, evS_ct, evS_brk, resL_n, resL_c, kAnd_b, kOr_b, kNt_b, kO_i, kR1_i, kR22_i, evR_n, evR_c, noIo_un, noIo_val, noIo_own, of_val, of_own, chgS_k, chK_own, chK_io, heldS_k, lstS_k, lsK_own, lsK_io, putV_nm, putV_tup, putP_nm, putP_ixs, putP_tup, putPs_n, putPs_c, putN_n, putN_c, retV_s, retI_s, callD_0, callD_1, callD_2, callD_3, callD_4, ciK_own, ciK_io, callD_i1, callD_i2, forL_n, avS_v, avS_i, startS_c, startS_z, startS_u, isi_s, isi_t, isi_ll, isi_lt, isi_i, isi_ib, truD_b, len_l, len_t, max_ii, min_ii, int_i, list_l, list_t, tuple_l, tuple_t, eqD_ss, eqD_ii, c_eq, c_ne, c_lt, c_le, c_gt, c_ge, b_add, b_sub, isN_n, isN_i, ixT0, ixT1, kB1, kC1, kN, kIte, kIx, kSl, kCall, kCK2, kCK, kBlt, kG2, kG1, kG, kTr, kTC1, kTAnd, kTOr, kPs, kLs, kAs, kR2, kZ2, kZ, kFor, kLT2, kLT1, kLc, kIf, kAsg, kPar, kSx2, kSx, kMut, kRs, putS_k, RV.d, Option.bind_some, Option.bind_none, Option.map_some, Option.map_none, hideS, wipeS, backS, List.map_cons, List.map_nil, List.length_cons, List.length_nil, if_true, if_false, Bool.false_eq_true, eq_self, outsOf, decide_true, decide_false, Bool.not_true, Bool.not_false, Nat.reduceAdd, Nat.reduceLT, Nat.zero_add, h2, h5, h6, e1', e2', ek, z, z2, min_n, z3, z4, kLst2, kt0, kTup2, mut_a hm, edD]
      · refine ⟨f ++ [.take (min (w2 + 1) l)], l - min (w2 + 1) l, a2, b2, .val (.int ((2 : Nat) : Int)), .val (.int ((w2 + 1 : Nat) : Int)), ⟨?_, by simp, ?_, ?_⟩, rfl, rfl, ?_⟩
        · rw [span_app, show spanOf [Ed.take (min (w2 + 1) l)] = min (w2 + 1) l from by simp [spanOf, spanE]]; omega
        · intro hf'; refine edP_app hf' ?_
          intro x hx; rcases List.mem_singleton.mp hx with rfl; show 0 < min (w2 + 1) l; omega
        · simp only [late_app, late_1, lateE]; omega
        · have z4 : ((2 : Nat) : Int) - 1 = 1 := rfl
          rw [← happ]
          simp -implicitDefEqProofs only [b__law_patch_0, seqO_nx, seqO_ret, seqO_ct, seqO_brk, getS_z, getS_s, set_z, set_s, evB_nil, evB_cons, evS_for, evE_lc, lcTurn_k, evE_c, evE_g, evE_v, takeS_k, tkK_val, tkK_own, peekS_k, pkK_val, pkK_own, pkK_io, res_val, res_slot, sdK_val, sdK_own, sdK_io, evE_bin, evE_neg, evE_cmp, evE_isN, evE_notN, evE_and, evE_or, evE_nt, evE_ite, evE_tup, evE_lst, evE_dct, evE_ix, evE_sl, evE_call, evE_callK, evE_blt, evE_isi, evE_get2, evT_tr, evT_cmp, evT_isN, evT_notN, evT_and, evT_or, evT_nt, evTo_n, evTo_s, evP_slot, evP_ex, evPs_n, evPs_c, evL_n, evL_c, evA_n, evA_e, ioK_own, ioK_io, evA_io, evO_n, evO_e, evI_seq, evI_rng1, evI_rng2, evI_enum, evI_zip, evS_asg, evS_par, evS_setIx, evS_ex, evS_mut, evS_iF, evS_ret, evS_retS, rsK_val, rsK_own, evS_retN, evS_pass, evS_ct, evS_brk, resL_n, resL_c, kAnd_b, kOr_b, kNt_b, kO_i, kR1_i, kR22_i, evR_n, evR_c, noIo_un, noIo_val, noIo_own, of_val, of_own, chgS_k, chK_own, chK_io, heldS_k, lstS_k, lsK_own, lsK_io, putV_nm, putV_tup, putP_nm, putP_ixs, putP_tup, putPs_n, putPs_c, putN_n, putN_c, retV_s, retI_s, callD_0, callD_1, callD_2, callD_3, callD_4, ciK_own, ciK_io, callD_i1, callD_i2, forL_n, avS_v, avS_i, startS_c, startS_z, startS_u, isi_s, isi_t, isi_ll, isi_lt, isi_i, isi_ib, truD_b, len_l, len_t, max_ii, min_ii, int_i, list_l, list_t, tuple_l, tuple_t, eqD_ss, eqD_ii, c_eq, c_ne, c_lt, c_le, c_gt, c_ge, b_add, b_sub, isN_n, isN_i, ixT0, ixT1, kB1, kC1, kN, kIte, kIx, kSl, kCall, kCK2, kCK, kBlt, kG2, kG1, kG, kTr, kTC1, kTAnd, kTOr, kPs, kLs, kAs, kR2, kZ2, kZ, kFor, kLT2, kLT1, kLc, kIf, kAsg, kPar, kSx2, kSx, kMut, kRs, putS_k, RV.d, Option.bind_some, Option.bind_none, Option.map_some, Option.map_none, hideS, wipeS, backS, List.map_cons, List.map_nil, List.length_cons, List.length_nil, if_true, if_false, Bool.false_eq_true, eq_self, outsOf, decide_true, decide_false, Bool.not_true, Bool.not_false, Nat.reduceAdd, Nat.reduceLT, Nat.zero_add, h2, h5, h6, e1', e2', ek, z, z2, min_n, z3, z4, kLst2, kt1, kTup2, mut_a hm, edD]
theorem loop_draw (M : SD) : ∀ (ds : List D) (f : List Ed) (l : Nat) (s2 s5 s6 : SD) (a b : Int), noIo s2 = true → noIo s5 = true → noIo s6 = true → f.length + ds.length ≤ 1000 →
    ∃ (f' : List Ed) (l' : Nat) (a' b' : Int) (t2 t5 t6 : SD), spanOf f' + l' = spanOf f + l ∧ f'.length ≤ f.length + ds.length ∧ ((∀ e ∈ f, EdP e) → ∀ e ∈ f', EdP e) ∧ lateOf f' ≤ lateOf f + 3 * ds.length ∧
      forL (.nm 2) (evB (callF T W (n+3)) W b__law_patch_0) ds [.io (potD a b), M, s2, .own (.list (f.map edD)), .val (.int (l : Nat)), s5, s6]
        = some (.nx [.io (potD a' b'), M, t2, .own (.list (f'.map edD)), .val (.int (l' : Nat)), t5, t6]) := by
  intro ds
  induction ds with
  | nil => intro f l s2 s5 s6 a b _ _ _ _; exact ⟨f, l, a, b, s2, s5, s6, rfl, by simp, fun h => h, by omega, rfl⟩
  | cons d ds ih =>
    intro f l s2 s5 s6 a b h2 h5 h6 hl
    rw [List.length_cons] at hl
    obtain ⟨f1, l1, a1, b1, t5, t6, hd, k5, k6, hs⟩ := st_draw (W := W) (n := n) M d f l s2 s5 s6 h2 h5 h6 a b (by omega)
    have q := hd.len
    obtain ⟨f2, l2, a2, b2, u2, u5, u6, g1, g2, g3, g4, g5⟩ := ih f1 l1 (.val d) t5 t6 a1 b1 rfl k5 k6 (by omega)
    have q1 := hd.sp; have q3 := hd.late
    refine ⟨f2, l2, a2, b2, u2, u5, u6, by omega, by rw [List.length_cons]; omega, fun h => g3 (hd.ed h), by rw [List.length_cons]; omega, ?_⟩
    rw [forL_nx hs, g5]
theorem e_law_patch (a b : Int) (m : Nat) (hm : m ≤ 500) : ∃ (p : List Ed) (a' b' : Int), spanOf p = m ∧ (∀ e ∈ p, EdP e) ∧ p.length ≤ 10 ∧ lateOf p ≤ 27 + m ∧
    callF T W (n+4) 24 [.io (potD a b), .val (.int (m : Nat))] = some (.val (paD p), [potD a' b']) := by
  obtain ⟨f, l, a1, b1, t2, t5, t6, g1, g2, g3, g4, g5⟩ := loop_draw (W := W) (n := n) (.val (.int (m : Nat))) (rangeD 0 9) [] m .un .un .un a b rfl rfl rfl (by decide)
  have g0 := g3 (by (intro e he; cases he))
  have r9 : (rangeD 0 9).length = 9 := rfl
  rw [r9] at g2 g4
  simp only [spanOf, lateOf, List.map_nil, List.sum_nil, List.length_nil, Nat.zero_add] at g1 g2 g4
  have n9 : (9 : Int).toNat = 9 := rfl
  have c9 : ((9 : Int) ≤ 16777216 ∧ -(2 ^ 62) ≤ (9 : Int)) = True := by simp only [eq_iff_iff, iff_true]; decide
  rcases Nat.eq_zero_or_pos l with rfl | hl
  · refine ⟨f, a1, b1, by simpa [spanOf] using g1, g0, by omega, by simp only [lateOf]; omega, ?_⟩
    have z2 : ¬ (0 : Int) < ((0 : Nat) : Int) := by decide
    have hz : (f.map edD).length + ([] : List D).length ≤ sizeLine := by rw [List.length_map]; exact sz1 (by simp only [List.length_nil]; omega)
    rw [run_24, run_eq rfl rfl]
    simp only [List.map_nil] at g5
    simp -implicitDefEqProofs only [d__law_patch, seqO_nx, seqO_ret, seqO_ct, seqO_brk, getS_z, getS_s, set_z, set_s, evB_nil, evB_cons, evS_for, evE_lc, lcTurn_k, evE_c, evE_g, evE_v, takeS_k, tkK_val, tkK_own, peekS_k, pkK_val, pkK_own, pkK_io, res_val, res_slot, sdK_val, sdK_own, sdK_io, evE_bin, evE_neg, evE_cmp, evE_isN, evE_notN, evE_and, evE_or, evE_nt, evE_ite, evE_tup, evE_lst, evE_dct, evE_ix, evE_sl, evE_call, evE_callK, evE_blt, evE_isi, evE_get2, evT_tr, evT_cmp, evT_isN, evT_notN, evT_and, evT_or, evT_nt, evTo_n, evTo_s, evP_slot, evP_ex, evPs_n, evPs_c, evL_n, evL_c, evA_n, evA_e, ioK_own, ioK_io, evA_io, evO_n, evO_e, evI_seq, evI_rng1, evI_rng2, evI_enum, evI_zip, evS_asg, evS_par, evS_setIx, evS_ex, evS_mut, evS_iF, evS_ret, evS_retS, rsK_val, rsK_own, evS_retN, evS_pass, evS_ct, evS_brk, resL_n, resL_c, kAnd_b, kOr_b, kNt_b, kO_i, kR1_i, kR22_i, evR_n, evR_c, noIo_un, noIo_val, noIo_own, of_val, of_own, chgS_k, chK_own, chK_io, heldS_k, lstS_k, lsK_own, lsK_io, putV_nm, putV_tup, putP_nm, putP_ixs, putP_tup, putPs_n, putPs_c, putN_n, putN_c, retV_s, retI_s, callD_0, callD_1, callD_2, callD_3, callD_4, ciK_own, ciK_io, callD_i1, callD_i2, forL_n, avS_v, avS_i, startS_c, startS_z, startS_u, isi_s, isi_t, isi_ll, isi_lt, isi_i, isi_ib, truD_b, len_l, len_t, max_ii, min_ii, int_i, list_l, list_t, tuple_l, tuple_t, eqD_ss, eqD_ii, c_eq, c_ne, c_lt, c_le, c_gt, c_ge, b_add, b_sub, isN_n, isN_i, ixT0, ixT1, kB1, kC1, kN, kIte, kIx, kSl, kCall, kCK2, kCK, kBlt, kG2, kG1, kG, kTr, kTC1, kTAnd, kTOr, kPs, kLs, kAs, kR2, kZ2, kZ, kFor, kLT2, kLT1, kLc, kIf, kAsg, kPar, kSx2, kSx, kMut, kRs, putS_k, RV.d, Option.bind_some, Option.bind_none, Option.map_some, Option.map_none, hideS, wipeS, backS, List.map_cons, List.map_nil, List.length_cons, List.length_nil, if_true, if_false, Bool.false_eq_true, eq_self, outsOf, decide_true, decide_false, Bool.not_true, Bool.not_false, Nat.reduceAdd, Nat.reduceLT, Nat.zero_add, kLst0, c9, n9, g5, z2, b_addl hz, List.append_nil, paD]
  · have hpk : ∃ (e : Ed) (a' b' : Int) (x : Str), edD e = .tuple [.str x, .int (l : Nat)] ∧ spanE e = l ∧ EdP e ∧ lateE e ≤ l ∧ callF T W (n+3) 22 [.io (potD a1 b1), .val (.list [.str "keep", .str "take"])] = some (.val (.str x), [potD a' b']) := by
      obtain ⟨s, a', b', hs, he⟩ := e_pick (W := W) (n := n+1) a1 b1 [Str.ofString "keep", Str.ofString "take"] (by simp) (by simp)
      have he' : callF T W (n+3) 22 [.io (potD a1 b1), .val (.list [.str "keep", .str "take"])] = some (.val (.str s), [potD a' b']) := he
      rcases List.mem_cons.mp hs with rfl | hs
      · exact ⟨.keep l, a', b', _, rfl, rfl, hl, Nat.le_refl _, he'⟩
      · rcases List.mem_singleton.mp hs with rfl
        exact ⟨.take l, a', b', _, rfl, rfl, hl, Nat.zero_le _, he'⟩
    obtain ⟨e, a2, b2, x, x1, x2, x3, x4, x5⟩ := hpk
    refine ⟨f ++ [e], a2, b2, ?_, edP_app g0 (by intro y hy; rcases List.mem_singleton.mp hy with rfl; exact x3), by rw [List.length_append]; simp only [List.length_cons, List.length_nil]; omega, ?_, ?_⟩
    · simp only [span_app, span_c, x2]; simp only [spanOf, List.map_nil, List.sum_nil] at g1 ⊢; omega
    · simp only [late_app, late_1]; simp only [lateOf] at g4 ⊢; omega
    · have z2 : (0 : Int) < (l : Nat) := by omega
      have hz : (f.map edD).length + [edD e].length ≤ sizeLine := by rw [List.length_map]; exact sz1 (by simp only [List.length_cons, List.length_nil]; omega)
      rw [run_24, run_eq rfl rfl]
      simp only [List.map_nil] at g5
      rw [x1] at hz
      simp -implicitDefEqProofs only [d__law_patch, seqO_nx, seqO_ret, seqO_ct, seqO_brk, getS_z, getS_s, set_z, set_s, evB_nil, evB_cons, evS_for, evE_lc, lcTurn_k, evE_c, evE_g, evE_v, takeS_k, tkK_val, tkK_own, peekS_k, pkK_val, pkK_own, pkK_io, res_val, res_slot, sdK_val, sdK_own, sdK_io, evE_bin, evE_neg, evE_cmp, evE_isN, evE_notN, evE_and, evE_or, evE_nt, evE_ite, evE_tup, evE_lst, evE_dct, evE_ix, evE_sl, evE_call, evE_callK, evE_blt, evE_isi, evE_get2, evT_tr, evT_cmp, evT_isN, evT_notN, evT_and, evT_or, evT_nt, evTo_n, evTo_s, evP_slot, evP_ex, evPs_n, evPs_c, evL_n, evL_c, evA_n, evA_e, ioK_own, ioK_io, evA_io, evO_n, evO_e, evI_seq, evI_rng1, evI_rng2, evI_enum, evI_zip, evS_asg, evS_par, evS_setIx, evS_ex, evS_mut, evS_iF, evS_ret, evS_retS, rsK_val, rsK_own, evS_retN, evS_pass, evS_ct, evS_brk, resL_n, resL_c, kAnd_b, kOr_b, kNt_b, kO_i, kR1_i, kR22_i, evR_n, evR_c, noIo_un, noIo_val, noIo_own, of_val, of_own, chgS_k, chK_own, chK_io, heldS_k, lstS_k, lsK_own, lsK_io, putV_nm, putV_tup, putP_nm, putP_ixs, putP_tup, putPs_n, putPs_c, putN_n, putN_c, retV_s, retI_s, callD_0, callD_1, callD_2, callD_3, callD_4, ciK_own, ciK_io, callD_i1, callD_i2, forL_n, avS_v, avS_i, startS_c, startS_z, startS_u, isi_s, isi_t, isi_ll, isi_lt, isi_i, isi_ib, truD_b, len_l, len_t, max_ii, min_ii, int_i, list_l, list_t, tuple_l, tuple_t, eqD_ss, eqD_ii, c_eq, c_ne, c_lt, c_le, c_gt, c_ge, b_add, b_sub, isN_n, isN_i, ixT0, ixT1, kB1, kC1, kN, kIte, kIx, kSl, kCall, kCK2, kCK, kBlt, kG2, kG1, kG, kTr, kTC1, kTAnd, kTOr, kPs, kLs, kAs, kR2, kZ2, kZ, kFor, kLT2, kLT1, kLc, kIf, kAsg, kPar, kSx2, kSx, kMut, kRs, putS_k, RV.d, Option.bind_some, Option.bind_none, Option.map_some, Option.map_none, hideS, wipeS, backS, List.map_cons, List.map_nil, List.length_cons, List.length_nil, if_true, if_false, Bool.false_eq_true, eq_self, outsOf, decide_true, decide_false, Bool.not_true, Bool.not_false, Nat.reduceAdd, Nat.reduceLT, Nat.zero_add, kLst0, kLst1, kLst2, kTup2, c9, n9, g5, z2, x5, b_addl hz, paD, List.map_append, x1]
end K82

/-! V9: the law's check of one pot. -/
namespace K82
open PySem PySem.Spec PyProof.Rows L2 PL
variable {W n : Nat}
/-! ### what is shown is small -/
structure RP' (d : D) : Prop where
  pl : plainD d = true
  de : PyData.depth d ≤ 10
  bu : PyData.bulk d ≤ 20000
theorem plain_sD : ∀ {ls : List Str}, (∀ s ∈ ls, LnOk s) → plainL (sD ls) = true
  | [], _ => rfl
  | s :: r, h => by
    have h1 := (h s List.mem_cons_self).2
    have h2 := plain_sD (ls := r) fun x hx => h x (List.mem_cons_of_mem _ hx)
    simp only [sD, List.map_cons, plainL, plainD, h1, Bool.true_and]; exact h2
theorem bulk_sD : ∀ {ls : List Str}, (∀ s ∈ ls, LnOk s) → PyData.bulkAll (sD ls) ≤ 11 * ls.length
  | [], _ => by simp [sD, PyData.bulkAll]
  | s :: r, h => by
    have h1 := (h s List.mem_cons_self).1
    have h2 := bulk_sD (ls := r) fun x hx => h x (List.mem_cons_of_mem _ hx)
    have h3 : s.cps.size ≤ 10 := h1
    simp only [sD, List.map_cons, PyData.bulkAll, PyData.bulk, List.length_cons] at h2 ⊢; omega
theorem int_small {k : Nat} (h : k ≤ 1000) : plainD (.int (k : Nat)) = true := by
  simp only [plainD, decide_eq_true_eq, Int.natAbs_natCast]; exact Nat.lt_of_le_of_lt h (by decide)
theorem plain_ed {e : Ed} (h : EdOk e) : plainD (edD e) = true := by
  have k1 : plainD (.str "put") = true := by decide +kernel
  have k2 : plainD (.str "keep") = true := by decide +kernel
  have k3 : plainD (.str "take") = true := by decide +kernel
  cases e with
  | put ls =>
    have := plain_sD h.2.2
    simp only [edD, plainD, plainL, Bool.and_true] at k1 ⊢; rw [k1, this]; rfl
  | keep k =>
    have := int_small h.2
    simp only [edD, plainD, plainL, Bool.and_true] at k2 this ⊢; rw [k2, this]; rfl
  | take k =>
    have := int_small h.2
    simp only [edD, plainD, plainL, Bool.and_true] at k3 this ⊢; rw [k3, this]; rfl
theorem bulk_ed {e : Ed} (h : EdOk e) : PyData.bulk (edD e) ≤ 8 + 11 * lateE e := by
  have k1 : (Str.ofString "put").cps.size = 3 := by decide +kernel
  have k2 : (Str.ofString "keep").cps.size = 4 := by decide +kernel
  have k3 : (Str.ofString "take").cps.size = 4 := by decide +kernel
  cases e with
  | put ls =>
    have := bulk_sD h.2.2
    simp only [edD, PyData.bulk, PyData.bulkAll, lateE, k1]; omega
  | keep k => simp only [edD, PyData.bulk, PyData.bulkAll, lateE, k2]; omega
  | take k => simp only [edD, PyData.bulk, PyData.bulkAll, lateE, k3]; omega
theorem plain_eds : ∀ {p : List Ed}, (∀ e ∈ p, EdOk e) → plainL (p.map edD) = true
  | [], _ => rfl
  | e :: r, h => by
    have h1 := plain_ed (h e List.mem_cons_self)
    have h2 := plain_eds (p := r) fun x hx => h x (List.mem_cons_of_mem _ hx)
    simp only [List.map_cons, plainL, h1, Bool.true_and]; exact h2
theorem bulk_eds : ∀ {p : List Ed}, (∀ e ∈ p, EdOk e) → PyData.bulkAll (p.map edD) ≤ 9 * p.length + 11 * lateOf p
  | [], _ => by simp [PyData.bulkAll]
  | e :: r, h => by
    have h1 := bulk_ed (h e List.mem_cons_self)
    have h2 := bulk_eds (p := r) fun x hx => h x (List.mem_cons_of_mem _ hx)
    rw [late_c]
    simp only [List.map_cons, PyData.bulkAll, List.length_cons]; omega
theorem rp_pa {p : List Ed} (h : PaOk p) : RP' (paD p) := by
  obtain ⟨h1, h2, h3⟩ := h
  have := bulk_eds h2
  have d := depth_eds (f := p)
  exact ⟨by simp only [paD, plainD]; exact plain_eds h2, by simp only [paD, PyData.depth]; omega, by simp only [paD, PyData.bulk]; omega⟩
theorem rp_ln {ls : List Str} (h : ls.length ≤ 200) (hl : ∀ s ∈ ls, LnOk s) : RP' (.list (sD ls)) := by
  have := bulk_sD hl
  have d := depth_sD (ls := ls)
  exact ⟨by simp only [plainD]; exact plain_sD hl, by simp only [PyData.depth]; omega, by simp only [PyData.bulk]; omega⟩
theorem rp_int {k : Nat} (h : k ≤ 1000) : RP' (.int (k : Nat)) := ⟨int_small h, by simp [PyData.depth], by simp [PyData.bulk]⟩
theorem rp_true : RP' (.bool true) := ⟨rfl, by decide, by decide⟩
theorem rp2 {a b : D} (ha : RP' a) (hb : RP' b) : reprOk (.list [a, b]) = true := by
  have h1 := ha.de; have h2 := hb.de; have h3 := ha.bu; have h4 := hb.bu
  have z1 : max (PyData.depth a) (max (PyData.depth b) 0) + 1 ≤ 64 := by omega
  have z2 : PyData.bulk a + 1 + (PyData.bulk b + 1 + 0) ≤ 250000 := by omega
  simp only [reprOk, plainD, plainL, ha.pl, hb.pl, PyData.depth, PyData.depthAll, PyData.bulk, PyData.bulkAll, z1, z2, decide_true, Bool.and_self]
theorem rp4 {a b c d : D} (ha : RP' a) (hb : RP' b) (hc : RP' c) (hd : RP' d) : reprOk (.list [a, b, c, d]) = true := by
  have h1 := ha.de; have h2 := hb.de; have h3 := ha.bu; have h4 := hb.bu
  have h5 := hc.de; have h6 := hd.de; have h7 := hc.bu; have h8 := hd.bu
  have z1 : max (PyData.depth a) (max (PyData.depth b) (max (PyData.depth c) (max (PyData.depth d) 0))) + 1 ≤ 64 := by omega
  have z2 : PyData.bulk a + 1 + (PyData.bulk b + 1 + (PyData.bulk c + 1 + (PyData.bulk d + 1 + 0))) ≤ 250000 := by omega
  simp only [reprOk, plainD, plainL, ha.pl, hb.pl, hc.pl, hd.pl, PyData.depth, PyData.depthAll, PyData.bulk, PyData.bulkAll, z1, z2, decide_true, Bool.and_self]
/-! ### the parts of a turn -/
def stR (k : Nat) : RS := b__law_right_0.getD k .pass
theorem body_eq : b__law_right_0 = [stR 0, stR 1, stR 2, stR 3, stR 4, stR 5, stR 6, stR 7, stR 8, stR 9, stR 10, stR 11, stR 12, stR 13, stR 14, stR 15] := rfl
theorem perm2 {a b : PA'} : permute [a, b] [1, 0] = some [b, a] := rfl
theorem perm3 {a b c : PA'} : permute [a, b, c] [2, 1, 0] = some [c, b, a] := rfl
theorem gd_z {a : RS} {l : List RS} {d : RS} : (a :: l).getD 0 d = a := rfl
theorem gd_s {a : RS} {l : List RS} {d : RS} {k : Nat} : (a :: l).getD (k + 1) d = l.getD k d := by simp
theorem beqS {s : Str} : (s == s) = true := by simp
section
variable {s0 s1 s2 s3 s4 s5 s6 s7 s8 s9 s10 s11 s12 : SD} {Φ : Fn}
theorem r_lines (t : List En) : compE Φ (.v 13) (.tup [(.nm 13), (.nm 14)]) none [13, 14] (trD t) [s0, s1, s2, s3, s4, s5, s6, s7, s8, s9, s10, s11, s12, .un, .un, .un, .un] = some (.own (.list (sD (linesT t))), [s0, s1, s2, s3, s4, s5, s6, s7, s8, s9, s10, s11, s12, .un, .un, .un, .un]) := by
  have hh := lc_map (Φ := Φ) (elt := .v 13) (tg := .tup [.nm 13, .nm 14]) (ifs := none) (vs := [13, 14]) (ρ1 := [s0, s1, s2, s3, s4, s5, s6, s7, s8, s9, s10, s11, s12, .un, .un, .un, .un]) enD (fun e => .str e.1) t (by
    intro e he
    simp -implicitDefEqProofs only [enD, seqO_nx, seqO_ret, seqO_ct, seqO_brk, getS_z, getS_s, set_z, set_s, evB_nil, evB_cons, evS_for, evE_lc, lcTurn_k, evE_c, evE_g, evE_v, takeS_k, tkK_val, tkK_own, peekS_k, pkK_val, pkK_own, pkK_io, res_val, res_slot, sdK_val, sdK_own, sdK_io, evE_bin, evE_neg, evE_cmp, evE_isN, evE_notN, evE_and, evE_or, evE_nt, evE_ite, evE_tup, evE_lst, evE_dct, evE_ix, evE_sl, evE_call, evE_callK, evE_blt, evE_isi, evE_get2, evT_tr, evT_cmp, evT_isN, evT_notN, evT_and, evT_or, evT_nt, evTo_n, evTo_s, evP_slot, evP_ex, evPs_n, evPs_c, evL_n, evL_c, evA_n, evA_e, ioK_own, ioK_io, evA_io, evO_n, evO_e, evI_seq, evI_rng1, evI_rng2, evI_enum, evI_zip, evS_asg, evS_par, evS_setIx, evS_ex, evS_mut, evS_iF, evS_ret, evS_retS, rsK_val, rsK_own, evS_retN, evS_pass, evS_ct, evS_brk, resL_n, resL_c, kAnd_b, kOr_b, kNt_b, kO_i, kR1_i, kR22_i, evR_n, evR_c, noIo_un, noIo_val, noIo_own, of_val, of_own, chgS_k, chK_own, chK_io, heldS_k, lstS_k, lsK_own, lsK_io, putV_nm, putV_tup, putP_nm, putP_ixs, putP_tup, putPs_n, putPs_c, putN_n, putN_c, retV_s, retI_s, callD_0, callD_1, callD_2, callD_3, callD_4, ciK_own, ciK_io, callD_i1, callD_i2, forL_n, avS_v, avS_i, startS_c, startS_z, startS_u, isi_s, isi_t, isi_ll, isi_lt, isi_i, isi_ib, truD_b, len_l, len_t, max_ii, min_ii, int_i, list_l, list_t, tuple_l, tuple_t, eqD_ss, eqD_ii, c_eq, c_ne, c_lt, c_le, c_gt, c_ge, b_add, b_sub, isN_n, isN_i, ixT0, ixT1, kB1, kC1, kN, kIte, kIx, kSl, kCall, kCK2, kCK, kBlt, kG2, kG1, kG, kTr, kTC1, kTAnd, kTOr, kPs, kLs, kAs, kR2, kZ2, kZ, kFor, kLT2, kLT1, kLc, kIf, kAsg, kPar, kSx2, kSx, kMut, kRs, putS_k, RV.d, Option.bind_some, Option.bind_none, Option.map_some, Option.map_none, hideS, wipeS, backS, List.map_cons, List.map_nil, List.length_cons, List.length_nil, if_true, if_false, Bool.false_eq_true, eq_self, outsOf, decide_true, decide_false, Bool.not_true, Bool.not_false, Nat.reduceAdd, Nat.reduceLT, Nat.zero_add])
  simp only [sD, linesT, List.map_map]; exact hh
theorem r_dict (t : List En) : compE Φ (.tup [(.v 14), (.v 15)]) (.tup [(.nm 15), (.tup [(.nm 13), (.nm 14)])]) (some (.notN (.slot 14))) [15, 13, 14] (enumD 0 (trD t)) [s0, s1, s2, s3, s4, s5, s6, s7, s8, s9, s10, s11, s12, .un, .un, .un, .un]
    = some (.own (.list ((prsT t 0).map fun q => .tuple [.int (q.1 : Nat), .int (q.2 : Nat)])), [s0, s1, s2, s3, s4, s5, s6, s7, s8, s9, s10, s11, s12, .un, .un, .un, .un]) := by
  rw [trD, enumD_eq, ← prs_map]
  apply lc_fm
  intro x hx
  obtain ⟨⟨s, o⟩, i⟩ := x
  cases o <;> simp -implicitDefEqProofs only [enD, opD, seqO_nx, seqO_ret, seqO_ct, seqO_brk, getS_z, getS_s, set_z, set_s, evB_nil, evB_cons, evS_for, evE_lc, lcTurn_k, evE_c, evE_g, evE_v, takeS_k, tkK_val, tkK_own, peekS_k, pkK_val, pkK_own, pkK_io, res_val, res_slot, sdK_val, sdK_own, sdK_io, evE_bin, evE_neg, evE_cmp, evE_isN, evE_notN, evE_and, evE_or, evE_nt, evE_ite, evE_tup, evE_lst, evE_dct, evE_ix, evE_sl, evE_call, evE_callK, evE_blt, evE_isi, evE_get2, evT_tr, evT_cmp, evT_isN, evT_notN, evT_and, evT_or, evT_nt, evTo_n, evTo_s, evP_slot, evP_ex, evPs_n, evPs_c, evL_n, evL_c, evA_n, evA_e, ioK_own, ioK_io, evA_io, evO_n, evO_e, evI_seq, evI_rng1, evI_rng2, evI_enum, evI_zip, evS_asg, evS_par, evS_setIx, evS_ex, evS_mut, evS_iF, evS_ret, evS_retS, rsK_val, rsK_own, evS_retN, evS_pass, evS_ct, evS_brk, resL_n, resL_c, kAnd_b, kOr_b, kNt_b, kO_i, kR1_i, kR22_i, evR_n, evR_c, noIo_un, noIo_val, noIo_own, of_val, of_own, chgS_k, chK_own, chK_io, heldS_k, lstS_k, lsK_own, lsK_io, putV_nm, putV_tup, putP_nm, putP_ixs, putP_tup, putPs_n, putPs_c, putN_n, putN_c, retV_s, retI_s, callD_0, callD_1, callD_2, callD_3, callD_4, ciK_own, ciK_io, callD_i1, callD_i2, forL_n, avS_v, avS_i, startS_c, startS_z, startS_u, isi_s, isi_t, isi_ll, isi_lt, isi_i, isi_ib, truD_b, len_l, len_t, max_ii, min_ii, int_i, list_l, list_t, tuple_l, tuple_t, eqD_ss, eqD_ii, c_eq, c_ne, c_lt, c_le, c_gt, c_ge, b_add, b_sub, isN_n, isN_i, ixT0, ixT1, kB1, kC1, kN, kIte, kIx, kSl, kCall, kCK2, kCK, kBlt, kG2, kG1, kG, kTr, kTC1, kTAnd, kTOr, kPs, kLs, kAs, kR2, kZ2, kZ, kFor, kLT2, kLT1, kLc, kIf, kAsg, kPar, kSx2, kSx, kMut, kRs, putS_k, RV.d, Option.bind_some, Option.bind_none, Option.map_some, Option.map_none, hideS, wipeS, backS, List.map_cons, List.map_nil, List.length_cons, List.length_nil, if_true, if_false, Bool.false_eq_true, eq_self, outsOf, decide_true, decide_false, Bool.not_true, Bool.not_false, Nat.reduceAdd, Nat.reduceLT, Nat.zero_add, kTup2]
theorem r_about (L : List Str) (t : List En) : compE Φ (.tup [(.v 13), (.get2 (.slot 6) (.v 16) (.c .none))]) (.tup [(.nm 16), (.nm 13)]) none [16, 13] (enumD 0 (sD L)) [s0, s1, s2, s3, s4, s5, .own (.dict (kvD (dicM t))), s7, s8, s9, s10, s11, s12, .un, .un, .un, .un]
    = some (.own (.list (trD (aboutT L t))), [s0, s1, s2, s3, s4, s5, .own (.dict (kvD (dicM t))), s7, s8, s9, s10, s11, s12, .un, .un, .un, .un]) := by
  have hh := lc_map (Φ := Φ) (elt := .tup [(.v 13), (.get2 (.slot 6) (.v 16) (.c .none))]) (tg := .tup [(.nm 16), (.nm 13)]) (ifs := none) (vs := [16, 13]) (ρ1 := [s0, s1, s2, s3, s4, s5, .own (.dict (kvD (dicM t))), s7, s8, s9, s10, s11, s12, .un, .un, .un, .un])
    (fun p : Str × Nat => .tuple [.int (p.2 : Nat), .str p.1]) (fun p => enD (p.1, getM (dicM t) p.2)) (L.zipIdx 0) (by
    intro e he
    simp -implicitDefEqProofs only [enD, seqO_nx, seqO_ret, seqO_ct, seqO_brk, getS_z, getS_s, set_z, set_s, evB_nil, evB_cons, evS_for, evE_lc, lcTurn_k, evE_c, evE_g, evE_v, takeS_k, tkK_val, tkK_own, peekS_k, pkK_val, pkK_own, pkK_io, res_val, res_slot, sdK_val, sdK_own, sdK_io, evE_bin, evE_neg, evE_cmp, evE_isN, evE_notN, evE_and, evE_or, evE_nt, evE_ite, evE_tup, evE_lst, evE_dct, evE_ix, evE_sl, evE_call, evE_callK, evE_blt, evE_isi, evE_get2, evT_tr, evT_cmp, evT_isN, evT_notN, evT_and, evT_or, evT_nt, evTo_n, evTo_s, evP_slot, evP_ex, evPs_n, evPs_c, evL_n, evL_c, evA_n, evA_e, ioK_own, ioK_io, evA_io, evO_n, evO_e, evI_seq, evI_rng1, evI_rng2, evI_enum, evI_zip, evS_asg, evS_par, evS_setIx, evS_ex, evS_mut, evS_iF, evS_ret, evS_retS, rsK_val, rsK_own, evS_retN, evS_pass, evS_ct, evS_brk, resL_n, resL_c, kAnd_b, kOr_b, kNt_b, kO_i, kR1_i, kR22_i, evR_n, evR_c, noIo_un, noIo_val, noIo_own, of_val, of_own, chgS_k, chK_own, chK_io, heldS_k, lstS_k, lsK_own, lsK_io, putV_nm, putV_tup, putP_nm, putP_ixs, putP_tup, putPs_n, putPs_c, putN_n, putN_c, retV_s, retI_s, callD_0, callD_1, callD_2, callD_3, callD_4, ciK_own, ciK_io, callD_i1, callD_i2, forL_n, avS_v, avS_i, startS_c, startS_z, startS_u, isi_s, isi_t, isi_ll, isi_lt, isi_i, isi_ib, truD_b, len_l, len_t, max_ii, min_ii, int_i, list_l, list_t, tuple_l, tuple_t, eqD_ss, eqD_ii, c_eq, c_ne, c_lt, c_le, c_gt, c_ge, b_add, b_sub, isN_n, isN_i, ixT0, ixT1, kB1, kC1, kN, kIte, kIx, kSl, kCall, kCK2, kCK, kBlt, kG2, kG1, kG, kTr, kTC1, kTAnd, kTOr, kPs, kLs, kAs, kR2, kZ2, kZ, kFor, kLT2, kLT1, kLc, kIf, kAsg, kPar, kSx2, kSx, kMut, kRs, putS_k, RV.d, Option.bind_some, Option.bind_none, Option.map_some, Option.map_none, hideS, wipeS, backS, List.map_cons, List.map_nil, List.length_cons, List.length_nil, if_true, if_false, Bool.false_eq_true, eq_self, outsOf, decide_true, decide_false, Bool.not_true, Bool.not_false, Nat.reduceAdd, Nat.reduceLT, Nat.zero_add, isDic, Option.getD_some, keyI, opD_get, kTup2])
  have e1 : enumD 0 (sD L) = (L.zipIdx 0).map fun p => .tuple [.int (p.2 : Nat), .str p.1] := enumD_eq (fun s : Str => .str s) L 0
  rw [e1, hh]; simp only [trD, aboutT, List.map_map]; rfl
theorem r_both (t t2 : List En) (hb : Bel t.length t2) : compE Φ (.tup [(.v 13), (.ite (.isN (.slot 15)) (.c .none) (.ix (.ex (.ix (.slot 11) (.v 15))) (.c (.int 1))))]) (.tup [(.nm 13), (.nm 15)]) none [13, 15] (trD t2) [s0, s1, s2, s3, s4, s5, s6, s7, s8, s9, s10, .val (.list (trD t)), s12, .un, .un, .un, .un]
    = some (.own (.list (trD (bothT t t2))), [s0, s1, s2, s3, s4, s5, s6, s7, s8, s9, s10, .val (.list (trD t)), s12, .un, .un, .un, .un]) := by
  have hh := lc_map (Φ := Φ) (elt := .tup [(.v 13), (.ite (.isN (.slot 15)) (.c .none) (.ix (.ex (.ix (.slot 11) (.v 15))) (.c (.int 1))))]) (tg := .tup [(.nm 13), (.nm 15)]) (ifs := none) (vs := [13, 15]) (ρ1 := [s0, s1, s2, s3, s4, s5, s6, s7, s8, s9, s10, .val (.list (trD t)), s12, .un, .un, .un, .un]) enD
    (fun e => enD (e.1, e.2.bind fun to => (t.getD to default).2)) t2 (by
    intro e he
    obtain ⟨s, o⟩ := e
    cases o with
    | none => simp -implicitDefEqProofs only [enD, opD, Option.bind_none, seqO_nx, seqO_ret, seqO_ct, seqO_brk, getS_z, getS_s, set_z, set_s, evB_nil, evB_cons, evS_for, evE_lc, lcTurn_k, evE_c, evE_g, evE_v, takeS_k, tkK_val, tkK_own, peekS_k, pkK_val, pkK_own, pkK_io, res_val, res_slot, sdK_val, sdK_own, sdK_io, evE_bin, evE_neg, evE_cmp, evE_isN, evE_notN, evE_and, evE_or, evE_nt, evE_ite, evE_tup, evE_lst, evE_dct, evE_ix, evE_sl, evE_call, evE_callK, evE_blt, evE_isi, evE_get2, evT_tr, evT_cmp, evT_isN, evT_notN, evT_and, evT_or, evT_nt, evTo_n, evTo_s, evP_slot, evP_ex, evPs_n, evPs_c, evL_n, evL_c, evA_n, evA_e, ioK_own, ioK_io, evA_io, evO_n, evO_e, evI_seq, evI_rng1, evI_rng2, evI_enum, evI_zip, evS_asg, evS_par, evS_setIx, evS_ex, evS_mut, evS_iF, evS_ret, evS_retS, rsK_val, rsK_own, evS_retN, evS_pass, evS_ct, evS_brk, resL_n, resL_c, kAnd_b, kOr_b, kNt_b, kO_i, kR1_i, kR22_i, evR_n, evR_c, noIo_un, noIo_val, noIo_own, of_val, of_own, chgS_k, chK_own, chK_io, heldS_k, lstS_k, lsK_own, lsK_io, putV_nm, putV_tup, putP_nm, putP_ixs, putP_tup, putPs_n, putPs_c, putN_n, putN_c, retV_s, retI_s, callD_0, callD_1, callD_2, callD_3, callD_4, ciK_own, ciK_io, callD_i1, callD_i2, forL_n, avS_v, avS_i, startS_c, startS_z, startS_u, isi_s, isi_t, isi_ll, isi_lt, isi_i, isi_ib, truD_b, len_l, len_t, max_ii, min_ii, int_i, list_l, list_t, tuple_l, tuple_t, eqD_ss, eqD_ii, c_eq, c_ne, c_lt, c_le, c_gt, c_ge, b_add, b_sub, isN_n, isN_i, ixT0, ixT1, kB1, kC1, kN, kIte, kIx, kSl, kCall, kCK2, kCK, kBlt, kG2, kG1, kG, kTr, kTC1, kTAnd, kTOr, kPs, kLs, kAs, kR2, kZ2, kZ, kFor, kLT2, kLT1, kLc, kIf, kAsg, kPar, kSx2, kSx, kMut, kRs, putS_k, RV.d, Option.bind_some, Option.bind_none, Option.map_some, Option.map_none, hideS, wipeS, backS, List.map_cons, List.map_nil, List.length_cons, List.length_nil, if_true, if_false, Bool.false_eq_true, eq_self, outsOf, decide_true, decide_false, Bool.not_true, Bool.not_false, Nat.reduceAdd, Nat.reduceLT, Nat.zero_add, kTup2]
    | some to =>
      have hlt : to < t.length := hb _ he to rfl
      have hx : ixD (.list (trD t)) (.int (to : Nat)) = some (enD (t.getD to default)) := by
        apply ixLn; simp [trD, hlt]
      simp -implicitDefEqProofs only [enD, opD, Option.bind_some, seqO_nx, seqO_ret, seqO_ct, seqO_brk, getS_z, getS_s, set_z, set_s, evB_nil, evB_cons, evS_for, evE_lc, lcTurn_k, evE_c, evE_g, evE_v, takeS_k, tkK_val, tkK_own, peekS_k, pkK_val, pkK_own, pkK_io, res_val, res_slot, sdK_val, sdK_own, sdK_io, evE_bin, evE_neg, evE_cmp, evE_isN, evE_notN, evE_and, evE_or, evE_nt, evE_ite, evE_tup, evE_lst, evE_dct, evE_ix, evE_sl, evE_call, evE_callK, evE_blt, evE_isi, evE_get2, evT_tr, evT_cmp, evT_isN, evT_notN, evT_and, evT_or, evT_nt, evTo_n, evTo_s, evP_slot, evP_ex, evPs_n, evPs_c, evL_n, evL_c, evA_n, evA_e, ioK_own, ioK_io, evA_io, evO_n, evO_e, evI_seq, evI_rng1, evI_rng2, evI_enum, evI_zip, evS_asg, evS_par, evS_setIx, evS_ex, evS_mut, evS_iF, evS_ret, evS_retS, rsK_val, rsK_own, evS_retN, evS_pass, evS_ct, evS_brk, resL_n, resL_c, kAnd_b, kOr_b, kNt_b, kO_i, kR1_i, kR22_i, evR_n, evR_c, noIo_un, noIo_val, noIo_own, of_val, of_own, chgS_k, chK_own, chK_io, heldS_k, lstS_k, lsK_own, lsK_io, putV_nm, putV_tup, putP_nm, putP_ixs, putP_tup, putPs_n, putPs_c, putN_n, putN_c, retV_s, retI_s, callD_0, callD_1, callD_2, callD_3, callD_4, ciK_own, ciK_io, callD_i1, callD_i2, forL_n, avS_v, avS_i, startS_c, startS_z, startS_u, isi_s, isi_t, isi_ll, isi_lt, isi_i, isi_ib, truD_b, len_l, len_t, max_ii, min_ii, int_i, list_l, list_t, tuple_l, tuple_t, eqD_ss, eqD_ii, c_eq, c_ne, c_lt, c_le, c_gt, c_ge, b_add, b_sub, isN_n, isN_i, ixT0, ixT1, kB1, kC1, kN, kIte, kIx, kSl, kCall, kCK2, kCK, kBlt, kG2, kG1, kG, kTr, kTC1, kTAnd, kTOr, kPs, kLs, kAs, kR2, kZ2, kZ, kFor, kLT2, kLT1, kLc, kIf, kAsg, kPar, kSx2, kSx, kMut, kRs, putS_k, RV.d, Option.bind_some, Option.bind_none, Option.map_some, Option.map_none, hideS, wipeS, backS, List.map_cons, List.map_nil, List.length_cons, List.length_nil, if_true, if_false, Bool.false_eq_true, eq_self, outsOf, decide_true, decide_false, Bool.not_true, Bool.not_false, Nat.reduceAdd, Nat.reduceLT, Nat.zero_add, kTup2] at hx ⊢
      simp -implicitDefEqProofs only [hx, seqO_nx, seqO_ret, seqO_ct, seqO_brk, getS_z, getS_s, set_z, set_s, evB_nil, evB_cons, evS_for, evE_lc, lcTurn_k, evE_c, evE_g, evE_v, takeS_k, tkK_val, tkK_own, peekS_k, pkK_val, pkK_own, pkK_io, res_val, res_slot, sdK_val, sdK_own, sdK_io, evE_bin, evE_neg, evE_cmp, evE_isN, evE_notN, evE_and, evE_or, evE_nt, evE_ite, evE_tup, evE_lst, evE_dct, evE_ix, evE_sl, evE_call, evE_callK, evE_blt, evE_isi, evE_get2, evT_tr, evT_cmp, evT_isN, evT_notN, evT_and, evT_or, evT_nt, evTo_n, evTo_s, evP_slot, evP_ex, evPs_n, evPs_c, evL_n, evL_c, evA_n, evA_e, ioK_own, ioK_io, evA_io, evO_n, evO_e, evI_seq, evI_rng1, evI_rng2, evI_enum, evI_zip, evS_asg, evS_par, evS_setIx, evS_ex, evS_mut, evS_iF, evS_ret, evS_retS, rsK_val, rsK_own, evS_retN, evS_pass, evS_ct, evS_brk, resL_n, resL_c, kAnd_b, kOr_b, kNt_b, kO_i, kR1_i, kR22_i, evR_n, evR_c, noIo_un, noIo_val, noIo_own, of_val, of_own, chgS_k, chK_own, chK_io, heldS_k, lstS_k, lsK_own, lsK_io, putV_nm, putV_tup, putP_nm, putP_ixs, putP_tup, putPs_n, putPs_c, putN_n, putN_c, retV_s, retI_s, callD_0, callD_1, callD_2, callD_3, callD_4, ciK_own, ciK_io, callD_i1, callD_i2, forL_n, avS_v, avS_i, startS_c, startS_z, startS_u, isi_s, isi_t, isi_ll, isi_lt, isi_i, isi_ib, truD_b, len_l, len_t, max_ii, min_ii, int_i, list_l, list_t, tuple_l, tuple_t, eqD_ss, eqD_ii, c_eq, c_ne, c_lt, c_le, c_gt, c_ge, b_add, b_sub, isN_n, isN_i, ixT0, ixT1, kB1, kC1, kN, kIte, kIx, kSl, kCall, kCK2, kCK, kBlt, kG2, kG1, kG, kTr, kTC1, kTAnd, kTOr, kPs, kLs, kAs, kR2, kZ2, kZ, kFor, kLT2, kLT1, kLc, kIf, kAsg, kPar, kSx2, kSx, kMut, kRs, putS_k, RV.d, Option.bind_some, Option.bind_none, Option.map_some, Option.map_none, hideS, wipeS, backS, List.map_cons, List.map_nil, List.length_cons, List.length_nil, if_true, if_false, Bool.false_eq_true, eq_self, outsOf, decide_true, decide_false, Bool.not_true, Bool.not_false, Nat.reduceAdd, Nat.reduceLT, Nat.zero_add, kTup2])
  simp only [trD, bothT, List.map_map]; exact hh
end
end K82

/-! V10: the law's check of one pot, turn by turn. -/
namespace K82
open PySem PySem.Spec PyProof.Rows L2 PL
variable {W n : Nat}
theorem eqv_sD : ∀ {ls : List Str}, PyData.eqvAll (sD ls) (sD ls) = true
  | [] => rfl
  | s :: r => by
    have h := eqv_sD (ls := r)
    have h1 : PyData.eqv (.str s) (.str s) = true := beqS
    show PyData.eqvAll (.str s :: sD r) (.str s :: sD r) = true
    simp only [PyData.eqvAll, h1, h, Bool.and_self]
theorem eq_sD {ls : List Str} (h : ∀ s ∈ ls, LnOk s) : eqD (.list (sD ls)) (.list (sD ls)) = some true := by
  unfold eqD; rw [shaped_sDl h]; simp only [Bool.and_self, Bool.or_true, if_true, PyData.eqv, eqv_sD]
/-- all that holds of one turn's drawings -/
structure Turn (L : List Str) (p q : List Ed) (t t2 : List En) : Prop where
  et : traceF L p 0 = t
  et2 : traceF (linesT t) q 0 = t2
  hL : L.length ≤ 12
  lL : ∀ s ∈ L, LnOk s
  fit : Fit L p
  tl : t.length ≤ 39
  fq : Fit (linesT t) q
  t2l : t2.length ≤ 66
section
variable {L : List Str} {p q : List Ed} {t t2 : List En} (H : Turn L p q t t2)
include H
theorem Turn.good : Good L p := ⟨H.fit, by rw [H.et]; have := H.tl; omega⟩
theorem Turn.tr : TrOk L 0 t := H.et ▸ H.good.tr
theorem Turn.eno : EnOk t := H.et ▸ H.good.eno
theorem Turn.lt : ∀ s ∈ linesT t, LnOk s := by
  intro s hs'; obtain ⟨e, he, rfl⟩ := List.mem_map.mp hs'; exact H.eno e he
theorem Turn.llen : (linesT t).length = t.length := by simp [linesT]
theorem Turn.tr2 : TrOk (linesT t) 0 t2 := H.et2 ▸ tr_trace H.fq.2.1.2.1 (by rw [H.fq.2.2]; omega)
theorem Turn.ab : TrOk (linesT t) 0 (aboutT L t) := about_ok H.tr H.lL
theorem Turn.abl : (aboutT L t).length ≤ 12 := by have := H.hL; simpa [aboutT] using this
theorem Turn.both : TrOk L 0 (bothT t t2) := both_ok H.tr H.lL H.eno H.tr2 (fun _ _ _ _ _ => Nat.zero_le _)
theorem Turn.bl : (bothT t t2).length ≤ 66 := by have := H.t2l; simpa [bothT] using this
theorem Turn.fitN : Fit L (normF L.length t) := norm_fit H.tr (by have := H.hL; omega) H.lL (by have := H.tl; omega)
theorem Turn.fitA : Fit (linesT t) (normF (linesT t).length (aboutT L t)) := norm_fit H.ab (by have := H.tl; have := H.llen; omega) H.lt (by have := H.abl; omega)
theorem Turn.fitJ : Fit L (normF L.length (bothT t t2)) := norm_fit H.both (by have := H.hL; omega) H.lL (by have := H.bl; omega)
theorem Turn.back : linesT (traceF (linesT t) (normF (linesT t).length (aboutT L t)) 0) = L := by rw [(norm_facts H.ab).2.1]; exact about_lines
theorem Turn.same : linesT (traceF L (normF L.length (bothT t t2)) 0) = linesT t2 := by rw [(norm_facts H.both).2.1]; exact both_lines
theorem Turn.cost : ¬ ((costOf p : Int) + (costOf q : Nat) < (costOf (normF L.length (bothT t t2)) : Nat)) := by
  have c1 := cost_eq (L := L) (p := p) (a := 0)
  have c2 := cost_eq (L := linesT t) (p := q) (a := 0)
  have c3 := cost_eq (L := L) (p := normF L.length (bothT t t2)) (a := 0)
  rw [H.et, H.fit.2.2] at c1
  rw [H.et2, H.fq.2.2, H.llen] at c2
  rw [(norm_facts H.both).2.1, (norm_facts H.both).1] at c3
  obtain ⟨b1, b2⟩ := both_count (t := t) H.tr2
  rw [List.drop_zero] at b1
  have x1 := some_none t; have x2 := some_none t2
  omega
end
section
variable {L : List Str} {p q : List Ed} {t t2 : List En}
variable {s0 s1 s2 s3 s4 s5 s6 s7 s8 s9 s10 s11 s12 : SD}
abbrev Lv (L : List Str) : SD := .val (.list (sD L))
abbrev shD (L : List Str) (p : List Ed) : D := .str (PyData.shown (.list [.list (sD L), paD p]))
theorem T0 (a b : Int) (h2 : noIo s2 = true) : ∃ (L : List Str) (a' b' : Int), L.length ≤ 12 ∧ (∀ s ∈ L, LnOk s) ∧
    evS (callF T W (n+6)) W (stR 0) [.io (potD a b), s1, s2, s3, s4, s5, s6, s7, s8, s9, s10, s11, s12, .un, .un, .un, .un]
      = some (.nx [.io (potD a' b'), s1, .own (.list (sD L)), s3, s4, s5, s6, s7, s8, s9, s10, s11, s12, .un, .un, .un, .un]) := by
  obtain ⟨d, a1, b1, hd, e1⟩ := e_draw (W := W) (n := n + 5) a b 13 (by decide) (by decide)
  obtain ⟨L, a2, b2, hl, hk, e2⟩ := e_lines (W := W) (n := n + 3) a1 b1 d (by omega)
  have e1' : callF T W (n+6) 21 [.io (potD a b), .val (.int 13)] = some (.val (.int (d : Nat)), [potD a1 b1]) := e1
  refine ⟨L, a2, b2, by omega, hk, ?_⟩
  simp -implicitDefEqProofs only [stR, b__law_right_0, gd_z, gd_s, seqO_nx, seqO_ret, seqO_ct, seqO_brk, getS_z, getS_s, set_z, set_s, evB_nil, evB_cons, evS_for, evE_lc, lcTurn_k, evE_c, evE_g, evE_v, takeS_k, tkK_val, tkK_own, peekS_k, pkK_val, pkK_own, pkK_io, res_val, res_slot, sdK_val, sdK_own, sdK_io, evE_bin, evE_neg, evE_cmp, evE_isN, evE_notN, evE_and, evE_or, evE_nt, evE_ite, evE_tup, evE_lst, evE_dct, evE_ix, evE_sl, evE_call, evE_callK, evE_blt, evE_isi, evE_get2, evT_tr, evT_cmp, evT_isN, evT_notN, evT_and, evT_or, evT_nt, evTo_n, evTo_s, evP_slot, evP_ex, evPs_n, evPs_c, evL_n, evL_c, evA_n, evA_e, ioK_own, ioK_io, evA_io, evO_n, evO_e, evI_seq, evI_rng1, evI_rng2, evI_enum, evI_zip, evS_asg, evS_par, evS_setIx, evS_ex, evS_mut, evS_iF, evS_ret, evS_retS, rsK_val, rsK_own, evS_retN, evS_pass, evS_ct, evS_brk, resL_n, resL_c, kAnd_b, kOr_b, kNt_b, kO_i, kR1_i, kR22_i, evR_n, evR_c, noIo_un, noIo_val, noIo_own, of_val, of_own, chgS_k, chK_own, chK_io, heldS_k, lstS_k, lsK_own, lsK_io, putV_nm, putV_tup, putP_nm, putP_ixs, putP_tup, putPs_n, putPs_c, putN_n, putN_c, retV_s, retI_s, callD_0, callD_1, callD_2, callD_3, callD_4, ciK_own, ciK_io, callD_i1, callD_i2, forL_n, avS_v, avS_i, startS_c, startS_z, startS_u, isi_s, isi_t, isi_ll, isi_lt, isi_i, isi_ib, truD_b, len_l, len_t, max_ii, min_ii, int_i, list_l, list_t, tuple_l, tuple_t, eqD_ss, eqD_ii, c_eq, c_ne, c_lt, c_le, c_gt, c_ge, b_add, b_sub, isN_n, isN_i, ixT0, ixT1, kB1, kC1, kN, kIte, kIx, kSl, kCall, kCK2, kCK, kBlt, kG2, kG1, kG, kTr, kTC1, kTAnd, kTOr, kPs, kLs, kAs, kR2, kZ2, kZ, kFor, kLT2, kLT1, kLc, kIf, kAsg, kPar, kSx2, kSx, kMut, kRs, putS_k, RV.d, Option.bind_some, Option.bind_none, Option.map_some, Option.map_none, hideS, wipeS, backS, List.map_cons, List.map_nil, List.length_cons, List.length_nil, if_true, if_false, Bool.false_eq_true, eq_self, outsOf, decide_true, decide_false, Bool.not_true, Bool.not_false, Nat.reduceAdd, Nat.reduceLT, Nat.zero_add, h2, e1', e2]
theorem draw_patch {m : Nat} (a b : Int) (hm : m ≤ 39) : ∃ (p : List Ed) (a' b' : Int), spanOf p = m ∧ (∀ e ∈ p, EdP e) ∧ p.length ≤ 10 ∧ lateOf p ≤ 27 + m ∧ callF T W (n+6) 24 [.io (potD a b), .val (.int (m : Nat))] = some (.val (paD p), [potD a' b']) :=
  e_law_patch (W := W) (n := n + 2) a b m (by omega)
theorem T1 (a b a' b' : Int) (h3 : noIo s3 = true) (e : callF T W (n+6) 24 [.io (potD a b), .val (.int (L.length : Nat))] = some (.val (paD p), [potD a' b'])) :
    evS (callF T W (n+6)) W (stR 1) [.io (potD a b), s1, .own (.list (sD L)), s3, s4, s5, s6, s7, s8, s9, s10, s11, s12, .un, .un, .un, .un]
      = some (.nx [.io (potD a' b'), s1, .own (.list (sD L)), .val (paD p), s4, s5, s6, s7, s8, s9, s10, s11, s12, .un, .un, .un, .un]) := by
  simp -implicitDefEqProofs only [stR, b__law_right_0, gd_z, gd_s, seqO_nx, seqO_ret, seqO_ct, seqO_brk, getS_z, getS_s, set_z, set_s, evB_nil, evB_cons, evS_for, evE_lc, lcTurn_k, evE_c, evE_g, evE_v, takeS_k, tkK_val, tkK_own, peekS_k, pkK_val, pkK_own, pkK_io, res_val, res_slot, sdK_val, sdK_own, sdK_io, evE_bin, evE_neg, evE_cmp, evE_isN, evE_notN, evE_and, evE_or, evE_nt, evE_ite, evE_tup, evE_lst, evE_dct, evE_ix, evE_sl, evE_call, evE_callK, evE_blt, evE_isi, evE_get2, evT_tr, evT_cmp, evT_isN, evT_notN, evT_and, evT_or, evT_nt, evTo_n, evTo_s, evP_slot, evP_ex, evPs_n, evPs_c, evL_n, evL_c, evA_n, evA_e, ioK_own, ioK_io, evA_io, evO_n, evO_e, evI_seq, evI_rng1, evI_rng2, evI_enum, evI_zip, evS_asg, evS_par, evS_setIx, evS_ex, evS_mut, evS_iF, evS_ret, evS_retS, rsK_val, rsK_own, evS_retN, evS_pass, evS_ct, evS_brk, resL_n, resL_c, kAnd_b, kOr_b, kNt_b, kO_i, kR1_i, kR22_i, evR_n, evR_c, noIo_un, noIo_val, noIo_own, of_val, of_own, chgS_k, chK_own, chK_io, heldS_k, lstS_k, lsK_own, lsK_io, putV_nm, putV_tup, putP_nm, putP_ixs, putP_tup, putPs_n, putPs_c, putN_n, putN_c, retV_s, retI_s, callD_0, callD_1, callD_2, callD_3, callD_4, ciK_own, ciK_io, callD_i1, callD_i2, forL_n, avS_v, avS_i, startS_c, startS_z, startS_u, isi_s, isi_t, isi_ll, isi_lt, isi_i, isi_ib, truD_b, len_l, len_t, max_ii, min_ii, int_i, list_l, list_t, tuple_l, tuple_t, eqD_ss, eqD_ii, c_eq, c_ne, c_lt, c_le, c_gt, c_ge, b_add, b_sub, isN_n, isN_i, ixT0, ixT1, kB1, kC1, kN, kIte, kIx, kSl, kCall, kCK2, kCK, kBlt, kG2, kG1, kG, kTr, kTC1, kTAnd, kTOr, kPs, kLs, kAs, kR2, kZ2, kZ, kFor, kLT2, kLT1, kLc, kIf, kAsg, kPar, kSx2, kSx, kMut, kRs, putS_k, RV.d, Option.bind_some, Option.bind_none, Option.map_some, Option.map_none, hideS, wipeS, backS, List.map_cons, List.map_nil, List.length_cons, List.length_nil, if_true, if_false, Bool.false_eq_true, eq_self, outsOf, decide_true, decide_false, Bool.not_true, Bool.not_false, Nat.reduceAdd, Nat.reduceLT, Nat.zero_add, h3, len_sD, e]
theorem T2 (H : Turn L p q t t2) (h11 : noIo s11 = true) (h12 : noIo s12 = true) :
    evS (callF T W (n+6)) W (stR 2) [s0, s1, .own (.list (sD L)), .val (paD p), s4, s5, s6, s7, s8, s9, s10, s11, s12, .un, .un, .un, .un]
      = some (.nx [s0, s1, Lv L, .val (paD p), s4, s5, s6, s7, s8, s9, s10, .own (.list (trD t)), .val (shD L p), .un, .un, .un, .un]) := by
  have e1 := e_ltrace' (W := W) (n := n + 5) H.fit
  rw [H.et] at e1
  have r := rp2 (rp_ln H.fit.1.1 H.lL) (rp_pa H.fit.2.1)
  simp -implicitDefEqProofs only [stR, b__law_right_0, gd_z, gd_s, seqO_nx, seqO_ret, seqO_ct, seqO_brk, getS_z, getS_s, set_z, set_s, evB_nil, evB_cons, evS_for, evE_lc, lcTurn_k, evE_c, evE_g, evE_v, takeS_k, tkK_val, tkK_own, peekS_k, pkK_val, pkK_own, pkK_io, res_val, res_slot, sdK_val, sdK_own, sdK_io, evE_bin, evE_neg, evE_cmp, evE_isN, evE_notN, evE_and, evE_or, evE_nt, evE_ite, evE_tup, evE_lst, evE_dct, evE_ix, evE_sl, evE_call, evE_callK, evE_blt, evE_isi, evE_get2, evT_tr, evT_cmp, evT_isN, evT_notN, evT_and, evT_or, evT_nt, evTo_n, evTo_s, evP_slot, evP_ex, evPs_n, evPs_c, evL_n, evL_c, evA_n, evA_e, ioK_own, ioK_io, evA_io, evO_n, evO_e, evI_seq, evI_rng1, evI_rng2, evI_enum, evI_zip, evS_asg, evS_par, evS_setIx, evS_ex, evS_mut, evS_iF, evS_ret, evS_retS, rsK_val, rsK_own, evS_retN, evS_pass, evS_ct, evS_brk, resL_n, resL_c, kAnd_b, kOr_b, kNt_b, kO_i, kR1_i, kR22_i, evR_n, evR_c, noIo_un, noIo_val, noIo_own, of_val, of_own, chgS_k, chK_own, chK_io, heldS_k, lstS_k, lsK_own, lsK_io, putV_nm, putV_tup, putP_nm, putP_ixs, putP_tup, putPs_n, putPs_c, putN_n, putN_c, retV_s, retI_s, callD_0, callD_1, callD_2, callD_3, callD_4, ciK_own, ciK_io, callD_i1, callD_i2, forL_n, avS_v, avS_i, startS_c, startS_z, startS_u, isi_s, isi_t, isi_ll, isi_lt, isi_i, isi_ib, truD_b, len_l, len_t, max_ii, min_ii, int_i, list_l, list_t, tuple_l, tuple_t, eqD_ss, eqD_ii, c_eq, c_ne, c_lt, c_le, c_gt, c_ge, b_add, b_sub, isN_n, isN_i, ixT0, ixT1, kB1, kC1, kN, kIte, kIx, kSl, kCall, kCK2, kCK, kBlt, kG2, kG1, kG, kTr, kTC1, kTAnd, kTOr, kPs, kLs, kAs, kR2, kZ2, kZ, kFor, kLT2, kLT1, kLc, kIf, kAsg, kPar, kSx2, kSx, kMut, kRs, putS_k, RV.d, Option.bind_some, Option.bind_none, Option.map_some, Option.map_none, hideS, wipeS, backS, List.map_cons, List.map_nil, List.length_cons, List.length_nil, if_true, if_false, Bool.false_eq_true, eq_self, outsOf, decide_true, decide_false, Bool.not_true, Bool.not_false, Nat.reduceAdd, Nat.reduceLT, Nat.zero_add, h11, h12, e1, kLst2, repr_d r]
theorem T3 (ht : t.length ≤ 1000) (h4 : noIo s4 = true) :
    evS (callF T W (n+6)) W (stR 3) [s0, s1, s2, s3, s4, s5, s6, s7, s8, s9, s10, .own (.list (trD t)), s12, .un, .un, .un, .un]
      = some (.nx [s0, s1, s2, s3, .own (.list (sD (linesT t))), s5, s6, s7, s8, s9, s10, .val (.list (trD t)), s12, .un, .un, .un, .un]) := by
  have z1 : (trD t).length ≤ sizeLine := by rw [len_trD]; exact sz1 (by omega)
  simp -implicitDefEqProofs only [stR, b__law_right_0, gd_z, gd_s, seqO_nx, seqO_ret, seqO_ct, seqO_brk, getS_z, getS_s, set_z, set_s, evB_nil, evB_cons, evS_for, evE_lc, lcTurn_k, evE_c, evE_g, evE_v, takeS_k, tkK_val, tkK_own, peekS_k, pkK_val, pkK_own, pkK_io, res_val, res_slot, sdK_val, sdK_own, sdK_io, evE_bin, evE_neg, evE_cmp, evE_isN, evE_notN, evE_and, evE_or, evE_nt, evE_ite, evE_tup, evE_lst, evE_dct, evE_ix, evE_sl, evE_call, evE_callK, evE_blt, evE_isi, evE_get2, evT_tr, evT_cmp, evT_isN, evT_notN, evT_and, evT_or, evT_nt, evTo_n, evTo_s, evP_slot, evP_ex, evPs_n, evPs_c, evL_n, evL_c, evA_n, evA_e, ioK_own, ioK_io, evA_io, evO_n, evO_e, evI_seq, evI_rng1, evI_rng2, evI_enum, evI_zip, evS_asg, evS_par, evS_setIx, evS_ex, evS_mut, evS_iF, evS_ret, evS_retS, rsK_val, rsK_own, evS_retN, evS_pass, evS_ct, evS_brk, resL_n, resL_c, kAnd_b, kOr_b, kNt_b, kO_i, kR1_i, kR22_i, evR_n, evR_c, noIo_un, noIo_val, noIo_own, of_val, of_own, chgS_k, chK_own, chK_io, heldS_k, lstS_k, lsK_own, lsK_io, putV_nm, putV_tup, putP_nm, putP_ixs, putP_tup, putPs_n, putPs_c, putN_n, putN_c, retV_s, retI_s, callD_0, callD_1, callD_2, callD_3, callD_4, ciK_own, ciK_io, callD_i1, callD_i2, forL_n, avS_v, avS_i, startS_c, startS_z, startS_u, isi_s, isi_t, isi_ll, isi_lt, isi_i, isi_ib, truD_b, len_l, len_t, max_ii, min_ii, int_i, list_l, list_t, tuple_l, tuple_t, eqD_ss, eqD_ii, c_eq, c_ne, c_lt, c_le, c_gt, c_ge, b_add, b_sub, isN_n, isN_i, ixT0, ixT1, kB1, kC1, kN, kIte, kIx, kSl, kCall, kCK2, kCK, kBlt, kG2, kG1, kG, kTr, kTC1, kTAnd, kTOr, kPs, kLs, kAs, kR2, kZ2, kZ, kFor, kLT2, kLT1, kLc, kIf, kAsg, kPar, kSx2, kSx, kMut, kRs, putS_k, RV.d, Option.bind_some, Option.bind_none, Option.map_some, Option.map_none, hideS, wipeS, backS, List.map_cons, List.map_nil, List.length_cons, List.length_nil, if_true, if_false, Bool.false_eq_true, eq_self, outsOf, decide_true, decide_false, Bool.not_true, Bool.not_false, Nat.reduceAdd, Nat.reduceLT, Nat.zero_add, h4, items_l z1, r_lines]
theorem lnF (L : List Str) : lnD false L = .list (sD L) := rfl
theorem lnT (L : List Str) : lnD true L = .tuple (sD L) := rfl
theorem T4 (H : Turn L p q t t2) :
    evS (callF T W (n+6)) W (stR 4) [s0, s1, Lv L, .val (paD p), .own (.list (sD (linesT t))), s5, s6, s7, s8, s9, s10, s11, s12, .un, .un, .un, .un]
      = some (.nx [s0, s1, Lv L, .val (paD p), .val (.list (sD (linesT t))), s5, s6, s7, s8, s9, s10, s11, s12, .un, .un, .un, .un]) := by
  have e1 := e_patched (W := W) (n := n) false L p H.fit
  have e2 := e_patched (W := W) (n := n) true L p H.fit
  have e3 := e_patch_cost (W := W) (n := n) false L p H.fit
  have e4 := e_is_patch (W := W) (n := n + 1) false L H.fit.1.1 H.lL p H.fit.2.1 H.fit.2.2
  have e5 := e_law_cost (W := W) (n := n + 5) p (Nat.le_trans H.fit.2.1.1 (by decide))
  rw [lnF] at e1 e3 e4; rw [lnT] at e2; rw [H.et] at e1 e2
  have cl : costOf p ≤ 1000 := by
    have c1 := cost_eq (L := L) (p := p) (a := 0)
    have c2 := some_none (traceF L p 0)
    have c3 := H.tl; have c4 := H.fit.2.2; have c5 := H.hL
    rw [H.et] at c1 c2; omega
  have rl : RP' (.list (sD (linesT t))) := rp_ln (by have := H.llen; have := H.tl; omega) H.lt
  have r := rp4 rl rl (rp_int cl) rp_true
  simp -implicitDefEqProofs only [stR, b__law_right_0, gd_z, gd_s, seqO_nx, seqO_ret, seqO_ct, seqO_brk, getS_z, getS_s, set_z, set_s, evB_nil, evB_cons, evS_for, evE_lc, lcTurn_k, evE_c, evE_g, evE_v, takeS_k, tkK_val, tkK_own, peekS_k, pkK_val, pkK_own, pkK_io, res_val, res_slot, sdK_val, sdK_own, sdK_io, evE_bin, evE_neg, evE_cmp, evE_isN, evE_notN, evE_and, evE_or, evE_nt, evE_ite, evE_tup, evE_lst, evE_dct, evE_ix, evE_sl, evE_call, evE_callK, evE_blt, evE_isi, evE_get2, evT_tr, evT_cmp, evT_isN, evT_notN, evT_and, evT_or, evT_nt, evTo_n, evTo_s, evP_slot, evP_ex, evPs_n, evPs_c, evL_n, evL_c, evA_n, evA_e, ioK_own, ioK_io, evA_io, evO_n, evO_e, evI_seq, evI_rng1, evI_rng2, evI_enum, evI_zip, evS_asg, evS_par, evS_setIx, evS_ex, evS_mut, evS_iF, evS_ret, evS_retS, rsK_val, rsK_own, evS_retN, evS_pass, evS_ct, evS_brk, resL_n, resL_c, kAnd_b, kOr_b, kNt_b, kO_i, kR1_i, kR22_i, evR_n, evR_c, noIo_un, noIo_val, noIo_own, of_val, of_own, chgS_k, chK_own, chK_io, heldS_k, lstS_k, lsK_own, lsK_io, putV_nm, putV_tup, putP_nm, putP_ixs, putP_tup, putPs_n, putPs_c, putN_n, putN_c, retV_s, retI_s, callD_0, callD_1, callD_2, callD_3, callD_4, ciK_own, ciK_io, callD_i1, callD_i2, forL_n, avS_v, avS_i, startS_c, startS_z, startS_u, isi_s, isi_t, isi_ll, isi_lt, isi_i, isi_ib, truD_b, len_l, len_t, max_ii, min_ii, int_i, list_l, list_t, tuple_l, tuple_t, eqD_ss, eqD_ii, c_eq, c_ne, c_lt, c_le, c_gt, c_ge, b_add, b_sub, isN_n, isN_i, ixT0, ixT1, kB1, kC1, kN, kIte, kIx, kSl, kCall, kCK2, kCK, kBlt, kG2, kG1, kG, kTr, kTC1, kTAnd, kTOr, kPs, kLs, kAs, kR2, kZ2, kZ, kFor, kLT2, kLT1, kLc, kIf, kAsg, kPar, kSx2, kSx, kMut, kRs, putS_k, RV.d, Option.bind_some, Option.bind_none, Option.map_some, Option.map_none, hideS, wipeS, backS, List.map_cons, List.map_nil, List.length_cons, List.length_nil, if_true, if_false, Bool.false_eq_true, eq_self, outsOf, decide_true, decide_false, Bool.not_true, Bool.not_false, Nat.reduceAdd, Nat.reduceLT, Nat.zero_add, perm2, List.cons_append, List.nil_append, e1, e2, e3, e4, e5, kLst4, repr_d r, beqS]
theorem T5 (H : Turn L p q t t2) (h5 : noIo s5 = true) :
    evS (callF T W (n+6)) W (stR 5) [s0, s1, Lv L, s3, s4, s5, s6, s7, s8, s9, s10, .val (.list (trD t)), s12, .un, .un, .un, .un]
      = some (.nx [s0, s1, Lv L, s3, s4, .val (paD (normF L.length t)), s6, s7, s8, s9, s10, .val (.list (trD t)), s12, .un, .un, .un, .un]) := by
  have e1 := e_law_normal (W := W) (n := n + 5) L.length t H.eno (by have := H.tl; omega)
  simp -implicitDefEqProofs only [stR, b__law_right_0, gd_z, gd_s, seqO_nx, seqO_ret, seqO_ct, seqO_brk, getS_z, getS_s, set_z, set_s, evB_nil, evB_cons, evS_for, evE_lc, lcTurn_k, evE_c, evE_g, evE_v, takeS_k, tkK_val, tkK_own, peekS_k, pkK_val, pkK_own, pkK_io, res_val, res_slot, sdK_val, sdK_own, sdK_io, evE_bin, evE_neg, evE_cmp, evE_isN, evE_notN, evE_and, evE_or, evE_nt, evE_ite, evE_tup, evE_lst, evE_dct, evE_ix, evE_sl, evE_call, evE_callK, evE_blt, evE_isi, evE_get2, evT_tr, evT_cmp, evT_isN, evT_notN, evT_and, evT_or, evT_nt, evTo_n, evTo_s, evP_slot, evP_ex, evPs_n, evPs_c, evL_n, evL_c, evA_n, evA_e, ioK_own, ioK_io, evA_io, evO_n, evO_e, evI_seq, evI_rng1, evI_rng2, evI_enum, evI_zip, evS_asg, evS_par, evS_setIx, evS_ex, evS_mut, evS_iF, evS_ret, evS_retS, rsK_val, rsK_own, evS_retN, evS_pass, evS_ct, evS_brk, resL_n, resL_c, kAnd_b, kOr_b, kNt_b, kO_i, kR1_i, kR22_i, evR_n, evR_c, noIo_un, noIo_val, noIo_own, of_val, of_own, chgS_k, chK_own, chK_io, heldS_k, lstS_k, lsK_own, lsK_io, putV_nm, putV_tup, putP_nm, putP_ixs, putP_tup, putPs_n, putPs_c, putN_n, putN_c, retV_s, retI_s, callD_0, callD_1, callD_2, callD_3, callD_4, ciK_own, ciK_io, callD_i1, callD_i2, forL_n, avS_v, avS_i, startS_c, startS_z, startS_u, isi_s, isi_t, isi_ll, isi_lt, isi_i, isi_ib, truD_b, len_l, len_t, max_ii, min_ii, int_i, list_l, list_t, tuple_l, tuple_t, eqD_ss, eqD_ii, c_eq, c_ne, c_lt, c_le, c_gt, c_ge, b_add, b_sub, isN_n, isN_i, ixT0, ixT1, kB1, kC1, kN, kIte, kIx, kSl, kCall, kCK2, kCK, kBlt, kG2, kG1, kG, kTr, kTC1, kTAnd, kTOr, kPs, kLs, kAs, kR2, kZ2, kZ, kFor, kLT2, kLT1, kLc, kIf, kAsg, kPar, kSx2, kSx, kMut, kRs, putS_k, RV.d, Option.bind_some, Option.bind_none, Option.map_some, Option.map_none, hideS, wipeS, backS, List.map_cons, List.map_nil, List.length_cons, List.length_nil, if_true, if_false, Bool.false_eq_true, eq_self, outsOf, decide_true, decide_false, Bool.not_true, Bool.not_false, Nat.reduceAdd, Nat.reduceLT, Nat.zero_add, h5, len_sD, e1]
theorem T6 (H : Turn L p q t t2) :
    evS (callF T W (n+6)) W (stR 6) [s0, s1, Lv L, .val (paD p), s4, .val (paD (normF L.length t)), s6, s7, s8, s9, s10, s11, s12, .un, .un, .un, .un]
      = some (.nx [s0, s1, Lv L, .val (paD p), s4, .val (paD (normF L.length t)), s6, s7, s8, s9, s10, s11, s12, .un, .un, .un, .un]) := by
  have e1 := e_normalized (W := W) (n := n) L p H.good
  rw [lnF, H.et] at e1
  have r := rp2 (rp_pa H.fitN.2.1) (rp_pa H.fitN.2.1)
  simp -implicitDefEqProofs only [stR, b__law_right_0, gd_z, gd_s, seqO_nx, seqO_ret, seqO_ct, seqO_brk, getS_z, getS_s, set_z, set_s, evB_nil, evB_cons, evS_for, evE_lc, lcTurn_k, evE_c, evE_g, evE_v, takeS_k, tkK_val, tkK_own, peekS_k, pkK_val, pkK_own, pkK_io, res_val, res_slot, sdK_val, sdK_own, sdK_io, evE_bin, evE_neg, evE_cmp, evE_isN, evE_notN, evE_and, evE_or, evE_nt, evE_ite, evE_tup, evE_lst, evE_dct, evE_ix, evE_sl, evE_call, evE_callK, evE_blt, evE_isi, evE_get2, evT_tr, evT_cmp, evT_isN, evT_notN, evT_and, evT_or, evT_nt, evTo_n, evTo_s, evP_slot, evP_ex, evPs_n, evPs_c, evL_n, evL_c, evA_n, evA_e, ioK_own, ioK_io, evA_io, evO_n, evO_e, evI_seq, evI_rng1, evI_rng2, evI_enum, evI_zip, evS_asg, evS_par, evS_setIx, evS_ex, evS_mut, evS_iF, evS_ret, evS_retS, rsK_val, rsK_own, evS_retN, evS_pass, evS_ct, evS_brk, resL_n, resL_c, kAnd_b, kOr_b, kNt_b, kO_i, kR1_i, kR22_i, evR_n, evR_c, noIo_un, noIo_val, noIo_own, of_val, of_own, chgS_k, chK_own, chK_io, heldS_k, lstS_k, lsK_own, lsK_io, putV_nm, putV_tup, putP_nm, putP_ixs, putP_tup, putPs_n, putPs_c, putN_n, putN_c, retV_s, retI_s, callD_0, callD_1, callD_2, callD_3, callD_4, ciK_own, ciK_io, callD_i1, callD_i2, forL_n, avS_v, avS_i, startS_c, startS_z, startS_u, isi_s, isi_t, isi_ll, isi_lt, isi_i, isi_ib, truD_b, len_l, len_t, max_ii, min_ii, int_i, list_l, list_t, tuple_l, tuple_t, eqD_ss, eqD_ii, c_eq, c_ne, c_lt, c_le, c_gt, c_ge, b_add, b_sub, isN_n, isN_i, ixT0, ixT1, kB1, kC1, kN, kIte, kIx, kSl, kCall, kCK2, kCK, kBlt, kG2, kG1, kG, kTr, kTC1, kTAnd, kTOr, kPs, kLs, kAs, kR2, kZ2, kZ, kFor, kLT2, kLT1, kLc, kIf, kAsg, kPar, kSx2, kSx, kMut, kRs, putS_k, RV.d, Option.bind_some, Option.bind_none, Option.map_some, Option.map_none, hideS, wipeS, backS, List.map_cons, List.map_nil, List.length_cons, List.length_nil, if_true, if_false, Bool.false_eq_true, eq_self, outsOf, decide_true, decide_false, Bool.not_true, Bool.not_false, Nat.reduceAdd, Nat.reduceLT, Nat.zero_add, perm2, List.cons_append, List.nil_append, e1, kLst2, repr_d r, beqS]
theorem T7 (ht : t.length ≤ 1000) (h6 : noIo s6 = true) :
    evS (callF T W (n+6)) W (stR 7) [s0, s1, s2, s3, s4, s5, s6, s7, s8, s9, s10, .val (.list (trD t)), s12, .un, .un, .un, .un]
      = some (.nx [s0, s1, s2, s3, s4, s5, .own (.dict (kvD (dicM t))), s7, s8, s9, s10, .val (.list (trD t)), s12, .un, .un, .un, .un]) := by
  have z1 : (trD t).length ≤ sizeLine := by rw [len_trD]; exact sz1 (by omega)
  simp -implicitDefEqProofs only [stR, b__law_right_0, gd_z, gd_s, seqO_nx, seqO_ret, seqO_ct, seqO_brk, getS_z, getS_s, set_z, set_s, evB_nil, evB_cons, evS_for, evE_lc, lcTurn_k, evE_c, evE_g, evE_v, takeS_k, tkK_val, tkK_own, peekS_k, pkK_val, pkK_own, pkK_io, res_val, res_slot, sdK_val, sdK_own, sdK_io, evE_bin, evE_neg, evE_cmp, evE_isN, evE_notN, evE_and, evE_or, evE_nt, evE_ite, evE_tup, evE_lst, evE_dct, evE_ix, evE_sl, evE_call, evE_callK, evE_blt, evE_isi, evE_get2, evT_tr, evT_cmp, evT_isN, evT_notN, evT_and, evT_or, evT_nt, evTo_n, evTo_s, evP_slot, evP_ex, evPs_n, evPs_c, evL_n, evL_c, evA_n, evA_e, ioK_own, ioK_io, evA_io, evO_n, evO_e, evI_seq, evI_rng1, evI_rng2, evI_enum, evI_zip, evS_asg, evS_par, evS_setIx, evS_ex, evS_mut, evS_iF, evS_ret, evS_retS, rsK_val, rsK_own, evS_retN, evS_pass, evS_ct, evS_brk, resL_n, resL_c, kAnd_b, kOr_b, kNt_b, kO_i, kR1_i, kR22_i, evR_n, evR_c, noIo_un, noIo_val, noIo_own, of_val, of_own, chgS_k, chK_own, chK_io, heldS_k, lstS_k, lsK_own, lsK_io, putV_nm, putV_tup, putP_nm, putP_ixs, putP_tup, putPs_n, putPs_c, putN_n, putN_c, retV_s, retI_s, callD_0, callD_1, callD_2, callD_3, callD_4, ciK_own, ciK_io, callD_i1, callD_i2, forL_n, avS_v, avS_i, startS_c, startS_z, startS_u, isi_s, isi_t, isi_ll, isi_lt, isi_i, isi_ib, truD_b, len_l, len_t, max_ii, min_ii, int_i, list_l, list_t, tuple_l, tuple_t, eqD_ss, eqD_ii, c_eq, c_ne, c_lt, c_le, c_gt, c_ge, b_add, b_sub, isN_n, isN_i, ixT0, ixT1, kB1, kC1, kN, kIte, kIx, kSl, kCall, kCK2, kCK, kBlt, kG2, kG1, kG, kTr, kTC1, kTAnd, kTOr, kPs, kLs, kAs, kR2, kZ2, kZ, kFor, kLT2, kLT1, kLc, kIf, kAsg, kPar, kSx2, kSx, kMut, kRs, putS_k, RV.d, Option.bind_some, Option.bind_none, Option.map_some, Option.map_none, hideS, wipeS, backS, List.map_cons, List.map_nil, List.length_cons, List.length_nil, if_true, if_false, Bool.false_eq_true, eq_self, outsOf, decide_true, decide_false, Bool.not_true, Bool.not_false, Nat.reduceAdd, Nat.reduceLT, Nat.zero_add, h6, listOf_l z1, r_dict, dict_ps, ← dicM.eq_1]
theorem T8 (H : Turn L p q t t2) (h7 : noIo s7 = true) :
    evS (callF T W (n+6)) W (stR 8) [s0, s1, Lv L, s3, .val (.list (sD (linesT t))), s5, .own (.dict (kvD (dicM t))), s7, s8, s9, s10, s11, s12, .un, .un, .un, .un]
      = some (.nx [s0, s1, Lv L, s3, .val (.list (sD (linesT t))), s5, .own (.dict (kvD (dicM t))), .val (paD (normF (linesT t).length (aboutT L t))), s8, s9, s10, s11, s12, .un, .un, .un, .un]) := by
  have z1 : (sD L).length ≤ sizeLine := by rw [len_sD]; have := H.hL; exact sz1 (by omega)
  have e1 := e_law_normal (W := W) (n := n + 5) (linesT t).length (aboutT L t) (tr_enok H.lt H.ab) (by have := H.abl; omega)
  simp -implicitDefEqProofs only [stR, b__law_right_0, gd_z, gd_s, seqO_nx, seqO_ret, seqO_ct, seqO_brk, getS_z, getS_s, set_z, set_s, evB_nil, evB_cons, evS_for, evE_lc, lcTurn_k, evE_c, evE_g, evE_v, takeS_k, tkK_val, tkK_own, peekS_k, pkK_val, pkK_own, pkK_io, res_val, res_slot, sdK_val, sdK_own, sdK_io, evE_bin, evE_neg, evE_cmp, evE_isN, evE_notN, evE_and, evE_or, evE_nt, evE_ite, evE_tup, evE_lst, evE_dct, evE_ix, evE_sl, evE_call, evE_callK, evE_blt, evE_isi, evE_get2, evT_tr, evT_cmp, evT_isN, evT_notN, evT_and, evT_or, evT_nt, evTo_n, evTo_s, evP_slot, evP_ex, evPs_n, evPs_c, evL_n, evL_c, evA_n, evA_e, ioK_own, ioK_io, evA_io, evO_n, evO_e, evI_seq, evI_rng1, evI_rng2, evI_enum, evI_zip, evS_asg, evS_par, evS_setIx, evS_ex, evS_mut, evS_iF, evS_ret, evS_retS, rsK_val, rsK_own, evS_retN, evS_pass, evS_ct, evS_brk, resL_n, resL_c, kAnd_b, kOr_b, kNt_b, kO_i, kR1_i, kR22_i, evR_n, evR_c, noIo_un, noIo_val, noIo_own, of_val, of_own, chgS_k, chK_own, chK_io, heldS_k, lstS_k, lsK_own, lsK_io, putV_nm, putV_tup, putP_nm, putP_ixs, putP_tup, putPs_n, putPs_c, putN_n, putN_c, retV_s, retI_s, callD_0, callD_1, callD_2, callD_3, callD_4, ciK_own, ciK_io, callD_i1, callD_i2, forL_n, avS_v, avS_i, startS_c, startS_z, startS_u, isi_s, isi_t, isi_ll, isi_lt, isi_i, isi_ib, truD_b, len_l, len_t, max_ii, min_ii, int_i, list_l, list_t, tuple_l, tuple_t, eqD_ss, eqD_ii, c_eq, c_ne, c_lt, c_le, c_gt, c_ge, b_add, b_sub, isN_n, isN_i, ixT0, ixT1, kB1, kC1, kN, kIte, kIx, kSl, kCall, kCK2, kCK, kBlt, kG2, kG1, kG, kTr, kTC1, kTAnd, kTOr, kPs, kLs, kAs, kR2, kZ2, kZ, kFor, kLT2, kLT1, kLc, kIf, kAsg, kPar, kSx2, kSx, kMut, kRs, putS_k, RV.d, Option.bind_some, Option.bind_none, Option.map_some, Option.map_none, hideS, wipeS, backS, List.map_cons, List.map_nil, List.length_cons, List.length_nil, if_true, if_false, Bool.false_eq_true, eq_self, outsOf, decide_true, decide_false, Bool.not_true, Bool.not_false, Nat.reduceAdd, Nat.reduceLT, Nat.zero_add, h7, len_sD, listOf_l z1, r_about, e1]
theorem T9 (H : Turn L p q t t2) :
    evS (callF T W (n+6)) W (stR 9) [s0, s1, Lv L, .val (paD p), .val (.list (sD (linesT t))), s5, s6, .val (paD (normF (linesT t).length (aboutT L t))), s8, s9, s10, s11, s12, .un, .un, .un, .un]
      = some (.nx [s0, s1, Lv L, .val (paD p), .val (.list (sD (linesT t))), s5, s6, .val (paD (normF (linesT t).length (aboutT L t))), s8, s9, s10, s11, s12, .un, .un, .un, .un]) := by
  have e1 := e_turned (W := W) (n := n) L p H.good
  rw [lnF, H.et] at e1
  have e2 := e_patched (W := W) (n := n) false (linesT t) _ H.fitA
  rw [lnF, H.back] at e2
  have r := rp2 (rp_pa H.fitA.2.1) (rp_pa H.fitA.2.1)
  simp -implicitDefEqProofs only [stR, b__law_right_0, gd_z, gd_s, seqO_nx, seqO_ret, seqO_ct, seqO_brk, getS_z, getS_s, set_z, set_s, evB_nil, evB_cons, evS_for, evE_lc, lcTurn_k, evE_c, evE_g, evE_v, takeS_k, tkK_val, tkK_own, peekS_k, pkK_val, pkK_own, pkK_io, res_val, res_slot, sdK_val, sdK_own, sdK_io, evE_bin, evE_neg, evE_cmp, evE_isN, evE_notN, evE_and, evE_or, evE_nt, evE_ite, evE_tup, evE_lst, evE_dct, evE_ix, evE_sl, evE_call, evE_callK, evE_blt, evE_isi, evE_get2, evT_tr, evT_cmp, evT_isN, evT_notN, evT_and, evT_or, evT_nt, evTo_n, evTo_s, evP_slot, evP_ex, evPs_n, evPs_c, evL_n, evL_c, evA_n, evA_e, ioK_own, ioK_io, evA_io, evO_n, evO_e, evI_seq, evI_rng1, evI_rng2, evI_enum, evI_zip, evS_asg, evS_par, evS_setIx, evS_ex, evS_mut, evS_iF, evS_ret, evS_retS, rsK_val, rsK_own, evS_retN, evS_pass, evS_ct, evS_brk, resL_n, resL_c, kAnd_b, kOr_b, kNt_b, kO_i, kR1_i, kR22_i, evR_n, evR_c, noIo_un, noIo_val, noIo_own, of_val, of_own, chgS_k, chK_own, chK_io, heldS_k, lstS_k, lsK_own, lsK_io, putV_nm, putV_tup, putP_nm, putP_ixs, putP_tup, putPs_n, putPs_c, putN_n, putN_c, retV_s, retI_s, callD_0, callD_1, callD_2, callD_3, callD_4, ciK_own, ciK_io, callD_i1, callD_i2, forL_n, avS_v, avS_i, startS_c, startS_z, startS_u, isi_s, isi_t, isi_ll, isi_lt, isi_i, isi_ib, truD_b, len_l, len_t, max_ii, min_ii, int_i, list_l, list_t, tuple_l, tuple_t, eqD_ss, eqD_ii, c_eq, c_ne, c_lt, c_le, c_gt, c_ge, b_add, b_sub, isN_n, isN_i, ixT0, ixT1, kB1, kC1, kN, kIte, kIx, kSl, kCall, kCK2, kCK, kBlt, kG2, kG1, kG, kTr, kTC1, kTAnd, kTOr, kPs, kLs, kAs, kR2, kZ2, kZ, kFor, kLT2, kLT1, kLc, kIf, kAsg, kPar, kSx2, kSx, kMut, kRs, putS_k, RV.d, Option.bind_some, Option.bind_none, Option.map_some, Option.map_none, hideS, wipeS, backS, List.map_cons, List.map_nil, List.length_cons, List.length_nil, if_true, if_false, Bool.false_eq_true, eq_self, outsOf, decide_true, decide_false, Bool.not_true, Bool.not_false, Nat.reduceAdd, Nat.reduceLT, Nat.zero_add, perm2, List.cons_append, List.nil_append, e1, e2, kLst2, repr_d r, beqS, eq_sD H.lL]
theorem T10 (a b a' b' : Int) (h8 : noIo s8 = true) (e : callF T W (n+6) 24 [.io (potD a b), .val (.int ((linesT t).length : Nat))] = some (.val (paD q), [potD a' b'])) :
    evS (callF T W (n+6)) W (stR 10) [.io (potD a b), s1, s2, s3, .val (.list (sD (linesT t))), s5, s6, s7, s8, s9, s10, s11, s12, .un, .un, .un, .un]
      = some (.nx [.io (potD a' b'), s1, s2, s3, .val (.list (sD (linesT t))), s5, s6, s7, .val (paD q), s9, s10, s11, s12, .un, .un, .un, .un]) := by
  simp -implicitDefEqProofs only [stR, b__law_right_0, gd_z, gd_s, seqO_nx, seqO_ret, seqO_ct, seqO_brk, getS_z, getS_s, set_z, set_s, evB_nil, evB_cons, evS_for, evE_lc, lcTurn_k, evE_c, evE_g, evE_v, takeS_k, tkK_val, tkK_own, peekS_k, pkK_val, pkK_own, pkK_io, res_val, res_slot, sdK_val, sdK_own, sdK_io, evE_bin, evE_neg, evE_cmp, evE_isN, evE_notN, evE_and, evE_or, evE_nt, evE_ite, evE_tup, evE_lst, evE_dct, evE_ix, evE_sl, evE_call, evE_callK, evE_blt, evE_isi, evE_get2, evT_tr, evT_cmp, evT_isN, evT_notN, evT_and, evT_or, evT_nt, evTo_n, evTo_s, evP_slot, evP_ex, evPs_n, evPs_c, evL_n, evL_c, evA_n, evA_e, ioK_own, ioK_io, evA_io, evO_n, evO_e, evI_seq, evI_rng1, evI_rng2, evI_enum, evI_zip, evS_asg, evS_par, evS_setIx, evS_ex, evS_mut, evS_iF, evS_ret, evS_retS, rsK_val, rsK_own, evS_retN, evS_pass, evS_ct, evS_brk, resL_n, resL_c, kAnd_b, kOr_b, kNt_b, kO_i, kR1_i, kR22_i, evR_n, evR_c, noIo_un, noIo_val, noIo_own, of_val, of_own, chgS_k, chK_own, chK_io, heldS_k, lstS_k, lsK_own, lsK_io, putV_nm, putV_tup, putP_nm, putP_ixs, putP_tup, putPs_n, putPs_c, putN_n, putN_c, retV_s, retI_s, callD_0, callD_1, callD_2, callD_3, callD_4, ciK_own, ciK_io, callD_i1, callD_i2, forL_n, avS_v, avS_i, startS_c, startS_z, startS_u, isi_s, isi_t, isi_ll, isi_lt, isi_i, isi_ib, truD_b, len_l, len_t, max_ii, min_ii, int_i, list_l, list_t, tuple_l, tuple_t, eqD_ss, eqD_ii, c_eq, c_ne, c_lt, c_le, c_gt, c_ge, b_add, b_sub, isN_n, isN_i, ixT0, ixT1, kB1, kC1, kN, kIte, kIx, kSl, kCall, kCK2, kCK, kBlt, kG2, kG1, kG, kTr, kTC1, kTAnd, kTOr, kPs, kLs, kAs, kR2, kZ2, kZ, kFor, kLT2, kLT1, kLc, kIf, kAsg, kPar, kSx2, kSx, kMut, kRs, putS_k, RV.d, Option.bind_some, Option.bind_none, Option.map_some, Option.map_none, hideS, wipeS, backS, List.map_cons, List.map_nil, List.length_cons, List.length_nil, if_true, if_false, Bool.false_eq_true, eq_self, outsOf, decide_true, decide_false, Bool.not_true, Bool.not_false, Nat.reduceAdd, Nat.reduceLT, Nat.zero_add, h8, len_sD, e]
theorem T11 (H : Turn L p q t t2) (h9 : noIo s9 = true) :
    evS (callF T W (n+6)) W (stR 11) [s0, s1, s2, s3, .val (.list (sD (linesT t))), s5, s6, s7, .val (paD q), s9, s10, .val (.list (trD t)), s12, .un, .un, .un, .un]
      = some (.nx [s0, s1, s2, s3, .val (.list (sD (linesT t))), s5, s6, s7, .val (paD q), .own (.list (trD (bothT t t2))), s10, .val (.list (trD t)), s12, .un, .un, .un, .un]) := by
  have e1 := e_ltrace' (W := W) (n := n + 5) H.fq
  rw [H.et2] at e1
  have z1 : (trD t2).length ≤ sizeLine := by rw [len_trD]; have := H.t2l; exact sz1 (by omega)
  have hb : Bel t.length t2 := by have := tr_bel H.tr2; rwa [H.llen] at this
  simp -implicitDefEqProofs only [stR, b__law_right_0, gd_z, gd_s, seqO_nx, seqO_ret, seqO_ct, seqO_brk, getS_z, getS_s, set_z, set_s, evB_nil, evB_cons, evS_for, evE_lc, lcTurn_k, evE_c, evE_g, evE_v, takeS_k, tkK_val, tkK_own, peekS_k, pkK_val, pkK_own, pkK_io, res_val, res_slot, sdK_val, sdK_own, sdK_io, evE_bin, evE_neg, evE_cmp, evE_isN, evE_notN, evE_and, evE_or, evE_nt, evE_ite, evE_tup, evE_lst, evE_dct, evE_ix, evE_sl, evE_call, evE_callK, evE_blt, evE_isi, evE_get2, evT_tr, evT_cmp, evT_isN, evT_notN, evT_and, evT_or, evT_nt, evTo_n, evTo_s, evP_slot, evP_ex, evPs_n, evPs_c, evL_n, evL_c, evA_n, evA_e, ioK_own, ioK_io, evA_io, evO_n, evO_e, evI_seq, evI_rng1, evI_rng2, evI_enum, evI_zip, evS_asg, evS_par, evS_setIx, evS_ex, evS_mut, evS_iF, evS_ret, evS_retS, rsK_val, rsK_own, evS_retN, evS_pass, evS_ct, evS_brk, resL_n, resL_c, kAnd_b, kOr_b, kNt_b, kO_i, kR1_i, kR22_i, evR_n, evR_c, noIo_un, noIo_val, noIo_own, of_val, of_own, chgS_k, chK_own, chK_io, heldS_k, lstS_k, lsK_own, lsK_io, putV_nm, putV_tup, putP_nm, putP_ixs, putP_tup, putPs_n, putPs_c, putN_n, putN_c, retV_s, retI_s, callD_0, callD_1, callD_2, callD_3, callD_4, ciK_own, ciK_io, callD_i1, callD_i2, forL_n, avS_v, avS_i, startS_c, startS_z, startS_u, isi_s, isi_t, isi_ll, isi_lt, isi_i, isi_ib, truD_b, len_l, len_t, max_ii, min_ii, int_i, list_l, list_t, tuple_l, tuple_t, eqD_ss, eqD_ii, c_eq, c_ne, c_lt, c_le, c_gt, c_ge, b_add, b_sub, isN_n, isN_i, ixT0, ixT1, kB1, kC1, kN, kIte, kIx, kSl, kCall, kCK2, kCK, kBlt, kG2, kG1, kG, kTr, kTC1, kTAnd, kTOr, kPs, kLs, kAs, kR2, kZ2, kZ, kFor, kLT2, kLT1, kLc, kIf, kAsg, kPar, kSx2, kSx, kMut, kRs, putS_k, RV.d, Option.bind_some, Option.bind_none, Option.map_some, Option.map_none, hideS, wipeS, backS, List.map_cons, List.map_nil, List.length_cons, List.length_nil, if_true, if_false, Bool.false_eq_true, eq_self, outsOf, decide_true, decide_false, Bool.not_true, Bool.not_false, Nat.reduceAdd, Nat.reduceLT, Nat.zero_add, h9, e1, items_l z1, r_both t t2 hb]
theorem T12 (H : Turn L p q t t2) (h10 : noIo s10 = true) :
    evS (callF T W (n+6)) W (stR 12) [s0, s1, Lv L, s3, s4, s5, s6, s7, s8, .own (.list (trD (bothT t t2))), s10, s11, s12, .un, .un, .un, .un]
      = some (.nx [s0, s1, Lv L, s3, s4, s5, s6, s7, s8, .val (.list (trD (bothT t t2))), .val (paD (normF L.length (bothT t t2))), s11, s12, .un, .un, .un, .un]) := by
  have e1 := e_law_normal (W := W) (n := n + 5) L.length (bothT t t2) (tr_enok H.lL H.both) (by have := H.bl; omega)
  simp -implicitDefEqProofs only [stR, b__law_right_0, gd_z, gd_s, seqO_nx, seqO_ret, seqO_ct, seqO_brk, getS_z, getS_s, set_z, set_s, evB_nil, evB_cons, evS_for, evE_lc, lcTurn_k, evE_c, evE_g, evE_v, takeS_k, tkK_val, tkK_own, peekS_k, pkK_val, pkK_own, pkK_io, res_val, res_slot, sdK_val, sdK_own, sdK_io, evE_bin, evE_neg, evE_cmp, evE_isN, evE_notN, evE_and, evE_or, evE_nt, evE_ite, evE_tup, evE_lst, evE_dct, evE_ix, evE_sl, evE_call, evE_callK, evE_blt, evE_isi, evE_get2, evT_tr, evT_cmp, evT_isN, evT_notN, evT_and, evT_or, evT_nt, evTo_n, evTo_s, evP_slot, evP_ex, evPs_n, evPs_c, evL_n, evL_c, evA_n, evA_e, ioK_own, ioK_io, evA_io, evO_n, evO_e, evI_seq, evI_rng1, evI_rng2, evI_enum, evI_zip, evS_asg, evS_par, evS_setIx, evS_ex, evS_mut, evS_iF, evS_ret, evS_retS, rsK_val, rsK_own, evS_retN, evS_pass, evS_ct, evS_brk, resL_n, resL_c, kAnd_b, kOr_b, kNt_b, kO_i, kR1_i, kR22_i, evR_n, evR_c, noIo_un, noIo_val, noIo_own, of_val, of_own, chgS_k, chK_own, chK_io, heldS_k, lstS_k, lsK_own, lsK_io, putV_nm, putV_tup, putP_nm, putP_ixs, putP_tup, putPs_n, putPs_c, putN_n, putN_c, retV_s, retI_s, callD_0, callD_1, callD_2, callD_3, callD_4, ciK_own, ciK_io, callD_i1, callD_i2, forL_n, avS_v, avS_i, startS_c, startS_z, startS_u, isi_s, isi_t, isi_ll, isi_lt, isi_i, isi_ib, truD_b, len_l, len_t, max_ii, min_ii, int_i, list_l, list_t, tuple_l, tuple_t, eqD_ss, eqD_ii, c_eq, c_ne, c_lt, c_le, c_gt, c_ge, b_add, b_sub, isN_n, isN_i, ixT0, ixT1, kB1, kC1, kN, kIte, kIx, kSl, kCall, kCK2, kCK, kBlt, kG2, kG1, kG, kTr, kTC1, kTAnd, kTOr, kPs, kLs, kAs, kR2, kZ2, kZ, kFor, kLT2, kLT1, kLc, kIf, kAsg, kPar, kSx2, kSx, kMut, kRs, putS_k, RV.d, Option.bind_some, Option.bind_none, Option.map_some, Option.map_none, hideS, wipeS, backS, List.map_cons, List.map_nil, List.length_cons, List.length_nil, if_true, if_false, Bool.false_eq_true, eq_self, outsOf, decide_true, decide_false, Bool.not_true, Bool.not_false, Nat.reduceAdd, Nat.reduceLT, Nat.zero_add, h10, len_sD, e1]
theorem T13 (H : Turn L p q t t2) :
    evS (callF T W (n+6)) W (stR 13) [s0, s1, Lv L, .val (paD p), s4, s5, s6, s7, .val (paD q), s9, .val (paD (normF L.length (bothT t t2))), s11, s12, .un, .un, .un, .un]
      = some (.nx [s0, s1, Lv L, .val (paD p), s4, s5, s6, s7, .val (paD q), s9, .val (paD (normF L.length (bothT t t2))), s11, s12, .un, .un, .un, .un]) := by
  have e1 := e_joined (W := W) (n := n) L p q H.good (by rw [H.et]; exact H.fq) (by rw [H.et, H.et2]; have := H.t2l; omega)
  rw [lnF, H.et, H.et2] at e1
  have r := rp2 (rp_pa H.fitJ.2.1) (rp_pa H.fitJ.2.1)
  simp -implicitDefEqProofs only [stR, b__law_right_0, gd_z, gd_s, seqO_nx, seqO_ret, seqO_ct, seqO_brk, getS_z, getS_s, set_z, set_s, evB_nil, evB_cons, evS_for, evE_lc, lcTurn_k, evE_c, evE_g, evE_v, takeS_k, tkK_val, tkK_own, peekS_k, pkK_val, pkK_own, pkK_io, res_val, res_slot, sdK_val, sdK_own, sdK_io, evE_bin, evE_neg, evE_cmp, evE_isN, evE_notN, evE_and, evE_or, evE_nt, evE_ite, evE_tup, evE_lst, evE_dct, evE_ix, evE_sl, evE_call, evE_callK, evE_blt, evE_isi, evE_get2, evT_tr, evT_cmp, evT_isN, evT_notN, evT_and, evT_or, evT_nt, evTo_n, evTo_s, evP_slot, evP_ex, evPs_n, evPs_c, evL_n, evL_c, evA_n, evA_e, ioK_own, ioK_io, evA_io, evO_n, evO_e, evI_seq, evI_rng1, evI_rng2, evI_enum, evI_zip, evS_asg, evS_par, evS_setIx, evS_ex, evS_mut, evS_iF, evS_ret, evS_retS, rsK_val, rsK_own, evS_retN, evS_pass, evS_ct, evS_brk, resL_n, resL_c, kAnd_b, kOr_b, kNt_b, kO_i, kR1_i, kR22_i, evR_n, evR_c, noIo_un, noIo_val, noIo_own, of_val, of_own, chgS_k, chK_own, chK_io, heldS_k, lstS_k, lsK_own, lsK_io, putV_nm, putV_tup, putP_nm, putP_ixs, putP_tup, putPs_n, putPs_c, putN_n, putN_c, retV_s, retI_s, callD_0, callD_1, callD_2, callD_3, callD_4, ciK_own, ciK_io, callD_i1, callD_i2, forL_n, avS_v, avS_i, startS_c, startS_z, startS_u, isi_s, isi_t, isi_ll, isi_lt, isi_i, isi_ib, truD_b, len_l, len_t, max_ii, min_ii, int_i, list_l, list_t, tuple_l, tuple_t, eqD_ss, eqD_ii, c_eq, c_ne, c_lt, c_le, c_gt, c_ge, b_add, b_sub, isN_n, isN_i, ixT0, ixT1, kB1, kC1, kN, kIte, kIx, kSl, kCall, kCK2, kCK, kBlt, kG2, kG1, kG, kTr, kTC1, kTAnd, kTOr, kPs, kLs, kAs, kR2, kZ2, kZ, kFor, kLT2, kLT1, kLc, kIf, kAsg, kPar, kSx2, kSx, kMut, kRs, putS_k, RV.d, Option.bind_some, Option.bind_none, Option.map_some, Option.map_none, hideS, wipeS, backS, List.map_cons, List.map_nil, List.length_cons, List.length_nil, if_true, if_false, Bool.false_eq_true, eq_self, outsOf, decide_true, decide_false, Bool.not_true, Bool.not_false, Nat.reduceAdd, Nat.reduceLT, Nat.zero_add, perm3, List.cons_append, List.nil_append, e1, kLst2, repr_d r, beqS]
theorem T14 (H : Turn L p q t t2) :
    evS (callF T W (n+6)) W (stR 14) [s0, s1, Lv L, .val (paD p), .val (.list (sD (linesT t))), s5, s6, s7, .val (paD q), s9, .val (paD (normF L.length (bothT t t2))), s11, s12, .un, .un, .un, .un]
      = some (.nx [s0, s1, Lv L, .val (paD p), .val (.list (sD (linesT t))), s5, s6, s7, .val (paD q), s9, .val (paD (normF L.length (bothT t t2))), s11, s12, .un, .un, .un, .un]) := by
  have e1 := e_patch_cost (W := W) (n := n) false L p H.fit
  have e2 := e_patch_cost (W := W) (n := n) false L _ H.fitJ
  have e3 := e_patch_cost (W := W) (n := n) false (linesT t) q H.fq
  have e4 := e_patched (W := W) (n := n) false L _ H.fitJ
  have e5 := e_patched (W := W) (n := n) false (linesT t) q H.fq
  rw [lnF] at e1 e2 e3 e4 e5
  rw [H.same] at e4
  rw [H.et2] at e5
  have hl : ∀ s ∈ linesT t2, LnOk s := by
    intro s hs'; obtain ⟨e, he, rfl⟩ := List.mem_map.mp hs'; exact tr_enok H.lt H.tr2 e he
  simp -implicitDefEqProofs only [stR, b__law_right_0, gd_z, gd_s, seqO_nx, seqO_ret, seqO_ct, seqO_brk, getS_z, getS_s, set_z, set_s, evB_nil, evB_cons, evS_for, evE_lc, lcTurn_k, evE_c, evE_g, evE_v, takeS_k, tkK_val, tkK_own, peekS_k, pkK_val, pkK_own, pkK_io, res_val, res_slot, sdK_val, sdK_own, sdK_io, evE_bin, evE_neg, evE_cmp, evE_isN, evE_notN, evE_and, evE_or, evE_nt, evE_ite, evE_tup, evE_lst, evE_dct, evE_ix, evE_sl, evE_call, evE_callK, evE_blt, evE_isi, evE_get2, evT_tr, evT_cmp, evT_isN, evT_notN, evT_and, evT_or, evT_nt, evTo_n, evTo_s, evP_slot, evP_ex, evPs_n, evPs_c, evL_n, evL_c, evA_n, evA_e, ioK_own, ioK_io, evA_io, evO_n, evO_e, evI_seq, evI_rng1, evI_rng2, evI_enum, evI_zip, evS_asg, evS_par, evS_setIx, evS_ex, evS_mut, evS_iF, evS_ret, evS_retS, rsK_val, rsK_own, evS_retN, evS_pass, evS_ct, evS_brk, resL_n, resL_c, kAnd_b, kOr_b, kNt_b, kO_i, kR1_i, kR22_i, evR_n, evR_c, noIo_un, noIo_val, noIo_own, of_val, of_own, chgS_k, chK_own, chK_io, heldS_k, lstS_k, lsK_own, lsK_io, putV_nm, putV_tup, putP_nm, putP_ixs, putP_tup, putPs_n, putPs_c, putN_n, putN_c, retV_s, retI_s, callD_0, callD_1, callD_2, callD_3, callD_4, ciK_own, ciK_io, callD_i1, callD_i2, forL_n, avS_v, avS_i, startS_c, startS_z, startS_u, isi_s, isi_t, isi_ll, isi_lt, isi_i, isi_ib, truD_b, len_l, len_t, max_ii, min_ii, int_i, list_l, list_t, tuple_l, tuple_t, eqD_ss, eqD_ii, c_eq, c_ne, c_lt, c_le, c_gt, c_ge, b_add, b_sub, isN_n, isN_i, ixT0, ixT1, kB1, kC1, kN, kIte, kIx, kSl, kCall, kCK2, kCK, kBlt, kG2, kG1, kG, kTr, kTC1, kTAnd, kTOr, kPs, kLs, kAs, kR2, kZ2, kZ, kFor, kLT2, kLT1, kLc, kIf, kAsg, kPar, kSx2, kSx, kMut, kRs, putS_k, RV.d, Option.bind_some, Option.bind_none, Option.map_some, Option.map_none, hideS, wipeS, backS, List.map_cons, List.map_nil, List.length_cons, List.length_nil, if_true, if_false, Bool.false_eq_true, eq_self, outsOf, decide_true, decide_false, Bool.not_true, Bool.not_false, Nat.reduceAdd, Nat.reduceLT, Nat.zero_add, e1, e2, e3, e4, e5, H.cost, eq_sD hl]
theorem T15 (H : Turn L p q t t2) :
    evS (callF T W (n+6)) W (stR 15) [s0, s1, Lv L, .val (paD p), s4, s5, s6, s7, s8, s9, s10, s11, .val (shD L p), .un, .un, .un, .un]
      = some (.nx [s0, s1, Lv L, .val (paD p), s4, s5, s6, s7, s8, s9, s10, s11, .val (shD L p), .un, .un, .un, .un]) := by
  have r := rp2 (rp_ln H.fit.1.1 H.lL) (rp_pa H.fit.2.1)
  simp -implicitDefEqProofs only [stR, b__law_right_0, gd_z, gd_s, seqO_nx, seqO_ret, seqO_ct, seqO_brk, getS_z, getS_s, set_z, set_s, evB_nil, evB_cons, evS_for, evE_lc, lcTurn_k, evE_c, evE_g, evE_v, takeS_k, tkK_val, tkK_own, peekS_k, pkK_val, pkK_own, pkK_io, res_val, res_slot, sdK_val, sdK_own, sdK_io, evE_bin, evE_neg, evE_cmp, evE_isN, evE_notN, evE_and, evE_or, evE_nt, evE_ite, evE_tup, evE_lst, evE_dct, evE_ix, evE_sl, evE_call, evE_callK, evE_blt, evE_isi, evE_get2, evT_tr, evT_cmp, evT_isN, evT_notN, evT_and, evT_or, evT_nt, evTo_n, evTo_s, evP_slot, evP_ex, evPs_n, evPs_c, evL_n, evL_c, evA_n, evA_e, ioK_own, ioK_io, evA_io, evO_n, evO_e, evI_seq, evI_rng1, evI_rng2, evI_enum, evI_zip, evS_asg, evS_par, evS_setIx, evS_ex, evS_mut, evS_iF, evS_ret, evS_retS, rsK_val, rsK_own, evS_retN, evS_pass, evS_ct, evS_brk, resL_n, resL_c, kAnd_b, kOr_b, kNt_b, kO_i, kR1_i, kR22_i, evR_n, evR_c, noIo_un, noIo_val, noIo_own, of_val, of_own, chgS_k, chK_own, chK_io, heldS_k, lstS_k, lsK_own, lsK_io, putV_nm, putV_tup, putP_nm, putP_ixs, putP_tup, putPs_n, putPs_c, putN_n, putN_c, retV_s, retI_s, callD_0, callD_1, callD_2, callD_3, callD_4, ciK_own, ciK_io, callD_i1, callD_i2, forL_n, avS_v, avS_i, startS_c, startS_z, startS_u, isi_s, isi_t, isi_ll, isi_lt, isi_i, isi_ib, truD_b, len_l, len_t, max_ii, min_ii, int_i, list_l, list_t, tuple_l, tuple_t, eqD_ss, eqD_ii, c_eq, c_ne, c_lt, c_le, c_gt, c_ge, b_add, b_sub, isN_n, isN_i, ixT0, ixT1, kB1, kC1, kN, kIte, kIx, kSl, kCall, kCK2, kCK, kBlt, kG2, kG1, kG, kTr, kTC1, kTAnd, kTOr, kPs, kLs, kAs, kR2, kZ2, kZ, kFor, kLT2, kLT1, kLc, kIf, kAsg, kPar, kSx2, kSx, kMut, kRs, putS_k, RV.d, Option.bind_some, Option.bind_none, Option.map_some, Option.map_none, hideS, wipeS, backS, List.map_cons, List.map_nil, List.length_cons, List.length_nil, if_true, if_false, Bool.false_eq_true, eq_self, outsOf, decide_true, decide_false, Bool.not_true, Bool.not_false, Nat.reduceAdd, Nat.reduceLT, Nat.zero_add, kLst2, repr_d r, beqS]
end
theorem one_turn (a b : Int) (d : D) (s1 s2 s3 s4 s5 s6 s7 s8 s9 s10 s11 s12 : SD) (h1 : noIo s1 = true) (h2 : noIo s2 = true) (h3 : noIo s3 = true) (h4 : noIo s4 = true) (h5 : noIo s5 = true) (h6 : noIo s6 = true) (h7 : noIo s7 = true) (h8 : noIo s8 = true) (h9 : noIo s9 = true) (h10 : noIo s10 = true) (h11 : noIo s11 = true) (h12 : noIo s12 = true) :
    ∃ (a' b' : Int) (u1 u2 u3 u4 u5 u6 u7 u8 u9 u10 u11 u12 : SD), (noIo u1 = true ∧ noIo u2 = true ∧ noIo u3 = true ∧ noIo u4 = true ∧ noIo u5 = true ∧ noIo u6 = true ∧ noIo u7 = true ∧ noIo u8 = true ∧ noIo u9 = true ∧ noIo u10 = true ∧ noIo u11 = true ∧ noIo u12 = true) ∧
      (putP (.nm 1) d [.io (potD a b), s1, s2, s3, s4, s5, s6, s7, s8, s9, s10, s11, s12, .un, .un, .un, .un]).bind (evB (callF T W (n+6)) W b__law_right_0)
        = some (.nx [.io (potD a' b'), u1, u2, u3, u4, u5, u6, u7, u8, u9, u10, u11, u12, .un, .un, .un, .un]) := by
  have hp : putP (.nm 1) d [.io (potD a b), s1, s2, s3, s4, s5, s6, s7, s8, s9, s10, s11, s12, .un, .un, .un, .un] = some [.io (potD a b), .val d, s2, s3, s4, s5, s6, s7, s8, s9, s10, s11, s12, .un, .un, .un, .un] := by
    simp -implicitDefEqProofs only [seqO_nx, seqO_ret, seqO_ct, seqO_brk, getS_z, getS_s, set_z, set_s, evB_nil, evB_cons, evS_for, evE_lc, lcTurn_k, evE_c, evE_g, evE_v, takeS_k, tkK_val, tkK_own, peekS_k, pkK_val, pkK_own, pkK_io, res_val, res_slot, sdK_val, sdK_own, sdK_io, evE_bin, evE_neg, evE_cmp, evE_isN, evE_notN, evE_and, evE_or, evE_nt, evE_ite, evE_tup, evE_lst, evE_dct, evE_ix, evE_sl, evE_call, evE_callK, evE_blt, evE_isi, evE_get2, evT_tr, evT_cmp, evT_isN, evT_notN, evT_and, evT_or, evT_nt, evTo_n, evTo_s, evP_slot, evP_ex, evPs_n, evPs_c, evL_n, evL_c, evA_n, evA_e, ioK_own, ioK_io, evA_io, evO_n, evO_e, evI_seq, evI_rng1, evI_rng2, evI_enum, evI_zip, evS_asg, evS_par, evS_setIx, evS_ex, evS_mut, evS_iF, evS_ret, evS_retS, rsK_val, rsK_own, evS_retN, evS_pass, evS_ct, evS_brk, resL_n, resL_c, kAnd_b, kOr_b, kNt_b, kO_i, kR1_i, kR22_i, evR_n, evR_c, noIo_un, noIo_val, noIo_own, of_val, of_own, chgS_k, chK_own, chK_io, heldS_k, lstS_k, lsK_own, lsK_io, putV_nm, putV_tup, putP_nm, putP_ixs, putP_tup, putPs_n, putPs_c, putN_n, putN_c, retV_s, retI_s, callD_0, callD_1, callD_2, callD_3, callD_4, ciK_own, ciK_io, callD_i1, callD_i2, forL_n, avS_v, avS_i, startS_c, startS_z, startS_u, isi_s, isi_t, isi_ll, isi_lt, isi_i, isi_ib, truD_b, len_l, len_t, max_ii, min_ii, int_i, list_l, list_t, tuple_l, tuple_t, eqD_ss, eqD_ii, c_eq, c_ne, c_lt, c_le, c_gt, c_ge, b_add, b_sub, isN_n, isN_i, ixT0, ixT1, kB1, kC1, kN, kIte, kIx, kSl, kCall, kCK2, kCK, kBlt, kG2, kG1, kG, kTr, kTC1, kTAnd, kTOr, kPs, kLs, kAs, kR2, kZ2, kZ, kFor, kLT2, kLT1, kLc, kIf, kAsg, kPar, kSx2, kSx, kMut, kRs, putS_k, RV.d, Option.bind_some, Option.bind_none, Option.map_some, Option.map_none, hideS, wipeS, backS, List.map_cons, List.map_nil, List.length_cons, List.length_nil, if_true, if_false, Bool.false_eq_true, eq_self, outsOf, decide_true, decide_false, Bool.not_true, Bool.not_false, Nat.reduceAdd, Nat.reduceLT, Nat.zero_add, h1]
  obtain ⟨L, a1, b1, hL, lL, E0⟩ := T0 (W := W) (n := n) (s1 := .val d) (s2 := s2) (s3 := s3) (s4 := s4) (s5 := s5) (s6 := s6) (s7 := s7) (s8 := s8) (s9 := s9) (s10 := s10) (s11 := s11) (s12 := s12) a b h2
  obtain ⟨p, a2, b2, p1, p2, p3, p4, ep⟩ := draw_patch (W := W) (n := n) (m := L.length) a1 b1 (by omega)
  have fit : Fit L p := fit_of (by omega) lL p1 p2 (by omega) (by omega)
  have tl : (traceF L p 0).length ≤ 39 := by rw [len_trace]; omega
  have gl : (linesT (traceF L p 0)).length = (traceF L p 0).length := by simp [linesT]
  obtain ⟨q, a3, b3, q1, q2, q3, q4, eq⟩ := draw_patch (W := W) (n := n) (m := (linesT (traceF L p 0)).length) a2 b2 (by omega)
  have tr : TrOk L 0 (traceF L p 0) := tr_trace fit.2.1.2.1 (by rw [p1]; omega)
  have lt : ∀ s ∈ linesT (traceF L p 0), LnOk s := by
    intro s hs'; obtain ⟨e, he, rfl⟩ := List.mem_map.mp hs'; exact tr_enok lL tr e he
  have fq : Fit (linesT (traceF L p 0)) q := fit_of (by omega) lt q1 q2 (by omega) (by omega)
  have H : Turn L p q (traceF L p 0) (traceF (linesT (traceF L p 0)) q 0) := ⟨rfl, rfl, hL, lL, fit, tl, fq, by rw [len_trace]; omega⟩
  generalize traceF L p 0 = t at *
  generalize traceF (linesT t) q 0 = t2 at *
  refine ⟨a3, b3, .val d, Lv L, .val (paD p), .val (.list (sD (linesT t))), .val (paD (normF L.length t)), .own (.dict (kvD (dicM t))), .val (paD (normF (linesT t).length (aboutT L t))), .val (paD q), .val (.list (trD (bothT t t2))), .val (paD (normF L.length (bothT t t2))), .val (.list (trD t)), .val (shD L p), ⟨rfl, rfl, rfl, rfl, rfl, rfl, rfl, rfl, rfl, rfl, rfl, rfl⟩, ?_⟩
  rw [hp, Option.bind_some, body_eq, evB_cons, E0, seqO_nx, evB_cons, T1 a1 b1 a2 b2 h3 ep, seqO_nx, evB_cons, T2 H h11 h12, seqO_nx, evB_cons, T3 (by omega) h4, seqO_nx, evB_cons, T4 H, seqO_nx, evB_cons, T5 H h5, seqO_nx,
      evB_cons, T6 H, seqO_nx, evB_cons, T7 (by omega) h6, seqO_nx, evB_cons, T8 H h7, seqO_nx, evB_cons, T9 H, seqO_nx, evB_cons, T10 a2 b2 a3 b3 h8 eq, seqO_nx, evB_cons, T11 H h9, seqO_nx, evB_cons, T12 H h10, seqO_nx,
      evB_cons, T13 H, seqO_nx, evB_cons, T14 H, seqO_nx, evB_cons, T15 H, seqO_nx, evB_nil]
theorem turns : ∀ (ds : List D) (a b : Int) (s1 s2 s3 s4 s5 s6 s7 s8 s9 s10 s11 s12 : SD), (noIo s1 = true ∧ noIo s2 = true ∧ noIo s3 = true ∧ noIo s4 = true ∧ noIo s5 = true ∧ noIo s6 = true ∧ noIo s7 = true ∧ noIo s8 = true ∧ noIo s9 = true ∧ noIo s10 = true ∧ noIo s11 = true ∧ noIo s12 = true) →
    ∃ (a' b' : Int) (u1 u2 u3 u4 u5 u6 u7 u8 u9 u10 u11 u12 : SD), forL (.nm 1) (evB (callF T W (n+6)) W b__law_right_0) ds [.io (potD a b), s1, s2, s3, s4, s5, s6, s7, s8, s9, s10, s11, s12, .un, .un, .un, .un]
        = some (.nx [.io (potD a' b'), u1, u2, u3, u4, u5, u6, u7, u8, u9, u10, u11, u12, .un, .un, .un, .un]) := by
  intro ds
  induction ds with
  | nil => intro a b s1 s2 s3 s4 s5 s6 s7 s8 s9 s10 s11 s12 _; exact ⟨a, b, s1, s2, s3, s4, s5, s6, s7, s8, s9, s10, s11, s12, rfl⟩
  | cons d r ih =>
    intro a b s1 s2 s3 s4 s5 s6 s7 s8 s9 s10 s11 s12 ⟨h1, h2, h3, h4, h5, h6, h7, h8, h9, h10, h11, h12⟩
    obtain ⟨a1, b1, u1, u2, u3, u4, u5, u6, u7, u8, u9, u10, u11, u12, hu, he⟩ := one_turn (W := W) (n := n) a b d s1 s2 s3 s4 s5 s6 s7 s8 s9 s10 s11 s12 h1 h2 h3 h4 h5 h6 h7 h8 h9 h10 h11 h12
    obtain ⟨a2, b2, v1, v2, v3, v4, v5, v6, v7, v8, v9, v10, v11, v12, hv⟩ := ih a1 b1 u1 u2 u3 u4 u5 u6 u7 u8 u9 u10 u11 u12 hu
    exact ⟨a2, b2, v1, v2, v3, v4, v5, v6, v7, v8, v9, v10, v11, v12, by rw [forL_nx he, hv]⟩
theorem right_true (a b : Int) : ∃ a' b' : Int, callF T W (n+7) 28 [.io (potD a b)] = some (.val (.bool true), [potD a' b']) := by
  obtain ⟨a', b', u1, u2, u3, u4, u5, u6, u7, u8, u9, u10, u11, u12, h⟩ := turns (W := W) (n := n) (rangeD 0 5) a b .un .un .un .un .un .un .un .un .un .un .un .un ⟨rfl, rfl, rfl, rfl, rfl, rfl, rfl, rfl, rfl, rfl, rfl, rfl⟩
  refine ⟨a', b', ?_⟩
  have n5 : (5 : Int).toNat = 5 := rfl
  have c5 : ((5 : Int) ≤ 16777216 ∧ -(2 ^ 62) ≤ (5 : Int)) = True := by simp only [eq_iff_iff, iff_true]; decide
  rw [run_28, run_eq rfl rfl]
  simp -implicitDefEqProofs only [d__law_right, seqO_nx, seqO_ret, seqO_ct, seqO_brk, getS_z, getS_s, set_z, set_s, evB_nil, evB_cons, evS_for, evE_lc, lcTurn_k, evE_c, evE_g, evE_v, takeS_k, tkK_val, tkK_own, peekS_k, pkK_val, pkK_own, pkK_io, res_val, res_slot, sdK_val, sdK_own, sdK_io, evE_bin, evE_neg, evE_cmp, evE_isN, evE_notN, evE_and, evE_or, evE_nt, evE_ite, evE_tup, evE_lst, evE_dct, evE_ix, evE_sl, evE_call, evE_callK, evE_blt, evE_isi, evE_get2, evT_tr, evT_cmp, evT_isN, evT_notN, evT_and, evT_or, evT_nt, evTo_n, evTo_s, evP_slot, evP_ex, evPs_n, evPs_c, evL_n, evL_c, evA_n, evA_e, ioK_own, ioK_io, evA_io, evO_n, evO_e, evI_seq, evI_rng1, evI_rng2, evI_enum, evI_zip, evS_asg, evS_par, evS_setIx, evS_ex, evS_mut, evS_iF, evS_ret, evS_retS, rsK_val, rsK_own, evS_retN, evS_pass, evS_ct, evS_brk, resL_n, resL_c, kAnd_b, kOr_b, kNt_b, kO_i, kR1_i, kR22_i, evR_n, evR_c, noIo_un, noIo_val, noIo_own, of_val, of_own, chgS_k, chK_own, chK_io, heldS_k, lstS_k, lsK_own, lsK_io, putV_nm, putV_tup, putP_nm, putP_ixs, putP_tup, putPs_n, putPs_c, putN_n, putN_c, retV_s, retI_s, callD_0, callD_1, callD_2, callD_3, callD_4, ciK_own, ciK_io, callD_i1, callD_i2, forL_n, avS_v, avS_i, startS_c, startS_z, startS_u, isi_s, isi_t, isi_ll, isi_lt, isi_i, isi_ib, truD_b, len_l, len_t, max_ii, min_ii, int_i, list_l, list_t, tuple_l, tuple_t, eqD_ss, eqD_ii, c_eq, c_ne, c_lt, c_le, c_gt, c_ge, b_add, b_sub, isN_n, isN_i, ixT0, ixT1, kB1, kC1, kN, kIte, kIx, kSl, kCall, kCK2, kCK, kBlt, kG2, kG1, kG, kTr, kTC1, kTAnd, kTOr, kPs, kLs, kAs, kR2, kZ2, kZ, kFor, kLT2, kLT1, kLc, kIf, kAsg, kPar, kSx2, kSx, kMut, kRs, putS_k, RV.d, Option.bind_some, Option.bind_none, Option.map_some, Option.map_none, hideS, wipeS, backS, List.map_cons, List.map_nil, List.length_cons, List.length_nil, if_true, if_false, Bool.false_eq_true, eq_self, outsOf, decide_true, decide_false, Bool.not_true, Bool.not_false, Nat.reduceAdd, Nat.reduceLT, Nat.zero_add, c5, n5, h]
end K82

/-! End1: the def that makes a pot out of the script; the call of the check on a fresh pot. -/
namespace PL
open PySem PySem.Spec PyProof.Rows L2
def F0 : Hp := fun _ => none
def Yi (K : PySem.W.Frag) (H : Hp) : Yx := ⟨K, F0, H, []⟩
def Φ0 : Fn := fun _ _ => none
def G0 : GG := { cs := [], fs := [], ks := [] }
/-- slots that hold numbers, or nothing that is known -/
theorem er_flat {K : PySem.W.Frag} {H0 H : Hp} {ρ : Env} {σ : SV} (s : Same H0 H) (l : ρ.length = σ.length) (h : ∀ (i : Nat) (d : D), ρ[i]? = some (.val d) → ∃ v, σ[i]? = some (some v) ∧ Rep K F0 d v)
    (n : ∀ (i : Nat) (d : D), ρ[i]? ≠ some (.own d) ∧ ρ[i]? ≠ some (.io d)) : ER (Yi K H0) ρ [] σ H F0 :=
  ⟨(fun b o e => by cases e), .refl _, fun b o e _ => s b o e, (fun b o e => by cases e), l, h, fun i d e => absurd e (n i d).1, fun i d e => absurd e (n i d).2, (fun p hp => by cases hp),
    (fun i j a hi _ _ _ => by obtain ⟨d, hd⟩ := hi; rcases hd with e | e; exact absurd e (n i d).1; exact absurd e (n i d).2), (fun t ht => by cases ht), List.nodup_nil, fun i a _ _ => by simp⟩
theorem er_none {K : PySem.W.Frag} {H : Hp} : ER (Yi K H) [] [] [] H F0 := er_flat (.refl _) rfl (fun i d e => by simp at e) fun i d => ⟨by simp, by simp⟩
theorem er_up {K : PySem.W.Frag} {H H' Hf' : Hp} {ρ : Env} {τ : List (D × Addr)} {σ : SV} (E : ER (Yi K H) ρ τ σ H' Hf') : Same H H' := fun b o e => E.keep b o e (by simp [Yi])
/-- a builtin over numbers -/
def rI (K : PySem.W.Frag) (b : Blt) : List V → Hp → VK → Prop := fun xs H Q => rBlt (Yi K H) b xs H Q
theorem call_I {X : Cx} (hc : X.calm = true) (hg : X.A.guards = some []) (hu : X.A.units + 200 < cLine) (b : Blt) : CallR X (bvOf b) (rI X.K b) :=
  fun pins s σ H xs us Q I rx h => call_D (Y := Yi X.K H) hc hg hu b pins s σ H xs us Q I rx h
theorem pk_ints {K : PySem.W.Frag} {Hf H : Hp} : ∀ zs : List Int, PkL K Hf H (zs.map PyData.int) (zs.map V.int)
  | [] => by simp [PkL]
  | z :: r => by
    have ih := pk_ints (K := K) (Hf := Hf) (H := H) r
    simp only [List.map_cons, PkL]
    exact ⟨_, _, rfl, by simp [Pk, Rep], ih⟩
theorem same0 {H : Hp} : Same F0 H := fun b o e => by cases e
def spPot (K : PySem.W.Frag) : Sp := fun vs H Q _ => ∃ (a : Addr) (ns : List Int) (k : Nat), vs = [.ref a, .int (k : Nat)] ∧ SqL K H a (ns.map V.int) ∧
  ∀ (p : Addr) (x y : Int) (H' : Hp), Same H H' → H p = none → H' p = some (.lst [.int x, .int y]) → Q (.ref p) H'
theorem rI1 {K : PySem.W.Frag} {b : Blt} {H : Hp} {Q : VK} (zs : List Int) (z : Int) (e : bltD b (zs.map PyData.int) = some (.val (.int z))) (h : ∀ H', Same H H' → Q (.int z) H') : rI K b (zs.map V.int) H Q :=
  ⟨F0, [], [], [], _, _, er_none, pk_ints zs, e, fun v H' Hf' s vr => by
    obtain ⟨E, r⟩ := vr
    have r : v = .int z := by simpa [Rep, Yi] using r
    subst r
    exact h H' (er_up E)⟩
theorem ifD_t {c : Bool} {p q : Prop} (hc : c = true) (h : p) : if c = true then p else q := by rw [if_pos hc]; exact h
theorem ifD_f {c : Bool} {p q : Prop} (hc : c = false) (h : q) : if c = true then p else q := by rw [hc, if_neg Bool.false_ne_true]; exact h
section
variable {P : Program} {w : World} {K : PySem.W.Frag} {mg : Str → Option Value} {base : Heap}
theorem xok0 {N : List Str} {qual : Str} {st : Stmt} {fa : Addr} {code : Value} {A : Around} {outer : List PySem.Env} {s : Shared} {H : Hp} {k : Nat} (nd : N.Nodup) (room : Room k (A.deeper (envOfC qual (defScope st) s.heap.objs.size fa code)))
    (gu : (A.deeper (envOfC qual (defScope st) s.heap.objs.size fa code)).guards = some []) (mz : ∀ x ∈ bltNames, mg (Str.ofString x) = none) :
    XOk (cxOf CX0 P w K mg base N qual (defScope st) fa code A outer s H E0).nox Φ0 G0 ⟨N, defScope st, fun _ => true⟩ := {
      N := rfl
      sc := rfl
      fn := fun _ _ => rfl
      nd := nd
      calm := rfl
      gd := gu
      room := Nat.lt_of_le_of_lt (by
        show _ ≤ (A.deeper (envOfC qual (defScope st) s.heap.objs.size fa code)).units + 16 * k + 200
        exact Nat.add_le_add_right (Nat.le_add_right _ _) _) room.un
      cs := fun p hp => by cases hp
      bl := mz
      fs := fun g y np hg => by simp [G0] at hg
      ks := fun q hq => by cases hq }
theorem pot_fn {st : Stmt} {fa : Addr} {fd : FuncData} {k0 : Nat} {p1 p2 p3 p4 p5 p6 p7 p8 p9 p10 p11 p12 p13 : Pos} {e2 : Expr} {sR : Stmt} {r2 : RE} {rR : RS}
    (F : Fun K "_law_pot" "_law_pot" st fa fd) (S : FnScope ["script", "k", "cell"] ["script", "k"] (defScope st))
    (hb : defBody st = [.Assign [.Name "cell" p1] (.IfExp (.Compare (.Name "k" p2) [.Lt] [.Call (.Name "len" p3) [.Name "script" p4] [] p5] p6) (.Call (.Name "abs" p7) [.Subscript (.Name "script" p8) (.Name "k" p9) p10] [] p11) e2 p12) p13, sR])
    (hl : (defScope st).names.lookup ("cell" : Str) = some NameKind.local ∧ (defScope st).names.lookup ("len" : Str) = some NameKind.globalImplicit ∧ (defScope st).names.lookup ("abs" : Str) = some NameKind.globalImplicit ∧ (defScope st).names.lookup ("script" : Str) = some NameKind.local ∧ (defScope st).names.lookup ("k" : Str) = some NameKind.local)
    (c2 : chkE G0 r2 ⟨["script", "k", "cell"], defScope st, fun _ => true⟩ e2 = true) (cR : chkB G0 [rR] ⟨["script", "k", "cell"], defScope st, fun _ => true⟩ [sR] = true)
    (ev2 : ∀ k : Nat, ∃ z, evE Φ0 r2 [.un, .val (.int (k : Nat)), .un] = some (.val (.int z), [.un, .val (.int (k : Nat)), .un]))
    (evR : ∀ (k : Nat) (z : Int), ∃ x y ρ, evB Φ0 0 [rR] [.un, .val (.int (k : Nat)), .val (.int z)] = some (.ret (.own (.list [.int x, .int y])) ρ))
    (mz : ∀ x ∈ bltNames, mg (Str.ofString x) = none) : FnG P w K mg base (k0 + 1) fa fd ["script", "k"] (spPot K) := by
  refine fnG_of F S (fun vs H Q h => by obtain ⟨a, ns, k, rfl, _⟩ := h; rfl) fun code A outer s H vs Q room gu pre => ?_
  obtain ⟨a, ns, k, rfl, hS, post⟩ := pre
  have xok := xok0 (P := P) (w := w) (K := K) (mg := mg) (base := base) (outer := outer) (H := H) S.nd room gu mz
  obtain ⟨l1, l2, l3, l4, l5⟩ := hl
  rw [hb]
  have mlen : mg "len" = none := mz "len" (by decide)
  have mabs : mg "abs" = none := mz "abs" (by decide)
  have hu64 : (A.deeper (envOfC "_law_pot" (defScope st) s.heap.objs.size fa code)).units + 64 < cLine := Nat.lt_of_le_of_lt (Nat.add_le_add_left (by decide) _) (Nat.lt_of_le_of_lt (Nat.add_le_add_right (Nat.le_add_right _ _) _) room.un)
  have hu200 : (A.deeper (envOfC "_law_pot" (defScope st) s.heap.objs.size fa code)).units + 200 < cLine := Nat.lt_of_le_of_lt (Nat.add_le_add_right (Nat.le_add_right _ _) _) room.un
  -- the words
  have v0 : ∀ p, PE (cxOf CX0 P w K mg base ["script", "k", "cell"] "_law_pot" (defScope st) fa code A outer s H E0).nox (.Name "script" p) (tVar 0) := fun p => pe_var rfl (.inl l4)
  have v1 : ∀ p, PE (cxOf CX0 P w K mg base ["script", "k", "cell"] "_law_pot" (defScope st) fa code A outer s H E0).nox (.Name "k" p) (tVar 1) := fun p => pe_var rfl (.inl l5)
  have hlen := pe_callB (p := p3) (pos := p5) call_len (x := "len") (show Gl (cxOf CX0 P w K mg base ["script", "k", "cell"] "_law_pot" (defScope st) fa code A outer s H E0).nox "len" from l2) mlen (by rfl) (pa_cons (v0 p4) pa_nil)
  have hcmp := pt_cmpR (pos := p6) (op_cmpD (X := (cxOf CX0 P w K mg base ["script", "k", "cell"] "_law_pot" (defScope st) fa code A outer s H E0).nox) hu64 .lt) (v1 p2) hlen (by rfl)
  have hix := pe_ix (pos := p10) (ix_list (X := (cxOf CX0 P w K mg base ["script", "k", "cell"] "_law_pot" (defScope st) fa code A outer s H E0).nox)) (v0 p8) (v1 p9) (fun _ _ => rfl)
  have habs := pe_callB (p := p7) (pos := p11) (call_I (X := (cxOf CX0 P w K mg base ["script", "k", "cell"] "_law_pot" (defScope st) fa code A outer s H E0).nox) rfl gu hu200 .abs) (x := "abs") l3 mabs (by rfl) (pa_cons hix pa_nil)
  have helse := sE (Y := Yi K H) r2 _ _ e2 rfl xok c2
  have hif := pe_ifExp (pos := p12) hcmp habs helse
  have hset := ps_asg (pos := p13) hif (pg_name (pos := p1) S.nd (i := 2) (x := "cell") rfl (.inl l1) (.inr l1))
  have hret := sB (Y := Yi K H) (w := 0) rfl xok PassesOwn.never S.kind [rR] [sR] cR
  refine ⟨_, pss_cons hset hret, ?_⟩
  have fin : ∀ (H1 : Hp) (z : Int), Same H H1 → tB (Yi K H) Φ0 0 [rR] { nx := fun _ H' => Q .non H', rt := Q } [some (.ref a), some (.int (k : Nat)), some (.int z)] H1 := fun H1 z s1 => by
    obtain ⟨x, y, ρ, e⟩ := evR k z
    refine ⟨F0, _, _, er_flat s1 rfl (fun i d h => ?_) (fun i d => ⟨?_, ?_⟩), e, fun v σ' H' Hf' s2 vr => ?_⟩
    · rcases i with _ | _ | _ | i
      · simp at h
      · simp at h; subst h; exact ⟨_, rfl, by simp [Rep]⟩
      · simp at h; subst h; exact ⟨_, rfl, by simp [Rep]⟩
      · simp at h
    · rcases i with _ | _ | _ | i <;> simp
    · rcases i with _ | _ | _ | i <;> simp
    · obtain ⟨p, rfl, E⟩ := vr
      obtain ⟨⟨_, vs, e1, e2⟩, e3⟩ := E.tmp _ (List.mem_cons_self ..)
      have e2 : vs = [.int x, .int y] := by simpa [RepL, Rep] using e2
      subst e2
      exact post p x y H' (er_up E) e3 e1
  have cmpE : cmpD .lt (.int (k : Nat)) (.int ((ns.map V.int).length : Nat)) = some (decide ((k : Int) < ((ns.map V.int).length : Nat))) := rfl
  refine ⟨.int (k : Nat), rfl, .ref a, rfl, .ref a, (ns.map V.int).length, rfl, .inl ⟨_, hS, rfl⟩, F0, _, _, _, same0, by simp [Pk, Rep], by simp [Pk, Rep], cmpE, _, rfl, ?_⟩
  by_cases hlt : (k : Int) < ((ns.map V.int).length : Nat)
  · refine ifD_t (decide_eq_true hlt) ?_
    have hk : k < ns.length := by rw [List.length_map] at hlt; omega
    refine ⟨.ref a, rfl, .int (k : Nat), rfl, a, _, _, .int (ns[k]), rfl, rfl, hS, ?_, ?_⟩
    · exact atI_nat (j := k) (by rw [List.getElem?_map, List.getElem?_eq_getElem hk]; rfl)
    · exact rI1 [ns[k]] _ rfl fun H1 s1 => fin H1 _ s1
  · refine ifD_f (decide_eq_false hlt) ?_
    obtain ⟨z, e⟩ := ev2 k
    refine ⟨F0, _, [], _, _, er_flat (.refl _) rfl (fun i d h => ?_) (fun i d => ⟨?_, ?_⟩), e, fun v H' Hf' s2 vr => ?_⟩
    · rcases i with _ | _ | _ | i
      · simp at h
      · simp at h; subst h; exact ⟨_, rfl, by simp [Rep]⟩
      · simp at h
      · simp at h
    · rcases i with _ | _ | _ | i <;> simp
    · rcases i with _ | _ | _ | i <;> simp
    · obtain ⟨E, r⟩ := vr
      have r : v = .int z := by simpa [Rep, Yi] using r
      subst r
      exact fin H' z (er_up E)
end
end PL

/-! End2: the def law, all checks in a row. -/
namespace PL
open PySem PySem.Spec PyProof.Rows L2
theorem FnG.imp {P : Program} {w : World} {K : PySem.W.Frag} {mg : Str → Option Value} {base : Heap} {k : Nat} {f : Addr} {fd : FuncData} {ps : List Str} {sp sp' : Sp} (F : FnG P w K mg base k f fd ps sp) (h : ∀ vs H Q, sp' vs H Q E0 → sp vs H Q E0) : FnG P w K mg base k f fd ps sp' :=
  ⟨fun vs H Q q => F.len vs H Q (h vs H Q q), fun A outer s H args us vs Q hr hg e b r q => F.run A outer s H args us vs Q hr hg e b r (h vs H Q q)⟩
theorem FnG.up {P : Program} {w : World} {K : PySem.W.Frag} {mg : Str → Option Value} {base : Heap} {j k : Nat} {f : Addr} {fd : FuncData} {ps : List Str} {sp : Sp} (F : FnG P w K mg base j f fd ps sp) (h : j ≤ k) : FnG P w K mg base k f fd ps sp :=
  ⟨F.len, fun A outer s H args us vs Q hr => F.run A outer s H args us vs Q (hr.mono h)⟩
/-- a check that holds of every pot -/
def spR (K : PySem.W.Frag) : Sp := fun vs H Q _ => ∃ (p : Addr) (x y : Int), vs = [.ref p] ∧ H p = some (.lst [.int x, .int y]) ∧ ∀ H' : Hp, (∀ b o, b ≠ p → H b = some o → H' b = some o) → Q (.bl true) H'
theorem right_imp {K : PySem.W.Frag} {Φ : Fn} {f : Nat} (h : ∀ x y : Int, ∃ o, Φ f [.io (.list [.int x, .int y])] = some (.val (.bool true), [o])) (vs : List V) (H : Hp) (Q : VK) (q : spR K vs H Q E0) : spOf K Φ f vs H Q E0 := by
  obtain ⟨p, x, y, rfl, e, k⟩ := q
  obtain ⟨o, ho⟩ := h x y
  refine ⟨F0, [.io (.list [.int x, .int y])], _, _, same0, ⟨p, [], rfl, ⟨rfl, _, e, by simp [RepL, Rep]⟩, rfl⟩, by simp [ioAd], ho, fun v H' Hf' ex => ?_⟩
  have hv : v = .bl true := by simpa [ValOk, Rep] using ex.val
  subst hv
  exact k H' fun b u n hb => ex.keep b u hb (by simpa [ioAd] using n)
section
variable {X : Cx} {pos : Pos}
/-- the call of a def, by its promise -/
theorem pe_G {k : Nat} {a : Addr} {fd : FuncData} {ps : List Str} {sp : Sp} {x : Str} {p : Pos} {e : Expr} {es : List Expr} {t : TA} (G : FnG X.prog X.w X.K X.mg X.base k a fd ps sp) (hr : Room k X.A) (hgd : X.A.guards = some []) (hm : X.mg x = some (.ref a))
    (kp : PySem.W.keepIn X.K (.ref a) = true) (hb : Binds X.K fd ps []) (ha : PA X (e :: es) t) (hg : Gl X x) (hdb : (x == ("__debug__" : Str)) = false) (hs : (e :: es).all noStar = true) :
    PE X (.Call (.Name x p) (e :: es) [] pos) (fun σ H Q => t σ H fun vs H1 => sp vs H1 Q E0) := by
  refine ⟨fun pins s σ H Q I q => ?_⟩
  have last : ∀ (us : List Value) (s1 : Shared) (vs : List V) (H1 : Hp), Inv X pins σ H1 s1 → Vals vs us → sp vs H1 Q E0 → wpAny (model X.prog X.w) X.A (call (.ref a) us) (EP X pins σ Q) X.xe s1 := fun us s1 vs H1 I1 rv q1 => by
    have hl : (us ++ []).length = ps.length := by rw [List.append_nil, ← rv.length]; exact G.len vs H1 Q q1
    exact run_G G hr hgd (hb s1 us I1.kIn hl) I1 (by rw [List.append_nil]; exact rv) q1
  rw [List.all_cons, Bool.and_eq_true] at hs
  exact wpAny_Call_Name_kw (ld_glob I hg hm (PySem.W.callWith_K (h₀ := X.base) I.ok.mod.kin kp (thn (ha.run pos pins s σ H _ I q) fun us s1 ⟨vs, H1, I1, rv, q1⟩ => ⟨I1.kIn, last us s1 vs H1 I1 rv q1⟩) (star_one hs.1) (star_any hs.2)) hdb)
end
theorem sqL_up {K : PySem.W.Frag} {H H' : Hp} (e : Same H H') {a : Addr} {xs : List V} (h : SqL K H a xs) : SqL K H' a xs := by
  rcases h with (q | ⟨o, q⟩) | q
  · exact .inl (.inl (e _ _ q))
  · exact .inl (.inr ⟨o, e _ _ q⟩)
  · exact .inr q
def spLaw (K : PySem.W.Frag) : Sp := fun vs H Q _ => ∃ (a : Addr) (ns : List Int), vs = [.ref a] ∧ SqL K H a (ns.map V.int) ∧ ∀ H', Q (.bl true) H'
theorem rep_trues {K : PySem.W.Frag} {Hf : Hp} : ∀ n : Nat, RepL K Hf (List.replicate n (PyData.bool true)) (List.replicate n (V.bl true))
  | 0 => by simp [RepL]
  | n + 1 => by
    rw [List.replicate_succ, List.replicate_succ]
    exact .cons (by simp [Rep]) (rep_trues n)
theorem bols_rep : ∀ n : Nat, bltD .all [.list (List.replicate n (PyData.bool true))] = some (.val (.bool true)) := by
  intro n
  have h : ∀ n : Nat, bolsOf (List.replicate n (PyData.bool true)) = some (List.replicate n true) := by
    intro n
    induction n with
    | zero => rfl
    | succ n ih => rw [List.replicate_succ, bolsOf, ih, List.replicate_succ]; rfl
  simp [bltD, h]
section
variable {P : Program} {w : World} {K : PySem.W.Frag} {mg : Str → Option Value} {base : Heap}
abbrev cL (st : Stmt) : CC := ⟨["script", "k"], defScope st, fun _ => true⟩
/-- what a turn's word does -/
def tElt (K : PySem.W.Frag) : TE := fun σ H Q => tCons (fun σ H Q => tCons (tVar 0) (tCons (tVar 1) tNil) σ H fun vs H1 => spPot K vs H1 Q E0) tNil σ H fun vs H1 => spR K vs H1 Q E0
theorem elt_ok {σ : SV} {H0 H : Hp} {Q : VK} {a : Addr} {ns : List Int} {i : Nat} (h0 : σ[0]? = some (some (.ref a))) (h1 : σ[1]? = some (some (.int (i : Nat)))) (hS : SqL K H a (ns.map V.int))
    (k : ∀ (p : Addr) (H' : Hp), H p = none → (∀ b o, b ≠ p → H b = some o → H' b = some o) → Q (.bl true) H') : tElt K σ H Q := by
  refine ⟨_, h0, _, h1, a, ns, i, rfl, hS, fun p x y H1 s1 n1 e1 => ⟨p, x, y, rfl, e1, fun H2 k2 => k p H2 n1 fun b o nb hb => k2 b o nb (s1 b o hb)⟩⟩
theorem law_fn {st : Stmt} {fa fp fr : Addr} {fd fdp fdr : FuncData} {kk : Nat} {p1 p2 p3 p4 p5 p6 p7 p8 p9 p10 p11 p12 p13 : Pos} {rx : Expr} {scope : Scope} {tr : TE}
    (F : Fun K "law" "law" st fa fd) (S : FnScope ["script", "k"] ["script"] (defScope st))
    (hb : defBody st = [.Return (some (.Call (.Name "all" p1) [.ListComp (.Call (.Name "_law_right" p2) [.Call (.Name "_law_pot" p3) [.Name "script" p4, .Name "k" p5] [] p6] [] p7) [⟨.Name "k" p8, .Call (.Name "range" p9) [rx] [] p10, [], 0⟩] scope p11] [] p12)) p13])
    (hx : noStar rx = true)
    (ck : (glB (cL st) "all" && glB (cL st) "range" && blkC (cL st).N (cL st).sc scope (ownOf (cL st) [1]) && visB (blkCC (cL st) scope) "script" && visB (blkCC (cL st) scope) "k" && locB (blkCC (cL st) scope) 1 "k" && glB (blkCC (cL st) scope) "_law_right" && glB (blkCC (cL st) scope) "_law_pot") = true)
    (hr : ∀ (code : Value) (A : Around) (outer : List PySem.Env) (s : Shared) (H : Hp), (A.deeper (envOfC "law" (defScope st) s.heap.objs.size fa code)).guards = some [] → Room kk (A.deeper (envOfC "law" (defScope st) s.heap.objs.size fa code)) →
      PE (cxOf CX0 P w K mg base ["script", "k"] "law" (defScope st) fa code A outer s H E0).nox rx tr)
    (hj : ∀ (σ : SV) (H : Hp) (a : Addr) (ns : List Int) (Q : VK), σ[0]? = some (some (.ref a)) → SqL K H a (ns.map V.int) → (∀ (j : Nat) (H' : Hp), j ≤ 1000 → Same H H' → Q (.int (j : Nat)) H') → tr σ H Q)
    (Gp : FnG P w K mg base kk fp fdp ["script", "k"] (spPot K)) (mp : mg "_law_pot" = some (.ref fp)) (kp : PySem.W.keepIn K (.ref fp) = true) (bp : Binds K fdp ["script", "k"] [])
    (Gr : FnG P w K mg base kk fr fdr ["pot"] (spR K)) (mr : mg "_law_right" = some (.ref fr)) (kr : PySem.W.keepIn K (.ref fr) = true) (br : Binds K fdr ["pot"] [])
    (mz : ∀ x ∈ bltNames, mg (Str.ofString x) = none) : FnG P w K mg base (kk + 1) fa fd ["script"] (spLaw K) := by
  refine fnG_of F S (fun vs H Q h => by obtain ⟨a, ns, rfl, _⟩ := h; rfl) fun code A outer s H vs Q room gu pre => ?_
  obtain ⟨a, ns, rfl, hS, post⟩ := pre
  have xok := xok0 (P := P) (w := w) (K := K) (mg := mg) (base := base) (outer := outer) (H := H) S.nd room gu mz
  simp only [Bool.and_eq_true] at ck
  obtain ⟨⟨⟨⟨⟨⟨⟨c1, c2⟩, c3⟩, c4⟩, c5⟩, c6⟩, c7⟩, c8⟩ := ck
  have hu200 : (A.deeper (envOfC "law" (defScope st) s.heap.objs.size fa code)).units + 200 < cLine := Nat.lt_of_le_of_lt (Nat.add_le_add_right (Nat.le_add_right _ _) _) room.un
  have helt : ∀ (s' : Shared) (H' : Hp) (C : Addr) (cl : List (Str × Addr)) (fp' : List Addr), PE (((cxOf CX0 P w K mg base ["script", "k"] "law" (defScope st) fa code A outer s H E0).nox).blk s' H' scope (compEnvC scope cl C ((cxOf CX0 P w K mg base ["script", "k"] "law" (defScope st) fa code A outer s H E0).nox).env) fp')
      (.Call (.Name "_law_right" p2) [.Call (.Name "_law_pot" p3) [.Name "script" p4, .Name "k" p5] [] p6] [] p7) (tElt K) := fun s' H' C cl fp' => by
    have bok := blk_ok (scope := scope) (s := s') (H := H') (C := C) (cl := cl) (fp := fp') xok
    have w0 := pe_var (pos := p4) (i := 0) (x := "script") (by rw [bok.N]; rfl) (vis_of bok c4)
    have w1 := pe_var (pos := p5) (i := 1) (x := "k") (by rw [bok.N]; rfl) (vis_of bok c5)
    have hpot := pe_G (p := p3) (pos := p6) (x := "_law_pot") Gp room gu mp kp bp (pa_cons w0 (pa_cons w1 pa_nil)) (gl_of bok c8) (by decide) rfl
    exact pe_G (p := p2) (pos := p7) (x := "_law_right") Gr room gu mr kr br (pa_cons hpot pa_nil) (gl_of bok c7) (by decide) rfl
  have hrng := pi_range1 (p := p9) (pos := p10) (tg := .Name "k" p8) (gl_of xok c2) (mz "range" (by decide)) (pa_cons (hr code A outer s H gu room) pa_nil (star_one hx)) (star_one hx)
  have hlc := pe_lc (pos := p11) (elt := .Call (.Name "_law_right" p2) [.Call (.Name "_law_pot" p3) [.Name "script" p4, .Name "k" p5] [] p6] [] p7) (ifs := []) rfl S.nd hrng (own_ok xok c3)
    (fun s' H' C cl fp' => loc_of (p := p8) (blk_ok (scope := scope) (s := s') (H := H') (C := C) (cl := cl) (fp := fp') xok) c6) (fun s' H' C cl fp' => pts_nil) helt
  have hall := pe_callB (p := p1) (pos := p12) (call_I (X := (cxOf CX0 P w K mg base ["script", "k"] "law" (defScope st) fa code A outer s H E0).nox) rfl gu hu200 .all) (x := "all") (gl_of xok c1) (mz "all" (by decide)) (by rfl) (pa_cons hlc pa_nil)
  rw [hb]
  refine ⟨_, pss_cons (ps_ret (pos := p13) hall) pss_nil, ?_⟩
  rw [own_snd]
  refine hj _ _ a ns _ rfl hS fun j H1 hj1 s1 => ⟨j, rfl, by omega, by omega, ?_⟩
  intro D nD
  refine lc_range (fun i H2 => (∀ b o, H b = some o → H2 b = some o) ∧ H2 D = some (.lst (List.replicate i (V.bl true)))) ⟨fun b o hb => ?_, upd_same⟩ (fun i H2 hi ⟨q1, q2⟩ => ?_) fun H2 ⟨q1, q2⟩ => ?_
  · have hb1 := s1 b o hb
    rw [upd_ne (fun e => by subst e; rw [nD] at hb1; cases hb1)]; exact hb1
  · refine ⟨?_, ?_⟩
    · rfl
    · show tElt K _ H2 _
      refine elt_ok (a := a) (ns := ns) (i := i) (H0 := H) rfl (by rw [Int.zero_add]; rfl) (sqL_up q1 hS) fun p H3 np k3 => ?_
      have nDp : D ≠ p := fun e => by subst e; rw [np] at q2; cases q2
      refine ⟨_, k3 D _ nDp q2, by rw [List.length_replicate]; exact Nat.lt_of_lt_of_le hi (Nat.le_trans (by simpa using hj1) (by decide)), fun b o hb => ?_, ?_⟩
      · have hb2 := q1 b o hb
        have n1 : b ≠ p := fun e => by subst e; rw [np] at hb2; cases hb2
        have n2 : b ≠ D := fun e => by subst e; have := s1 b o hb; rw [nD] at this; cases this
        rw [upd_ne n2]; exact k3 b o n1 hb2
      · rw [upd_same, List.replicate_succ']
  · refine ⟨F0, [], [], [], [.list (List.replicate _ (PyData.bool true))], _, er_none, ⟨_, _, rfl, ⟨D, _, rfl, q2, rep_trues _⟩, rfl⟩, bols_rep _, fun v H3 Hf3 s3 vr => ?_⟩
    obtain ⟨E, r⟩ := vr
    have r : v = .bl true := by simpa [Rep, Yi] using r
    subst r
    exact post H3
end
end PL

/-! End3: the law's claim from the promise of its def. -/
namespace PL
open PySem PySem.Spec PyProof.Rows L2
/-- what the claim asks of a call's end -/
def EndOk (h0 : Shared) (r : Result) (z : Shared) : Prop := r = .ok (.ret (.bool true)) ∧ OldK h0.heap z.heap ∧ z.os = h0.os ∧ AllBare z.gens
section
variable {P : Program} {w : World} {K : PySem.W.Frag} {mg mb : Str → Option Value} {kk : Nat} {fa sc : Addr} {fd : FuncData} {s0 : Shared} {items : List Value} {ns : List Int}
/-- a heap in which the script alone is watched, if anything is -/
structure Wat (K : PySem.W.Frag) (sc : Addr) (T : Hp) : Prop where
  one : ∀ b u, T b = some u → b = sc ∧ K.lookup sc = none ∧ ∃ o xs, u = .frz o (.lst xs)
theorem end_core {T : Hp} (W : Wat K sc T) (q : SqL K T sc (ns.map V.int)) (good : HOk P w T s0.heap) (KX : K.In s0.heap) (nm : s0.heap.Ns mainGlobals mg) (nb : s0.heap.Ns builtinsNs mb) (bb : ∀ x : Str, x ≠ "__name__" → mb x = bootBuiltins x)
    (lim : s0.heap.NoLimit) (gens : s0.gens = #[]) (hs : s0.heap.get? sc = some { cls := .type "list", data := .seq items.toArray }) (room : Room kk callerA)
    (G : ∀ base : Heap, K.In base → base.Ns mainGlobals mg → FnG P w K mg base kk fa fd ["script"] (spLaw K)) (bnd : ∀ (s : Shared) (u : Value), BindsTo s fd ⟨[u], []⟩ [("script", u)]) :
    codeAny (model P w) callerA (.call (.ref fa) ⟨[.ref sc], []⟩) (EndOk s0) s0 := by
  have kept : ∀ {b : Addr} {o : Obj}, s0.heap.get? b = some o → T b = none → (hidT s0.heap T).get? b = some o := fun {b o} e n => hidT_get e n
  have plain : ∀ {b : Addr} {o : Obj} {es : Array DictEntry} {n : Nat}, s0.heap.get? b = some o → o.data = .dict es n → T b = none := fun {b o es n} e d => by
    rcases hT : T b with _ | u
    · rfl
    · obtain ⟨rfl, _, _⟩ := W.one b u hT
      rw [hs] at e
      cases e
      exact absurd (show Data.seq items.toArray _ = Data.dict es n from d) (by intro z; cases z)
  have spaces : ∀ {b : Addr} {m : Str → Option Value}, s0.heap.Ns b m → (hidT s0.heap T).Ns b m := fun {b m} ⟨o, es, n, e, d, r⟩ => ⟨o, es, n, kept e (plain e d), d, r⟩
  have kin : K.In (hidT s0.heap T) := fun b o e => kept (KX b o e) (by
    rcases hT : T b with _ | u
    · rfl
    · obtain ⟨rfl, z, _⟩ := W.one b u hT
      rw [z] at e; cases e)
  have modl : Mod K mg (hidT s0.heap T) := ⟨kin, spaces nm, ⟨mb, spaces nb, bb⟩, by obtain ⟨mc, z1, z2⟩ := lim; exact ⟨mc, spaces z1, z2⟩⟩
  have env : Env0 P w K mg (hidT s0.heap T) callerA [] s0 T := ⟨rfl, modl, fun b o e => of_hidT e, Nat.le_of_eq (hidT_size _ _), trivial, (fun b z => nomatch z), good, .of_eq gens⟩
  have run := (G _ kin (spaces nm)).run callerA [] s0 T ⟨[.ref sc], []⟩ [.ref sc] [.ref sc] (fun v _ => v = .bl true) room rfl env (bnd s0 (.ref sc)) (.cons rfl .nil) ⟨sc, ns, rfl, q, fun _ => rfl⟩
  refine codeAny_mono run fun r z h => ?_
  rcases r with e | f
  · exact False.elim h
  · rcases f with _ | _ | _ | u
    · exact False.elim h
    · exact False.elim h
    · exact False.elim h
    · obtain ⟨v, T', os, bare, un, ok', rv, hv⟩ := h
      have hv : v = .bl true := hv
      subst hv
      have hu : u = Value.bool true := rv
      subst hu
      refine ⟨rfl, OldK.of_keep fun b o e => ?_, os, bare⟩
      rcases hT : T b with _ | x
      · exact un.keep b o e hT (fun z => nomatch z) (fun z => nomatch z)
      · obtain ⟨_, _, ob, xs, rfl⟩ := W.one b x hT
        have t2 := un.frzs b ob _ hT
        have g1 := (good b _ hT).1
        have g2 := (ok' b _ t2).1
        rw [e] at g1; cases g1
        exact g2
/-- the script is watched unless it is the module's own -/
theorem end_call (hi : IntsAre items ns) (hl : ns.length ≤ sizeLine) (KX : K.In s0.heap) (nm : s0.heap.Ns mainGlobals mg) (nb : s0.heap.Ns builtinsNs mb) (bb : ∀ x : Str, x ≠ "__name__" → mb x = bootBuiltins x)
    (lim : s0.heap.NoLimit) (gens : s0.gens = #[]) (hs : s0.heap.get? sc = some { cls := .type "list", data := .seq items.toArray }) (room : Room kk callerA)
    (G : ∀ base : Heap, K.In base → base.Ns mainGlobals mg → FnG P w K mg base kk fa fd ["script"] (spLaw K)) (bnd : ∀ (s : Shared) (u : Value), BindsTo s fd ⟨[u], []⟩ [("script", u)]) :
    codeAny (model P w) callerA (.call (.ref fa) ⟨[.ref sc], []⟩) (EndOk s0) s0 := by
  have vals := vals_ints hi
  rcases hk : K.lookup sc with _ | ob
  · -- watched
    have at_ : ∀ b u, (if b = sc then some (HO.frz { cls := .type "list", data := .seq items.toArray } (.lst (ns.map V.int))) else none) = some u → b = sc ∧ HO.frz { cls := .type "list", data := .seq items.toArray } (.lst (ns.map V.int)) = u := fun b u z => by
      split at z
      · rename_i e
        exact ⟨e, Option.some.inj z⟩
      · cases z
    refine end_core (T := fun b => if b = sc then some (HO.frz { cls := .type "list", data := .seq items.toArray } (.lst (ns.map V.int))) else none) ⟨fun b u z => ?_⟩ (.inl (.inr ⟨_, if_pos rfl⟩)) (fun b u z => ?_) KX nm nb bb lim gens hs room G bnd
    · obtain ⟨e1, e2⟩ := at_ b u z
      exact ⟨e1, hk, _, _, e2.symm⟩
    · obtain ⟨rfl, e2⟩ := at_ b u z
      subst e2
      exact ⟨hs, by rw [List.length_map]; exact hl, items, _, vals, hs⟩
  · have e := KX sc ob hk
    rw [hs] at e
    cases e
    have big : items.toArray.size ≤ sizeLine := by rw [List.size_toArray, hi.length]; exact hl
    exact end_core (T := F0) ⟨fun b u z => by cases z⟩ (.inr ⟨_, items.toArray, _, hk, rfl, rfl, rfl, big, by simpa using vals⟩) (fun b u z => by cases z) KX nm nb bb lim gens hs room G bnd
end
/-- the walk that k_fill leaves -/
theorem walk_G {l : PySem.W.OpenLaw} {n kk : Nat} {q : Program} {loose : List Str} {XP : (Str → Option Value) → Heap → Prop} {YP : World → Heap → Prop} {d : DefRec} {K : Params → PySem.W.Frag} (most : l.most = some n) (n_ok : n ≤ sizeLine) (nodef : d.params.defaults = []) (room : Room kk callerA)
    (inY : ∀ (w : World) (h : Heap), YP w h → (K w.params).In h)
    (prom : ∀ (w : World) (mg : Str → Option Value) (fa : Addr) (h : Heap), (K w.params).In h → h.Ns mainGlobals mg → mg d.name = some (.ref fa) →
      ∃ fd : FuncData, (∀ (s : Shared) (u : Value), BindsTo s fd ⟨[u], []⟩ [("script", u)]) ∧ ∀ base : Heap, (K w.params).In base → base.Ns mainGlobals mg → FnG l.prog w (K w.params) mg base kk fa fd ["script"] (spLaw (K w.params))) :
    PySem.W.WalkO q loose XP YP l.row.toRowW d [] (fun f vs => PySem.call f vs) :=
  Att.attach_call most nodef fun w _ s1 mg mb fa _ _ _ _ sc items ns gr y _ _ _ at_ hs hi hn gens => by
    have kin := inY w _ y
    obtain ⟨fd, bnd, G⟩ := prom w mg fa _ kin gr.T.g at_
    exact end_call hi (Nat.le_trans hn n_ok) kin gr.T.g gr.T.b gr.T.builtins gr.T.nolimit gens hs room G bnd
end PL

/-! End4: small joints: a table from its defs, how many pots law takes. -/
namespace PL
open PySem PySem.Spec PyProof.Rows L2
def AllAt (p : Nat → Df → Prop) : Nat → List Df → Prop
  | _, [] => True
  | i, d :: r => p i d ∧ AllAt p (i + 1) r
theorem allAt' {p : Nat → Df → Prop} : ∀ {l : List Df} {j i : Nat} {d : Df}, AllAt p j l → l[i]? = some d → p (j + i) d
  | [], _, _, _, _, e => by simp at e
  | d :: r, j, 0, d', h, e => by
    have e : d = d' := by simpa using e
    subst e; exact h.1
  | d :: r, j, i + 1, d', h, e => by
    have := allAt' (l := r) (j := j + 1) (i := i) h.2 (by simpa using e)
    rwa [show j + (i + 1) = j + 1 + i by omega]
theorem allAt {p : Nat → Df → Prop} {l : List Df} (h : AllAt p 0 l) (i : Nat) (d : Df) (e : l[i]? = some d) : p i d := by
  have := allAt' h e
  rwa [Nat.zero_add] at this
theorem names_of {T : List Df} {G : GG} (h : G.fs = T.map fun d => (d.name, d.ps)) (f : Nat) (x : String) (np : Nat) (e : G.fs[f]? = some (x, np)) : ∃ df, T[f]? = some df ∧ df.name = x ∧ df.ps = np := by
  rw [h, List.getElem?_map] at e
  cases hT : T[f]? with
  | none => rw [hT] at e; cases e
  | some df => rw [hT] at e; cases e; exact ⟨df, rfl, rfl, rfl⟩
theorem kw_of {K : PySem.W.Frag} {x qual : Str} {st : Stmt} {f : Addr} {fd : FuncData} {args : Args} {bs : List (Str × Value)} (F : Fun K x qual st f fd)
    (h : ∀ (kV doc pm : Value) (an : Option Addr) (cdv ct : Value), bindArgs (PySem.W.fnOf x qual (defArgs st) (defBody st) (defScope st) .none kV doc pm an cdv ct) args = pure bs) (s : Shared) : BindsTo s fd args bs := by
  obtain ⟨_, _, kV, doc, pm, an, cdv, ct, _, rfl, _, _⟩ := F.ex
  exact .of_eq (h kV doc pm an cdv ct)
section
variable {P : Program} {w : World} {K : PySem.W.Frag} {mg : Str → Option Value} {base : Heap}
def tLn (K : PySem.W.Frag) : TE := tCB (fun xs H Q => ∃ x n, xs = [x] ∧ LenV K x H n ∧ Q (.int (n : Nat)) H) (tCons (tVar 0) tNil)
def tMM (K : PySem.W.Frag) : TE := tCB (rI K .max) (tCons (tC (.int 1)) (tCons (tCB (rI K .min) (tCons (tC (.int 2)) (tCons (tLn K) tNil))) tNil))
theorem mm_pe {st : Stmt} {fa : Addr} {kk : Nat} {p1 p2 p3 p4 p5 p6 p7 p8 p9 : Pos} {j1 j2 : Nat} (nd : List.Nodup (["script", "k"] : List Str)) (mz : ∀ x ∈ bltNames, mg (Str.ofString x) = none)
    (ck : (glB (cL st) "max" && glB (cL st) "min" && glB (cL st) "len" && visB (cL st) "script") = true) (code : Value) (A : Around) (outer : List PySem.Env) (s : Shared) (H : Hp)
    (gu : (A.deeper (envOfC "law" (defScope st) s.heap.objs.size fa code)).guards = some []) (room : Room kk (A.deeper (envOfC "law" (defScope st) s.heap.objs.size fa code))) :
    PE (cxOf CX0 P w K mg base ["script", "k"] "law" (defScope st) fa code A outer s H E0).nox
      (.Call (.Name "max" p1) [.Constant (.int 1) j1 p2, .Call (.Name "min" p3) [.Constant (.int 2) j2 p4, .Call (.Name "len" p5) [.Name "script" p6] [] p7] [] p8] [] p9) (tMM K) := by
  have xok := xok0 (P := P) (w := w) (K := K) (mg := mg) (base := base) (outer := outer) (H := H) nd room gu mz
  simp only [Bool.and_eq_true] at ck
  obtain ⟨⟨⟨c1, c2⟩, c3⟩, c4⟩ := ck
  have hu200 : (A.deeper (envOfC "law" (defScope st) s.heap.objs.size fa code)).units + 200 < cLine := Nat.lt_of_le_of_lt (Nat.add_le_add_right (Nat.le_add_right _ _) _) room.un
  have w0 := pe_var (pos := p6) (X := (cxOf CX0 P w K mg base ["script", "k"] "law" (defScope st) fa code A outer s H E0).nox) (i := 0) (x := "script") rfl (vis_of xok c4)
  have hlen := pe_callB (p := p5) (pos := p7) call_len (x := "len") (gl_of xok c3) (mz "len" (by decide)) (by rfl) (pa_cons w0 pa_nil)
  have hmin := pe_callB (p := p3) (pos := p8) (call_I (X := (cxOf CX0 P w K mg base ["script", "k"] "law" (defScope st) fa code A outer s H E0).nox) rfl gu hu200 .min) (x := "min") (gl_of xok c2) (mz "min" (by decide)) (by rfl) (pa_cons (pe_int (i := 2) (j := j2) (pos := p4)) (pa_cons hlen pa_nil))
  exact pe_callB (p := p1) (pos := p9) (call_I (X := (cxOf CX0 P w K mg base ["script", "k"] "law" (defScope st) fa code A outer s H E0).nox) rfl gu hu200 .max) (x := "max") (gl_of xok c1) (mz "max" (by decide)) (by rfl) (pa_cons (pe_int (i := 1) (j := j1) (pos := p2)) (pa_cons hmin pa_nil))
theorem mm_hj (σ : SV) (H : Hp) (a : Addr) (ns : List Int) (Q : VK) (h0 : σ[0]? = some (some (.ref a))) (hS : SqL K H a (ns.map V.int)) (k : ∀ (j : Nat) (H' : Hp), j ≤ 1000 → Same H H' → Q (.int (j : Nat)) H') : tMM K σ H Q := by
  show tCons (tCB (rI K .min) (tCons (tC (.int 2)) (tCons (tLn K) tNil))) tNil σ H fun xs H2 => rI K .max (.int 1 :: xs) H2 Q
  refine ⟨_, h0, _, _, rfl, .inl ⟨_, hS, rfl⟩, ?_⟩
  refine rI1 [2, ((ns.map V.int).length : Nat)] _ rfl fun H1 s1 => ?_
  refine rI1 [1, _] _ rfl fun H2 s2 => ?_
  have e : ∃ j : Nat, j ≤ 1000 ∧ (if (if (((ns.map V.int).length : Nat) : Int) < 2 then (((ns.map V.int).length : Nat) : Int) else 2) > 1 then (if (((ns.map V.int).length : Nat) : Int) < 2 then (((ns.map V.int).length : Nat) : Int) else 2) else 1) = ((j : Nat) : Int) := by
    by_cases h1 : (((ns.map V.int).length : Nat) : Int) < 2
    · exact ⟨1, by decide, by rw [if_pos h1, if_neg (by omega)]; rfl⟩
    · exact ⟨2, by decide, by rw [if_neg h1]; rfl⟩
  obtain ⟨j, hj, e⟩ := e
  rw [e]
  exact k j H2 hj (s1.trans s2)
end
end PL

/-! E82: the ends of k82. -/
namespace K82
open PySem PySem.Spec PyProof.Rows L2 PL
def r2 : RE := (.bin .add (.ex (.bin .mul (.ex (.c (.int 751))) (.slot 1))) (.ex (.c (.int 3011))))
def rR : RS := .ret (.lst [(.blt .max [(.ex (.c (.int 0))), (.ex (.bin .sub (.slot 2) (.ex (.bin .pow (.ex (.c (.int 10))) (.ex (.c (.int 18)))))))]), (.bin .add (.ex (.bin .mod (.ex (.blt .int [(.ex (.bin .add (.ex (.bin .add (.ex (.bin .mul (.ex (.bin .mod (.ex (.blt .int [(.slot 2)])) (.ex (.c (.int 2147483549))))) (.ex (.c (.int 40693))))) (.ex (.bin .mul (.ex (.c (.int 1871))) (.slot 1))))) (.ex (.c (.int 3011)))))])) (.ex (.c (.int 2147483563))))) (.ex (.c (.int 1))))])
abbrev s_pot : Stmt := topS 35
abbrev s_law : Stmt := topS 44
section
variable {P : Program} {w : World} {K : PySem.W.Frag} {h : Heap} {mg : Str → Option Value} {fa : Addr}
theorem at_is_integer {f : Addr} {fd : FuncData} (F : Fun K "is_integer" "is_integer" s_is_integer f fd) (m : mg "is_integer" = some (.ref f)) : DefAt K mg G 0 d_is_integer f fd p_is_integer :=
  ⟨⟨s_is_integer, n_is_integer, F, sc_is_integer, rfl, ck_is_integer⟩, m, rfl, by decide, F.binds (fun _ _ _ _ _ _ us hl => match us, hl with | [_], _ => rfl), fun q hq e => by
    simp only [G, List.mem_cons, List.not_mem_nil, or_false] at hq
    rcases hq with rfl | rfl | rfl | rfl <;> first | (exact absurd e (by decide))⟩
theorem at_is_count {f : Addr} {fd : FuncData} (F : Fun K "is_count" "is_count" s_is_count f fd) (m : mg "is_count" = some (.ref f)) : DefAt K mg G 1 d_is_count f fd p_is_count :=
  ⟨⟨s_is_count, n_is_count, F, sc_is_count, rfl, ck_is_count⟩, m, rfl, by decide, F.binds (fun _ _ _ _ _ _ us hl => match us, hl with | [_], _ => rfl), fun q hq e => by
    simp only [G, List.mem_cons, List.not_mem_nil, or_false] at hq
    rcases hq with rfl | rfl | rfl | rfl <;> first | (exact absurd e (by decide))⟩
theorem at_is_list {f : Addr} {fd : FuncData} (F : Fun K "is_list" "is_list" s_is_list f fd) (m : mg "is_list" = some (.ref f)) : DefAt K mg G 2 d_is_list f fd p_is_list :=
  ⟨⟨s_is_list, n_is_list, F, sc_is_list, rfl, ck_is_list⟩, m, rfl, by decide, F.binds (fun _ _ _ _ _ _ us hl => match us, hl with | [_], _ => rfl), fun q hq e => by
    simp only [G, List.mem_cons, List.not_mem_nil, or_false] at hq
    rcases hq with rfl | rfl | rfl | rfl <;> first | (exact absurd e (by decide))⟩
theorem at_is_tuple {f : Addr} {fd : FuncData} (F : Fun K "is_tuple" "is_tuple" s_is_tuple f fd) (m : mg "is_tuple" = some (.ref f)) : DefAt K mg G 3 d_is_tuple f fd p_is_tuple :=
  ⟨⟨s_is_tuple, n_is_tuple, F, sc_is_tuple, rfl, ck_is_tuple⟩, m, rfl, by decide, F.binds (fun _ _ _ _ _ _ us hl => match us, hl with | [_, _], _ => rfl), fun q hq e => by
    simp only [G, List.mem_cons, List.not_mem_nil, or_false] at hq
    rcases hq with rfl | rfl | rfl | rfl <;> first | (exact absurd e (by decide))⟩
theorem at_is_line_any {f : Addr} {fd : FuncData} (F : Fun K "is_line_any" "is_line_any" s_is_line_any f fd) (m : mg "is_line_any" = some (.ref f)) : DefAt K mg G 4 d_is_line_any f fd p_is_line_any :=
  ⟨⟨s_is_line_any, n_is_line_any, F, sc_is_line_any, rfl, ck_is_line_any⟩, m, rfl, by decide, F.binds (fun _ _ _ _ _ _ us hl => match us, hl with | [_], _ => rfl), fun q hq e => by
    simp only [G, List.mem_cons, List.not_mem_nil, or_false] at hq
    rcases hq with rfl | rfl | rfl | rfl <;> first | (exact absurd e (by decide))⟩
theorem at_are_lines_any {f : Addr} {fd : FuncData} (F : Fun K "are_lines_any" "are_lines_any" s_are_lines_any f fd) (m : mg "are_lines_any" = some (.ref f)) : DefAt K mg G 5 d_are_lines_any f fd p_are_lines_any :=
  ⟨⟨s_are_lines_any, n_are_lines_any, F, sc_are_lines_any, rfl, ck_are_lines_any⟩, m, rfl, by decide, F.binds (fun _ _ _ _ _ _ us hl => match us, hl with | [_], _ => rfl), fun q hq e => by
    simp only [G, List.mem_cons, List.not_mem_nil, or_false] at hq
    rcases hq with rfl | rfl | rfl | rfl <;> first | (exact absurd e (by decide))⟩
theorem at_is_edit_any {f : Addr} {fd : FuncData} (F : Fun K "is_edit_any" "is_edit_any" s_is_edit_any f fd) (m : mg "is_edit_any" = some (.ref f)) : DefAt K mg G 6 d_is_edit_any f fd p_is_edit_any :=
  ⟨⟨s_is_edit_any, n_is_edit_any, F, sc_is_edit_any, rfl, ck_is_edit_any⟩, m, rfl, by decide, F.binds (fun _ _ _ _ _ _ us hl => match us, hl with | [_], _ => rfl), fun q hq e => by
    simp only [G, List.mem_cons, List.not_mem_nil, or_false] at hq
    rcases hq with rfl | rfl | rfl | rfl <;> first | (exact absurd e (by decide))⟩
theorem at_is_patch_of {f : Addr} {fd : FuncData} (F : Fun K "is_patch_of" "is_patch_of" s_is_patch_of f fd) (m : mg "is_patch_of" = some (.ref f)) : DefAt K mg G 7 d_is_patch_of f fd p_is_patch_of :=
  ⟨⟨s_is_patch_of, n_is_patch_of, F, sc_is_patch_of, rfl, ck_is_patch_of⟩, m, rfl, by decide, F.binds (fun _ _ _ _ _ _ us hl => match us, hl with | [_, _], _ => rfl), fun q hq e => by
    simp only [G, List.mem_cons, List.not_mem_nil, or_false] at hq
    rcases hq with rfl | rfl | rfl | rfl <;> first | (exact absurd e (by decide))⟩
theorem at_want_lines {f : Addr} {fd : FuncData} (F : Fun K "want_lines" "want_lines" s_want_lines f fd) (m : mg "want_lines" = some (.ref f)) : DefAt K mg G 8 d_want_lines f fd p_want_lines :=
  ⟨⟨s_want_lines, n_want_lines, F, sc_want_lines, rfl, ck_want_lines⟩, m, rfl, by decide, F.binds (fun _ _ _ _ _ _ us hl => match us, hl with | [_], _ => rfl), fun q hq e => by
    simp only [G, List.mem_cons, List.not_mem_nil, or_false] at hq
    rcases hq with rfl | rfl | rfl | rfl <;> first | (exact absurd e (by decide))⟩
theorem at_want_patch {f : Addr} {fd : FuncData} (F : Fun K "want_patch" "want_patch" s_want_patch f fd) (m : mg "want_patch" = some (.ref f)) : DefAt K mg G 9 d_want_patch f fd p_want_patch :=
  ⟨⟨s_want_patch, n_want_patch, F, sc_want_patch, rfl, ck_want_patch⟩, m, rfl, by decide, F.binds (fun _ _ _ _ _ _ us hl => match us, hl with | [_, _], _ => rfl), fun q hq e => by
    simp only [G, List.mem_cons, List.not_mem_nil, or_false] at hq
    rcases hq with rfl | rfl | rfl | rfl <;> first | (exact absurd e (by decide))⟩
theorem at_trace_of {f : Addr} {fd : FuncData} (F : Fun K "trace_of" "trace_of" s_trace_of f fd) (m : mg "trace_of" = some (.ref f)) : DefAt K mg G 10 d_trace_of f fd p_trace_of :=
  ⟨⟨s_trace_of, n_trace_of, F, sc_trace_of, rfl, ck_trace_of⟩, m, rfl, by decide, F.binds (fun _ _ _ _ _ _ us hl => match us, hl with | [_, _], _ => rfl), fun q hq e => by
    simp only [G, List.mem_cons, List.not_mem_nil, or_false] at hq
    rcases hq with rfl | rfl | rfl | rfl <;> first | (exact absurd e (by decide))⟩
theorem at_edits_put_together {f : Addr} {fd : FuncData} (F : Fun K "edits_put_together" "edits_put_together" s_edits_put_together f fd) (m : mg "edits_put_together" = some (.ref f)) : DefAt K mg G 11 d_edits_put_together f fd p_edits_put_together :=
  ⟨⟨s_edits_put_together, n_edits_put_together, F, sc_edits_put_together, rfl, ck_edits_put_together⟩, m, rfl, by decide, F.binds (fun _ _ _ _ _ _ us hl => match us, hl with | [_], _ => rfl), fun q hq e => by
    simp only [G, List.mem_cons, List.not_mem_nil, or_false] at hq
    rcases hq with rfl | rfl | rfl | rfl <;> first | (exact absurd e (by decide))⟩
theorem at_patch_of_trace {f : Addr} {fd : FuncData} (F : Fun K "patch_of_trace" "patch_of_trace" s_patch_of_trace f fd) (m : mg "patch_of_trace" = some (.ref f)) : DefAt K mg G 12 d_patch_of_trace f fd p_patch_of_trace :=
  ⟨⟨s_patch_of_trace, n_patch_of_trace, F, sc_patch_of_trace, rfl, ck_patch_of_trace⟩, m, rfl, by decide, F.binds (fun _ _ _ _ _ _ us hl => match us, hl with | [_, _], _ => rfl), fun q hq e => by
    simp only [G, List.mem_cons, List.not_mem_nil, or_false] at hq
    rcases hq with rfl | rfl | rfl | rfl <;> first | (exact absurd e (by decide))⟩
theorem at_lines_patched {f : Addr} {fd : FuncData} (F : Fun K "lines_patched" "lines_patched" s_lines_patched f fd) (m : mg "lines_patched" = some (.ref f)) : DefAt K mg G 13 d_lines_patched f fd p_lines_patched :=
  ⟨⟨s_lines_patched, n_lines_patched, F, sc_lines_patched, rfl, ck_lines_patched⟩, m, rfl, by decide, F.binds (fun _ _ _ _ _ _ us hl => match us, hl with | [_, _], _ => rfl), fun q hq e => by
    simp only [G, List.mem_cons, List.not_mem_nil, or_false] at hq
    rcases hq with rfl | rfl | rfl | rfl <;> first | (exact absurd e (by decide))⟩
theorem at_cost_of_patch {f : Addr} {fd : FuncData} (F : Fun K "cost_of_patch" "cost_of_patch" s_cost_of_patch f fd) (m : mg "cost_of_patch" = some (.ref f)) : DefAt K mg G 14 d_cost_of_patch f fd p_cost_of_patch :=
  ⟨⟨s_cost_of_patch, n_cost_of_patch, F, sc_cost_of_patch, rfl, ck_cost_of_patch⟩, m, rfl, by decide, F.binds (fun _ _ _ _ _ _ us hl => match us, hl with | [_], _ => rfl), fun q hq e => by
    simp only [G, List.mem_cons, List.not_mem_nil, or_false] at hq
    rcases hq with rfl | rfl | rfl | rfl <;> first | (exact absurd e (by decide))⟩
theorem at_is_patch {f : Addr} {fd : FuncData} (F : Fun K "is_patch" "is_patch" s_is_patch f fd) (m : mg "is_patch" = some (.ref f)) : DefAt K mg G 15 d_is_patch f fd p_is_patch :=
  ⟨⟨s_is_patch, n_is_patch, F, sc_is_patch, rfl, ck_is_patch⟩, m, rfl, by decide, F.binds (fun _ _ _ _ _ _ us hl => match us, hl with | [_, _], _ => rfl), fun q hq e => by
    simp only [G, List.mem_cons, List.not_mem_nil, or_false] at hq
    rcases hq with rfl | rfl | rfl | rfl <;> first | (exact absurd e (by decide))⟩
theorem at_patched {f : Addr} {fd : FuncData} (F : Fun K "patched" "patched" s_patched f fd) (m : mg "patched" = some (.ref f)) : DefAt K mg G 16 d_patched f fd p_patched :=
  ⟨⟨s_patched, n_patched, F, sc_patched, rfl, ck_patched⟩, m, rfl, by decide, F.binds (fun _ _ _ _ _ _ us hl => match us, hl with | [_, _], _ => rfl), fun q hq e => by
    simp only [G, List.mem_cons, List.not_mem_nil, or_false] at hq
    rcases hq with rfl | rfl | rfl | rfl <;> first | (exact absurd e (by decide)) | (exact ⟨fun s us ws _ h1 h2 => match us, ws, h1, h2 with | [], [_, _], _, _ => kw_of F (fun _ _ _ _ _ _ => rfl) s, by decide⟩)⟩
theorem at_patch_cost {f : Addr} {fd : FuncData} (F : Fun K "patch_cost" "patch_cost" s_patch_cost f fd) (m : mg "patch_cost" = some (.ref f)) : DefAt K mg G 17 d_patch_cost f fd p_patch_cost :=
  ⟨⟨s_patch_cost, n_patch_cost, F, sc_patch_cost, rfl, ck_patch_cost⟩, m, rfl, by decide, F.binds (fun _ _ _ _ _ _ us hl => match us, hl with | [_, _], _ => rfl), fun q hq e => by
    simp only [G, List.mem_cons, List.not_mem_nil, or_false] at hq
    rcases hq with rfl | rfl | rfl | rfl <;> first | (exact absurd e (by decide))⟩
theorem at_normalized {f : Addr} {fd : FuncData} (F : Fun K "normalized" "normalized" s_normalized f fd) (m : mg "normalized" = some (.ref f)) : DefAt K mg G 18 d_normalized f fd p_normalized :=
  ⟨⟨s_normalized, n_normalized, F, sc_normalized, rfl, ck_normalized⟩, m, rfl, by decide, F.binds (fun _ _ _ _ _ _ us hl => match us, hl with | [_, _], _ => rfl), fun q hq e => by
    simp only [G, List.mem_cons, List.not_mem_nil, or_false] at hq
    rcases hq with rfl | rfl | rfl | rfl <;> first | (exact absurd e (by decide)) | (exact ⟨fun s us ws _ h1 h2 => match us, ws, h1, h2 with | [], [_, _], _, _ => kw_of F (fun _ _ _ _ _ _ => rfl) s, by decide⟩)⟩
theorem at_turned_about {f : Addr} {fd : FuncData} (F : Fun K "turned_about" "turned_about" s_turned_about f fd) (m : mg "turned_about" = some (.ref f)) : DefAt K mg G 19 d_turned_about f fd p_turned_about :=
  ⟨⟨s_turned_about, n_turned_about, F, sc_turned_about, rfl, ck_turned_about⟩, m, rfl, by decide, F.binds (fun _ _ _ _ _ _ us hl => match us, hl with | [_, _], _ => rfl), fun q hq e => by
    simp only [G, List.mem_cons, List.not_mem_nil, or_false] at hq
    rcases hq with rfl | rfl | rfl | rfl <;> first | (exact absurd e (by decide)) | (exact ⟨fun s us ws _ h1 h2 => match us, ws, h1, h2 with | [], [_, _], _, _ => kw_of F (fun _ _ _ _ _ _ => rfl) s, by decide⟩)⟩
theorem at_joined_patch {f : Addr} {fd : FuncData} (F : Fun K "joined_patch" "joined_patch" s_joined_patch f fd) (m : mg "joined_patch" = some (.ref f)) : DefAt K mg G 20 d_joined_patch f fd p_joined_patch :=
  ⟨⟨s_joined_patch, n_joined_patch, F, sc_joined_patch, rfl, ck_joined_patch⟩, m, rfl, by decide, F.binds (fun _ _ _ _ _ _ us hl => match us, hl with | [_, _, _], _ => rfl), fun q hq e => by
    simp only [G, List.mem_cons, List.not_mem_nil, or_false] at hq
    rcases hq with rfl | rfl | rfl | rfl <;> first | (exact absurd e (by decide)) | (exact ⟨fun s us ws _ h1 h2 => match us, ws, h1, h2 with | [], [_, _, _], _, _ => kw_of F (fun _ _ _ _ _ _ => rfl) s, by decide⟩)⟩
theorem at__law_draw {f : Addr} {fd : FuncData} (F : Fun K "_law_draw" "_law_draw" s__law_draw f fd) (m : mg "_law_draw" = some (.ref f)) : DefAt K mg G 21 d__law_draw f fd p__law_draw :=
  ⟨⟨s__law_draw, n__law_draw, F, sc__law_draw, rfl, ck__law_draw⟩, m, rfl, by decide, F.binds (fun _ _ _ _ _ _ us hl => match us, hl with | [_, _], _ => rfl), fun q hq e => by
    simp only [G, List.mem_cons, List.not_mem_nil, or_false] at hq
    rcases hq with rfl | rfl | rfl | rfl <;> first | (exact absurd e (by decide))⟩
theorem at__law_pick {f : Addr} {fd : FuncData} (F : Fun K "_law_pick" "_law_pick" s__law_pick f fd) (m : mg "_law_pick" = some (.ref f)) : DefAt K mg G 22 d__law_pick f fd p__law_pick :=
  ⟨⟨s__law_pick, n__law_pick, F, sc__law_pick, rfl, ck__law_pick⟩, m, rfl, by decide, F.binds (fun _ _ _ _ _ _ us hl => match us, hl with | [_, _], _ => rfl), fun q hq e => by
    simp only [G, List.mem_cons, List.not_mem_nil, or_false] at hq
    rcases hq with rfl | rfl | rfl | rfl <;> first | (exact absurd e (by decide))⟩
theorem at__law_lines_drawn {f : Addr} {fd : FuncData} (F : Fun K "_law_lines_drawn" "_law_lines_drawn" s__law_lines_drawn f fd) (m : mg "_law_lines_drawn" = some (.ref f)) : DefAt K mg G 23 d__law_lines_drawn f fd p__law_lines_drawn :=
  ⟨⟨s__law_lines_drawn, n__law_lines_drawn, F, sc__law_lines_drawn, rfl, ck__law_lines_drawn⟩, m, rfl, by decide, F.binds (fun _ _ _ _ _ _ us hl => match us, hl with | [_, _], _ => rfl), fun q hq e => by
    simp only [G, List.mem_cons, List.not_mem_nil, or_false] at hq
    rcases hq with rfl | rfl | rfl | rfl <;> first | (exact absurd e (by decide))⟩
theorem at__law_patch {f : Addr} {fd : FuncData} (F : Fun K "_law_patch" "_law_patch" s__law_patch f fd) (m : mg "_law_patch" = some (.ref f)) : DefAt K mg G 24 d__law_patch f fd p__law_patch :=
  ⟨⟨s__law_patch, n__law_patch, F, sc__law_patch, rfl, ck__law_patch⟩, m, rfl, by decide, F.binds (fun _ _ _ _ _ _ us hl => match us, hl with | [_, _], _ => rfl), fun q hq e => by
    simp only [G, List.mem_cons, List.not_mem_nil, or_false] at hq
    rcases hq with rfl | rfl | rfl | rfl <;> first | (exact absurd e (by decide))⟩
theorem at__law_trace {f : Addr} {fd : FuncData} (F : Fun K "_law_trace" "_law_trace" s__law_trace f fd) (m : mg "_law_trace" = some (.ref f)) : DefAt K mg G 25 d__law_trace f fd p__law_trace :=
  ⟨⟨s__law_trace, n__law_trace, F, sc__law_trace, rfl, ck__law_trace⟩, m, rfl, by decide, F.binds (fun _ _ _ _ _ _ us hl => match us, hl with | [_, _], _ => rfl), fun q hq e => by
    simp only [G, List.mem_cons, List.not_mem_nil, or_false] at hq
    rcases hq with rfl | rfl | rfl | rfl <;> first | (exact absurd e (by decide))⟩
theorem at__law_normal {f : Addr} {fd : FuncData} (F : Fun K "_law_normal" "_law_normal" s__law_normal f fd) (m : mg "_law_normal" = some (.ref f)) : DefAt K mg G 26 d__law_normal f fd p__law_normal :=
  ⟨⟨s__law_normal, n__law_normal, F, sc__law_normal, rfl, ck__law_normal⟩, m, rfl, by decide, F.binds (fun _ _ _ _ _ _ us hl => match us, hl with | [_, _], _ => rfl), fun q hq e => by
    simp only [G, List.mem_cons, List.not_mem_nil, or_false] at hq
    rcases hq with rfl | rfl | rfl | rfl <;> first | (exact absurd e (by decide))⟩
theorem at__law_cost {f : Addr} {fd : FuncData} (F : Fun K "_law_cost" "_law_cost" s__law_cost f fd) (m : mg "_law_cost" = some (.ref f)) : DefAt K mg G 27 d__law_cost f fd p__law_cost :=
  ⟨⟨s__law_cost, n__law_cost, F, sc__law_cost, rfl, ck__law_cost⟩, m, rfl, by decide, F.binds (fun _ _ _ _ _ _ us hl => match us, hl with | [_], _ => rfl), fun q hq e => by
    simp only [G, List.mem_cons, List.not_mem_nil, or_false] at hq
    rcases hq with rfl | rfl | rfl | rfl <;> first | (exact absurd e (by decide))⟩
theorem at__law_right {f : Addr} {fd : FuncData} (F : Fun K "_law_right" "_law_right" s__law_right f fd) (m : mg "_law_right" = some (.ref f)) : DefAt K mg G 28 d__law_right f fd p__law_right :=
  ⟨⟨s__law_right, n__law_right, F, sc__law_right, rfl, ck__law_right⟩, m, rfl, by decide, F.binds (fun _ _ _ _ _ _ us hl => match us, hl with | [_], _ => rfl), fun q hq e => by
    simp only [G, List.mem_cons, List.not_mem_nil, or_false] at hq
    rcases hq with rfl | rfl | rfl | rfl <;> first | (exact absurd e (by decide))⟩
theorem sc_pot : FnScope ["script", "k", "cell"] ["script", "k"] (defScope s_pot) := ⟨rfl, rfl, rfl, by decide +kernel, rfl, by decide +kernel, by decide +kernel⟩
theorem sc_law : FnScope ["script", "k"] ["script"] (defScope s_law) := ⟨rfl, rfl, rfl, by decide +kernel, rfl, by decide +kernel, by decide +kernel⟩
theorem pw1 : binD .pow (.int 10) (.int 18) = some (.val (.int (10 ^ 18))) := rfl
theorem ev2 (k : Nat) : ∃ z, evE Φ0 r2 [.un, .val (.int (k : Nat)), .un] = some (.val (.int z), [.un, .val (.int (k : Nat)), .un]) := by
  have m1 := b_mul (i := 751) (j := (k : Int)) (.inl (by decide))
  refine ⟨751 * k + 3011, ?_⟩
  simp -implicitDefEqProofs only [r2, seqO_nx, seqO_ret, seqO_ct, seqO_brk, getS_z, getS_s, set_z, set_s, evB_nil, evB_cons, evS_for, evE_lc, lcTurn_k, evE_c, evE_g, evE_v, takeS_k, tkK_val, tkK_own, peekS_k, pkK_val, pkK_own, pkK_io, res_val, res_slot, sdK_val, sdK_own, sdK_io, evE_bin, evE_neg, evE_cmp, evE_isN, evE_notN, evE_and, evE_or, evE_nt, evE_ite, evE_tup, evE_lst, evE_dct, evE_ix, evE_sl, evE_call, evE_callK, evE_blt, evE_isi, evE_get2, evT_tr, evT_cmp, evT_isN, evT_notN, evT_and, evT_or, evT_nt, evTo_n, evTo_s, evP_slot, evP_ex, evPs_n, evPs_c, evL_n, evL_c, evA_n, evA_e, ioK_own, ioK_io, evA_io, evO_n, evO_e, evI_seq, evI_rng1, evI_rng2, evI_enum, evI_zip, evS_asg, evS_par, evS_setIx, evS_ex, evS_mut, evS_iF, evS_ret, evS_retS, rsK_val, rsK_own, evS_retN, evS_pass, evS_ct, evS_brk, resL_n, resL_c, kAnd_b, kOr_b, kNt_b, kO_i, kR1_i, kR22_i, evR_n, evR_c, noIo_un, noIo_val, noIo_own, of_val, of_own, chgS_k, chK_own, chK_io, heldS_k, lstS_k, lsK_own, lsK_io, putV_nm, putV_tup, putP_nm, putP_ixs, putP_tup, putPs_n, putPs_c, putN_n, putN_c, retV_s, retI_s, callD_0, callD_1, callD_2, callD_3, callD_4, ciK_own, ciK_io, callD_i1, callD_i2, forL_n, avS_v, avS_i, startS_c, startS_z, startS_u, isi_s, isi_t, isi_ll, isi_lt, isi_i, isi_ib, truD_b, len_l, len_t, max_ii, min_ii, int_i, list_l, list_t, tuple_l, tuple_t, eqD_ss, eqD_ii, c_eq, c_ne, c_lt, c_le, c_gt, c_ge, b_add, b_sub, isN_n, isN_i, ixT0, ixT1, kB1, kC1, kN, kIte, kIx, kSl, kCall, kCK2, kCK, kBlt, kG2, kG1, kG, kTr, kTC1, kTAnd, kTOr, kPs, kLs, kAs, kR2, kZ2, kZ, kFor, kLT2, kLT1, kLc, kIf, kAsg, kPar, kSx2, kSx, kMut, kRs, putS_k, RV.d, Option.bind_some, Option.bind_none, Option.map_some, Option.map_none, hideS, wipeS, backS, List.map_cons, List.map_nil, List.length_cons, List.length_nil, if_true, if_false, Bool.false_eq_true, eq_self, outsOf, decide_true, decide_false, Bool.not_true, Bool.not_false, Nat.reduceAdd, Nat.reduceLT, Nat.zero_add, m1]
theorem evR (k : Nat) (z : Int) : ∃ x y ρ, evB Φ0 0 [rR] [.un, .val (.int (k : Nat)), .val (.int z)] = some (.ret (.own (.list [.int x, .int y])) ρ) := by
  have m1 := b_mul (i := z % 2147483549) (j := 40693) (.inr (by decide))
  have m2 := b_mul (i := 1871) (j := (k : Int)) (.inl (by decide))
  have d1 : (0 : Int) < 2147483549 := by decide
  have d2 : (0 : Int) < 2147483563 := by decide
  refine ⟨if z - 10 ^ 18 > 0 then z - 10 ^ 18 else 0, (z % 2147483549 * 40693 + 1871 * (k : Int) + 3011) % 2147483563 + 1, [.un, .val (.int (k : Nat)), .val (.int z)], ?_⟩
  simp -implicitDefEqProofs only [rR, seqO_nx, seqO_ret, seqO_ct, seqO_brk, getS_z, getS_s, set_z, set_s, evB_nil, evB_cons, evS_for, evE_lc, lcTurn_k, evE_c, evE_g, evE_v, takeS_k, tkK_val, tkK_own, peekS_k, pkK_val, pkK_own, pkK_io, res_val, res_slot, sdK_val, sdK_own, sdK_io, evE_bin, evE_neg, evE_cmp, evE_isN, evE_notN, evE_and, evE_or, evE_nt, evE_ite, evE_tup, evE_lst, evE_dct, evE_ix, evE_sl, evE_call, evE_callK, evE_blt, evE_isi, evE_get2, evT_tr, evT_cmp, evT_isN, evT_notN, evT_and, evT_or, evT_nt, evTo_n, evTo_s, evP_slot, evP_ex, evPs_n, evPs_c, evL_n, evL_c, evA_n, evA_e, ioK_own, ioK_io, evA_io, evO_n, evO_e, evI_seq, evI_rng1, evI_rng2, evI_enum, evI_zip, evS_asg, evS_par, evS_setIx, evS_ex, evS_mut, evS_iF, evS_ret, evS_retS, rsK_val, rsK_own, evS_retN, evS_pass, evS_ct, evS_brk, resL_n, resL_c, kAnd_b, kOr_b, kNt_b, kO_i, kR1_i, kR22_i, evR_n, evR_c, noIo_un, noIo_val, noIo_own, of_val, of_own, chgS_k, chK_own, chK_io, heldS_k, lstS_k, lsK_own, lsK_io, putV_nm, putV_tup, putP_nm, putP_ixs, putP_tup, putPs_n, putPs_c, putN_n, putN_c, retV_s, retI_s, callD_0, callD_1, callD_2, callD_3, callD_4, ciK_own, ciK_io, callD_i1, callD_i2, forL_n, avS_v, avS_i, startS_c, startS_z, startS_u, isi_s, isi_t, isi_ll, isi_lt, isi_i, isi_ib, truD_b, len_l, len_t, max_ii, min_ii, int_i, list_l, list_t, tuple_l, tuple_t, eqD_ss, eqD_ii, c_eq, c_ne, c_lt, c_le, c_gt, c_ge, b_add, b_sub, isN_n, isN_i, ixT0, ixT1, kB1, kC1, kN, kIte, kIx, kSl, kCall, kCK2, kCK, kBlt, kG2, kG1, kG, kTr, kTC1, kTAnd, kTOr, kPs, kLs, kAs, kR2, kZ2, kZ, kFor, kLT2, kLT1, kLc, kIf, kAsg, kPar, kSx2, kSx, kMut, kRs, putS_k, RV.d, Option.bind_some, Option.bind_none, Option.map_some, Option.map_none, hideS, wipeS, backS, List.map_cons, List.map_nil, List.length_cons, List.length_nil, if_true, if_false, Bool.false_eq_true, eq_self, outsOf, decide_true, decide_false, Bool.not_true, Bool.not_false, Nat.reduceAdd, Nat.reduceLT, Nat.zero_add, pw1, m1, m2, b_mod d1, b_mod d2, kLst2]
theorem law_end {base : Heap} {fl fp fr : Addr} {fdl fdp fdr : FuncData} {LV : Nat} (F : Fun K "law" "law" s_law fl fdl) (Fp : Fun K "_law_pot" "_law_pot" s_pot fp fdp) (mp : mg "_law_pot" = some (.ref fp)) (kp : PySem.W.keepIn K (.ref fp) = true)
    (Fr : Fun K "_law_right" "_law_right" s__law_right fr fdr) (mr : mg "_law_right" = some (.ref fr)) (kr : PySem.W.keepIn K (.ref fr) = true) (tab : TabOk K mg T G) (big : 7 ≤ LV) (mz : ∀ x ∈ bltNames, mg (Str.ofString x) = none) :
    FnG P w K mg base (LV + 1) fl fdl ["script"] (spLaw K) := by
  have Gp : FnG P w K mg base LV fp fdp ["script", "k"] (spPot K) := (pot_fn (k0 := 6) (r2 := r2) (rR := rR) Fp sc_pot rfl ⟨by decide +kernel, by decide +kernel, by decide +kernel, by decide +kernel, by decide +kernel⟩ (by decide +kernel) (by decide +kernel) ev2 evR mz).up big
  have Gr : FnG P w K mg base LV fr fdr ["pot"] (spR K) := ((tab_fn (W := 0) tab 7 28 d__law_right fr fdr p__law_right rfl (at__law_right Fr mr)).imp (right_imp fun x y => by
    obtain ⟨a, b, e⟩ := right_true (W := 0) (n := 0) x y
    exact ⟨_, e⟩)).up big
  exact law_fn (kk := LV) F sc_law rfl rfl (by decide +kernel) (fun code A outer s H gu room => mm_pe sc_law.nd mz (by decide +kernel) code A outer s H gu room) mm_hj
    Gp mp kp (Fp.binds (fun _ _ _ _ _ _ us hl => match us, hl with | [_, _], _ => rfl)) Gr mr kr (Fr.binds (fun _ _ _ _ _ _ us hl => match us, hl with | [_], _ => rfl)) mz
theorem all_mk {LV : Nat} (big : 7 ≤ LV) (X : K.In h) (N : h.Ns mainGlobals mg) (hfa : mg "law" = some (.ref fa))
    {f0 : Addr} {od0 an0 : Option Addr} {sl0 : Array (Option Value)} {oc0 kV0 dc0 pm0 cd0 ct0 : Value}
    {f1 : Addr} {od1 an1 : Option Addr} {sl1 : Array (Option Value)} {oc1 kV1 dc1 pm1 cd1 ct1 : Value}
    {f2 : Addr} {od2 an2 : Option Addr} {sl2 : Array (Option Value)} {oc2 kV2 dc2 pm2 cd2 ct2 : Value}
    {f3 : Addr} {od3 an3 : Option Addr} {sl3 : Array (Option Value)} {oc3 kV3 dc3 pm3 cd3 ct3 : Value}
    {f4 : Addr} {od4 an4 : Option Addr} {sl4 : Array (Option Value)} {oc4 kV4 dc4 pm4 cd4 ct4 : Value}
    {f5 : Addr} {od5 an5 : Option Addr} {sl5 : Array (Option Value)} {oc5 kV5 dc5 pm5 cd5 ct5 : Value}
    {f6 : Addr} {od6 an6 : Option Addr} {sl6 : Array (Option Value)} {oc6 kV6 dc6 pm6 cd6 ct6 : Value}
    {f7 : Addr} {od7 an7 : Option Addr} {sl7 : Array (Option Value)} {oc7 kV7 dc7 pm7 cd7 ct7 : Value}
    {f8 : Addr} {od8 an8 : Option Addr} {sl8 : Array (Option Value)} {oc8 kV8 dc8 pm8 cd8 ct8 : Value}
    {f9 : Addr} {od9 an9 : Option Addr} {sl9 : Array (Option Value)} {oc9 kV9 dc9 pm9 cd9 ct9 : Value}
    {f10 : Addr} {od10 an10 : Option Addr} {sl10 : Array (Option Value)} {oc10 kV10 dc10 pm10 cd10 ct10 : Value}
    {f11 : Addr} {od11 an11 : Option Addr} {sl11 : Array (Option Value)} {oc11 kV11 dc11 pm11 cd11 ct11 : Value}
    {f12 : Addr} {od12 an12 : Option Addr} {sl12 : Array (Option Value)} {oc12 kV12 dc12 pm12 cd12 ct12 : Value}
    {f13 : Addr} {od13 an13 : Option Addr} {sl13 : Array (Option Value)} {oc13 kV13 dc13 pm13 cd13 ct13 : Value}
    {f14 : Addr} {od14 an14 : Option Addr} {sl14 : Array (Option Value)} {oc14 kV14 dc14 pm14 cd14 ct14 : Value}
    {f15 : Addr} {od15 an15 : Option Addr} {sl15 : Array (Option Value)} {oc15 kV15 dc15 pm15 cd15 ct15 : Value}
    {f16 : Addr} {od16 an16 : Option Addr} {sl16 : Array (Option Value)} {oc16 kV16 dc16 pm16 cd16 ct16 : Value}
    {f17 : Addr} {od17 an17 : Option Addr} {sl17 : Array (Option Value)} {oc17 kV17 dc17 pm17 cd17 ct17 : Value}
    {f18 : Addr} {od18 an18 : Option Addr} {sl18 : Array (Option Value)} {oc18 kV18 dc18 pm18 cd18 ct18 : Value}
    {f19 : Addr} {od19 an19 : Option Addr} {sl19 : Array (Option Value)} {oc19 kV19 dc19 pm19 cd19 ct19 : Value}
    {f20 : Addr} {od20 an20 : Option Addr} {sl20 : Array (Option Value)} {oc20 kV20 dc20 pm20 cd20 ct20 : Value}
    {f21 : Addr} {od21 an21 : Option Addr} {sl21 : Array (Option Value)} {oc21 kV21 dc21 pm21 cd21 ct21 : Value}
    {f22 : Addr} {od22 an22 : Option Addr} {sl22 : Array (Option Value)} {oc22 kV22 dc22 pm22 cd22 ct22 : Value}
    {f23 : Addr} {od23 an23 : Option Addr} {sl23 : Array (Option Value)} {oc23 kV23 dc23 pm23 cd23 ct23 : Value}
    {f24 : Addr} {od24 an24 : Option Addr} {sl24 : Array (Option Value)} {oc24 kV24 dc24 pm24 cd24 ct24 : Value}
    {f25 : Addr} {od25 an25 : Option Addr} {sl25 : Array (Option Value)} {oc25 kV25 dc25 pm25 cd25 ct25 : Value}
    {f26 : Addr} {od26 an26 : Option Addr} {sl26 : Array (Option Value)} {oc26 kV26 dc26 pm26 cd26 ct26 : Value}
    {f27 : Addr} {od27 an27 : Option Addr} {sl27 : Array (Option Value)} {oc27 kV27 dc27 pm27 cd27 ct27 : Value}
    {f28 : Addr} {od28 an28 : Option Addr} {sl28 : Array (Option Value)} {oc28 kV28 dc28 pm28 cd28 ct28 : Value}
    {f29 : Addr} {od29 an29 : Option Addr} {sl29 : Array (Option Value)} {oc29 kV29 dc29 pm29 cd29 ct29 : Value}
    {f30 : Addr} {od30 an30 : Option Addr} {sl30 : Array (Option Value)} {oc30 kV30 dc30 pm30 cd30 ct30 : Value}
    {t0 : Tok}
    {t1 : Tok}
    {t2 : Tok}
    {t3 : Tok}
    {t4 : Tok}
    {t5 : Tok}
    (a0 : PySem.W.nsIn K mainGlobals "is_integer" = some (some (.ref f0)))
    (l0 : K.lookup f0 = some ⟨oc0, od0, .func (PySem.W.fnOf "is_integer" "is_integer" (defArgs s_is_integer) (defBody s_is_integer) (defScope s_is_integer) .none kV0 dc0 pm0 an0 cd0 ct0), sl0⟩)
    (c0 : PySem.W.codeIn K cd0 "is_integer" = true) (k0 : PySem.W.keepIn K (.ref f0) = true)
    (a1 : PySem.W.nsIn K mainGlobals "is_count" = some (some (.ref f1)))
    (l1 : K.lookup f1 = some ⟨oc1, od1, .func (PySem.W.fnOf "is_count" "is_count" (defArgs s_is_count) (defBody s_is_count) (defScope s_is_count) .none kV1 dc1 pm1 an1 cd1 ct1), sl1⟩)
    (c1 : PySem.W.codeIn K cd1 "is_count" = true) (k1 : PySem.W.keepIn K (.ref f1) = true)
    (a2 : PySem.W.nsIn K mainGlobals "is_list" = some (some (.ref f2)))
    (l2 : K.lookup f2 = some ⟨oc2, od2, .func (PySem.W.fnOf "is_list" "is_list" (defArgs s_is_list) (defBody s_is_list) (defScope s_is_list) .none kV2 dc2 pm2 an2 cd2 ct2), sl2⟩)
    (c2 : PySem.W.codeIn K cd2 "is_list" = true) (k2 : PySem.W.keepIn K (.ref f2) = true)
    (a3 : PySem.W.nsIn K mainGlobals "is_tuple" = some (some (.ref f3)))
    (l3 : K.lookup f3 = some ⟨oc3, od3, .func (PySem.W.fnOf "is_tuple" "is_tuple" (defArgs s_is_tuple) (defBody s_is_tuple) (defScope s_is_tuple) .none kV3 dc3 pm3 an3 cd3 ct3), sl3⟩)
    (c3 : PySem.W.codeIn K cd3 "is_tuple" = true) (k3 : PySem.W.keepIn K (.ref f3) = true)
    (a4 : PySem.W.nsIn K mainGlobals "is_line_any" = some (some (.ref f4)))
    (l4 : K.lookup f4 = some ⟨oc4, od4, .func (PySem.W.fnOf "is_line_any" "is_line_any" (defArgs s_is_line_any) (defBody s_is_line_any) (defScope s_is_line_any) .none kV4 dc4 pm4 an4 cd4 ct4), sl4⟩)
    (c4 : PySem.W.codeIn K cd4 "is_line_any" = true) (k4 : PySem.W.keepIn K (.ref f4) = true)
    (a5 : PySem.W.nsIn K mainGlobals "are_lines_any" = some (some (.ref f5)))
    (l5 : K.lookup f5 = some ⟨oc5, od5, .func (PySem.W.fnOf "are_lines_any" "are_lines_any" (defArgs s_are_lines_any) (defBody s_are_lines_any) (defScope s_are_lines_any) .none kV5 dc5 pm5 an5 cd5 ct5), sl5⟩)
    (c5 : PySem.W.codeIn K cd5 "are_lines_any" = true) (k5 : PySem.W.keepIn K (.ref f5) = true)
    (a6 : PySem.W.nsIn K mainGlobals "is_edit_any" = some (some (.ref f6)))
    (l6 : K.lookup f6 = some ⟨oc6, od6, .func (PySem.W.fnOf "is_edit_any" "is_edit_any" (defArgs s_is_edit_any) (defBody s_is_edit_any) (defScope s_is_edit_any) .none kV6 dc6 pm6 an6 cd6 ct6), sl6⟩)
    (c6 : PySem.W.codeIn K cd6 "is_edit_any" = true) (k6 : PySem.W.keepIn K (.ref f6) = true)
    (a7 : PySem.W.nsIn K mainGlobals "is_patch_of" = some (some (.ref f7)))
    (l7 : K.lookup f7 = some ⟨oc7, od7, .func (PySem.W.fnOf "is_patch_of" "is_patch_of" (defArgs s_is_patch_of) (defBody s_is_patch_of) (defScope s_is_patch_of) .none kV7 dc7 pm7 an7 cd7 ct7), sl7⟩)
    (c7 : PySem.W.codeIn K cd7 "is_patch_of" = true) (k7 : PySem.W.keepIn K (.ref f7) = true)
    (a8 : PySem.W.nsIn K mainGlobals "want_lines" = some (some (.ref f8)))
    (l8 : K.lookup f8 = some ⟨oc8, od8, .func (PySem.W.fnOf "want_lines" "want_lines" (defArgs s_want_lines) (defBody s_want_lines) (defScope s_want_lines) .none kV8 dc8 pm8 an8 cd8 ct8), sl8⟩)
    (c8 : PySem.W.codeIn K cd8 "want_lines" = true) (k8 : PySem.W.keepIn K (.ref f8) = true)
    (a9 : PySem.W.nsIn K mainGlobals "want_patch" = some (some (.ref f9)))
    (l9 : K.lookup f9 = some ⟨oc9, od9, .func (PySem.W.fnOf "want_patch" "want_patch" (defArgs s_want_patch) (defBody s_want_patch) (defScope s_want_patch) .none kV9 dc9 pm9 an9 cd9 ct9), sl9⟩)
    (c9 : PySem.W.codeIn K cd9 "want_patch" = true) (k9 : PySem.W.keepIn K (.ref f9) = true)
    (a10 : PySem.W.nsIn K mainGlobals "trace_of" = some (some (.ref f10)))
    (l10 : K.lookup f10 = some ⟨oc10, od10, .func (PySem.W.fnOf "trace_of" "trace_of" (defArgs s_trace_of) (defBody s_trace_of) (defScope s_trace_of) .none kV10 dc10 pm10 an10 cd10 ct10), sl10⟩)
    (c10 : PySem.W.codeIn K cd10 "trace_of" = true) (k10 : PySem.W.keepIn K (.ref f10) = true)
    (a11 : PySem.W.nsIn K mainGlobals "edits_put_together" = some (some (.ref f11)))
    (l11 : K.lookup f11 = some ⟨oc11, od11, .func (PySem.W.fnOf "edits_put_together" "edits_put_together" (defArgs s_edits_put_together) (defBody s_edits_put_together) (defScope s_edits_put_together) .none kV11 dc11 pm11 an11 cd11 ct11), sl11⟩)
    (c11 : PySem.W.codeIn K cd11 "edits_put_together" = true) (k11 : PySem.W.keepIn K (.ref f11) = true)
    (a12 : PySem.W.nsIn K mainGlobals "patch_of_trace" = some (some (.ref f12)))
    (l12 : K.lookup f12 = some ⟨oc12, od12, .func (PySem.W.fnOf "patch_of_trace" "patch_of_trace" (defArgs s_patch_of_trace) (defBody s_patch_of_trace) (defScope s_patch_of_trace) .none kV12 dc12 pm12 an12 cd12 ct12), sl12⟩)
    (c12 : PySem.W.codeIn K cd12 "patch_of_trace" = true) (k12 : PySem.W.keepIn K (.ref f12) = true)
    (a13 : PySem.W.nsIn K mainGlobals "lines_patched" = some (some (.ref f13)))
    (l13 : K.lookup f13 = some ⟨oc13, od13, .func (PySem.W.fnOf "lines_patched" "lines_patched" (defArgs s_lines_patched) (defBody s_lines_patched) (defScope s_lines_patched) .none kV13 dc13 pm13 an13 cd13 ct13), sl13⟩)
    (c13 : PySem.W.codeIn K cd13 "lines_patched" = true) (k13 : PySem.W.keepIn K (.ref f13) = true)
    (a14 : PySem.W.nsIn K mainGlobals "cost_of_patch" = some (some (.ref f14)))
    (l14 : K.lookup f14 = some ⟨oc14, od14, .func (PySem.W.fnOf "cost_of_patch" "cost_of_patch" (defArgs s_cost_of_patch) (defBody s_cost_of_patch) (defScope s_cost_of_patch) .none kV14 dc14 pm14 an14 cd14 ct14), sl14⟩)
    (c14 : PySem.W.codeIn K cd14 "cost_of_patch" = true) (k14 : PySem.W.keepIn K (.ref f14) = true)
    (a15 : PySem.W.nsIn K mainGlobals "is_patch" = some (some (.ref f15)))
    (l15 : K.lookup f15 = some ⟨oc15, od15, .func (PySem.W.fnOf "is_patch" "is_patch" (defArgs s_is_patch) (defBody s_is_patch) (defScope s_is_patch) .none kV15 dc15 pm15 an15 cd15 ct15), sl15⟩)
    (c15 : PySem.W.codeIn K cd15 "is_patch" = true) (k15 : PySem.W.keepIn K (.ref f15) = true)
    (a16 : PySem.W.nsIn K mainGlobals "patched" = some (some (.ref f16)))
    (l16 : K.lookup f16 = some ⟨oc16, od16, .func (PySem.W.fnOf "patched" "patched" (defArgs s_patched) (defBody s_patched) (defScope s_patched) .none kV16 dc16 pm16 an16 cd16 ct16), sl16⟩)
    (c16 : PySem.W.codeIn K cd16 "patched" = true) (k16 : PySem.W.keepIn K (.ref f16) = true)
    (a17 : PySem.W.nsIn K mainGlobals "patch_cost" = some (some (.ref f17)))
    (l17 : K.lookup f17 = some ⟨oc17, od17, .func (PySem.W.fnOf "patch_cost" "patch_cost" (defArgs s_patch_cost) (defBody s_patch_cost) (defScope s_patch_cost) .none kV17 dc17 pm17 an17 cd17 ct17), sl17⟩)
    (c17 : PySem.W.codeIn K cd17 "patch_cost" = true) (k17 : PySem.W.keepIn K (.ref f17) = true)
    (a18 : PySem.W.nsIn K mainGlobals "normalized" = some (some (.ref f18)))
    (l18 : K.lookup f18 = some ⟨oc18, od18, .func (PySem.W.fnOf "normalized" "normalized" (defArgs s_normalized) (defBody s_normalized) (defScope s_normalized) .none kV18 dc18 pm18 an18 cd18 ct18), sl18⟩)
    (c18 : PySem.W.codeIn K cd18 "normalized" = true) (k18 : PySem.W.keepIn K (.ref f18) = true)
    (a19 : PySem.W.nsIn K mainGlobals "turned_about" = some (some (.ref f19)))
    (l19 : K.lookup f19 = some ⟨oc19, od19, .func (PySem.W.fnOf "turned_about" "turned_about" (defArgs s_turned_about) (defBody s_turned_about) (defScope s_turned_about) .none kV19 dc19 pm19 an19 cd19 ct19), sl19⟩)
    (c19 : PySem.W.codeIn K cd19 "turned_about" = true) (k19 : PySem.W.keepIn K (.ref f19) = true)
    (a20 : PySem.W.nsIn K mainGlobals "joined_patch" = some (some (.ref f20)))
    (l20 : K.lookup f20 = some ⟨oc20, od20, .func (PySem.W.fnOf "joined_patch" "joined_patch" (defArgs s_joined_patch) (defBody s_joined_patch) (defScope s_joined_patch) .none kV20 dc20 pm20 an20 cd20 ct20), sl20⟩)
    (c20 : PySem.W.codeIn K cd20 "joined_patch" = true) (k20 : PySem.W.keepIn K (.ref f20) = true)
    (a21 : PySem.W.nsIn K mainGlobals "_law_draw" = some (some (.ref f21)))
    (l21 : K.lookup f21 = some ⟨oc21, od21, .func (PySem.W.fnOf "_law_draw" "_law_draw" (defArgs s__law_draw) (defBody s__law_draw) (defScope s__law_draw) .none kV21 dc21 pm21 an21 cd21 ct21), sl21⟩)
    (c21 : PySem.W.codeIn K cd21 "_law_draw" = true) (k21 : PySem.W.keepIn K (.ref f21) = true)
    (a22 : PySem.W.nsIn K mainGlobals "_law_pick" = some (some (.ref f22)))
    (l22 : K.lookup f22 = some ⟨oc22, od22, .func (PySem.W.fnOf "_law_pick" "_law_pick" (defArgs s__law_pick) (defBody s__law_pick) (defScope s__law_pick) .none kV22 dc22 pm22 an22 cd22 ct22), sl22⟩)
    (c22 : PySem.W.codeIn K cd22 "_law_pick" = true) (k22 : PySem.W.keepIn K (.ref f22) = true)
    (a23 : PySem.W.nsIn K mainGlobals "_law_lines_drawn" = some (some (.ref f23)))
    (l23 : K.lookup f23 = some ⟨oc23, od23, .func (PySem.W.fnOf "_law_lines_drawn" "_law_lines_drawn" (defArgs s__law_lines_drawn) (defBody s__law_lines_drawn) (defScope s__law_lines_drawn) .none kV23 dc23 pm23 an23 cd23 ct23), sl23⟩)
    (c23 : PySem.W.codeIn K cd23 "_law_lines_drawn" = true) (k23 : PySem.W.keepIn K (.ref f23) = true)
    (a24 : PySem.W.nsIn K mainGlobals "_law_patch" = some (some (.ref f24)))
    (l24 : K.lookup f24 = some ⟨oc24, od24, .func (PySem.W.fnOf "_law_patch" "_law_patch" (defArgs s__law_patch) (defBody s__law_patch) (defScope s__law_patch) .none kV24 dc24 pm24 an24 cd24 ct24), sl24⟩)
    (c24 : PySem.W.codeIn K cd24 "_law_patch" = true) (k24 : PySem.W.keepIn K (.ref f24) = true)
    (a25 : PySem.W.nsIn K mainGlobals "_law_trace" = some (some (.ref f25)))
    (l25 : K.lookup f25 = some ⟨oc25, od25, .func (PySem.W.fnOf "_law_trace" "_law_trace" (defArgs s__law_trace) (defBody s__law_trace) (defScope s__law_trace) .none kV25 dc25 pm25 an25 cd25 ct25), sl25⟩)
    (c25 : PySem.W.codeIn K cd25 "_law_trace" = true) (k25 : PySem.W.keepIn K (.ref f25) = true)
    (a26 : PySem.W.nsIn K mainGlobals "_law_normal" = some (some (.ref f26)))
    (l26 : K.lookup f26 = some ⟨oc26, od26, .func (PySem.W.fnOf "_law_normal" "_law_normal" (defArgs s__law_normal) (defBody s__law_normal) (defScope s__law_normal) .none kV26 dc26 pm26 an26 cd26 ct26), sl26⟩)
    (c26 : PySem.W.codeIn K cd26 "_law_normal" = true) (k26 : PySem.W.keepIn K (.ref f26) = true)
    (a27 : PySem.W.nsIn K mainGlobals "_law_cost" = some (some (.ref f27)))
    (l27 : K.lookup f27 = some ⟨oc27, od27, .func (PySem.W.fnOf "_law_cost" "_law_cost" (defArgs s__law_cost) (defBody s__law_cost) (defScope s__law_cost) .none kV27 dc27 pm27 an27 cd27 ct27), sl27⟩)
    (c27 : PySem.W.codeIn K cd27 "_law_cost" = true) (k27 : PySem.W.keepIn K (.ref f27) = true)
    (a28 : PySem.W.nsIn K mainGlobals "_law_right" = some (some (.ref f28)))
    (l28 : K.lookup f28 = some ⟨oc28, od28, .func (PySem.W.fnOf "_law_right" "_law_right" (defArgs s__law_right) (defBody s__law_right) (defScope s__law_right) .none kV28 dc28 pm28 an28 cd28 ct28), sl28⟩)
    (c28 : PySem.W.codeIn K cd28 "_law_right" = true) (k28 : PySem.W.keepIn K (.ref f28) = true)
    (a29 : PySem.W.nsIn K mainGlobals "_law_pot" = some (some (.ref f29)))
    (l29 : K.lookup f29 = some ⟨oc29, od29, .func (PySem.W.fnOf "_law_pot" "_law_pot" (defArgs s_pot) (defBody s_pot) (defScope s_pot) .none kV29 dc29 pm29 an29 cd29 ct29), sl29⟩)
    (c29 : PySem.W.codeIn K cd29 "_law_pot" = true) (k29 : PySem.W.keepIn K (.ref f29) = true)
    (a30 : PySem.W.nsIn K mainGlobals "law" = some (some (.ref f30)))
    (l30 : K.lookup f30 = some ⟨oc30, od30, .func (PySem.W.fnOf "law" "law" (defArgs s_law) (defBody s_law) (defScope s_law) .none kV30 dc30 pm30 an30 cd30 ct30), sl30⟩)
    (c30 : PySem.W.codeIn K cd30 "law" = true) (k30 : PySem.W.keepIn K (.ref f30) = true)
    (g0 : PySem.W.nsIn K mainGlobals "KEEP" = some (some (.str "keep" t0)))
    (g1 : PySem.W.nsIn K mainGlobals "MOST_EDITS" = some (some (.int 400 t1)))
    (g2 : PySem.W.nsIn K mainGlobals "MOST_LINE" = some (some (.int 2000 t2)))
    (g3 : PySem.W.nsIn K mainGlobals "MOST_LINES" = some (some (.int 200 t3)))
    (g4 : PySem.W.nsIn K mainGlobals "PUT" = some (some (.str "put" t4)))
    (g5 : PySem.W.nsIn K mainGlobals "TAKE" = some (some (.str "take" t5)))
    (z0 : PySem.W.nsIn K mainGlobals "len" = some none)
    (z1 : PySem.W.nsIn K mainGlobals "abs" = some none)
    (z2 : PySem.W.nsIn K mainGlobals "max" = some none)
    (z3 : PySem.W.nsIn K mainGlobals "min" = some none)
    (z4 : PySem.W.nsIn K mainGlobals "sum" = some none)
    (z5 : PySem.W.nsIn K mainGlobals "all" = some none)
    (z6 : PySem.W.nsIn K mainGlobals "any" = some none)
    (z7 : PySem.W.nsIn K mainGlobals "divmod" = some none)
    (z8 : PySem.W.nsIn K mainGlobals "repr" = some none)
    (z9 : PySem.W.nsIn K mainGlobals "int" = some none)
    (z10 : PySem.W.nsIn K mainGlobals "list" = some none)
    (z11 : PySem.W.nsIn K mainGlobals "tuple" = some none)
    (z12 : PySem.W.nsIn K mainGlobals "dict" = some none)
    (z13 : PySem.W.nsIn K mainGlobals "isinstance" = some none)
    (z14 : PySem.W.nsIn K mainGlobals "range" = some none)
    (z15 : PySem.W.nsIn K mainGlobals "enumerate" = some none)
    (z16 : PySem.W.nsIn K mainGlobals "zip" = some none)
    (z17 : PySem.W.nsIn K mainGlobals "bool" = some none)
    (z18 : PySem.W.nsIn K mainGlobals "str" = some none) :
    ∃ fd : FuncData, (∀ (s : Shared) (v : Value), BindsTo s fd ⟨[v], []⟩ [("script", v)]) ∧ ∀ base : Heap, K.In base → base.Ns mainGlobals mg → FnG P w K mg base (LV + 1) fa fd ["script"] (spLaw K) := by
  have e := hfa.symm.trans (PySem.W.mg_of X N a30)
  cases e
  have F0 := fun_mk (st := s_is_integer) l0 c0 k0
  have F1 := fun_mk (st := s_is_count) l1 c1 k1
  have F2 := fun_mk (st := s_is_list) l2 c2 k2
  have F3 := fun_mk (st := s_is_tuple) l3 c3 k3
  have F4 := fun_mk (st := s_is_line_any) l4 c4 k4
  have F5 := fun_mk (st := s_are_lines_any) l5 c5 k5
  have F6 := fun_mk (st := s_is_edit_any) l6 c6 k6
  have F7 := fun_mk (st := s_is_patch_of) l7 c7 k7
  have F8 := fun_mk (st := s_want_lines) l8 c8 k8
  have F9 := fun_mk (st := s_want_patch) l9 c9 k9
  have F10 := fun_mk (st := s_trace_of) l10 c10 k10
  have F11 := fun_mk (st := s_edits_put_together) l11 c11 k11
  have F12 := fun_mk (st := s_patch_of_trace) l12 c12 k12
  have F13 := fun_mk (st := s_lines_patched) l13 c13 k13
  have F14 := fun_mk (st := s_cost_of_patch) l14 c14 k14
  have F15 := fun_mk (st := s_is_patch) l15 c15 k15
  have F16 := fun_mk (st := s_patched) l16 c16 k16
  have F17 := fun_mk (st := s_patch_cost) l17 c17 k17
  have F18 := fun_mk (st := s_normalized) l18 c18 k18
  have F19 := fun_mk (st := s_turned_about) l19 c19 k19
  have F20 := fun_mk (st := s_joined_patch) l20 c20 k20
  have F21 := fun_mk (st := s__law_draw) l21 c21 k21
  have F22 := fun_mk (st := s__law_pick) l22 c22 k22
  have F23 := fun_mk (st := s__law_lines_drawn) l23 c23 k23
  have F24 := fun_mk (st := s__law_patch) l24 c24 k24
  have F25 := fun_mk (st := s__law_trace) l25 c25 k25
  have F26 := fun_mk (st := s__law_normal) l26 c26 k26
  have F27 := fun_mk (st := s__law_cost) l27 c27 k27
  have F28 := fun_mk (st := s__law_right) l28 c28 k28
  have F29 := fun_mk (st := s_pot) l29 c29 k29
  have F30 := fun_mk (st := s_law) l30 c30 k30
  have mz : ∀ x ∈ bltNames, mg (Str.ofString x) = none := by
    intro x hx
    simp only [bltNames, List.mem_cons, List.not_mem_nil, or_false] at hx
    rcases hx with rfl | rfl | rfl | rfl | rfl | rfl | rfl | rfl | rfl | rfl | rfl | rfl | rfl | rfl | rfl | rfl | rfl | rfl | rfl
    · exact PySem.W.mg_none_of X N z0
    · exact PySem.W.mg_none_of X N z1
    · exact PySem.W.mg_none_of X N z2
    · exact PySem.W.mg_none_of X N z3
    · exact PySem.W.mg_none_of X N z4
    · exact PySem.W.mg_none_of X N z5
    · exact PySem.W.mg_none_of X N z6
    · exact PySem.W.mg_none_of X N z7
    · exact PySem.W.mg_none_of X N z8
    · exact PySem.W.mg_none_of X N z9
    · exact PySem.W.mg_none_of X N z10
    · exact PySem.W.mg_none_of X N z11
    · exact PySem.W.mg_none_of X N z12
    · exact PySem.W.mg_none_of X N z13
    · exact PySem.W.mg_none_of X N z14
    · exact PySem.W.mg_none_of X N z15
    · exact PySem.W.mg_none_of X N z16
    · exact PySem.W.mg_none_of X N z17
    · exact PySem.W.mg_none_of X N z18
  have mc : ∀ p ∈ G.cs, ∃ u v, mg (Str.ofString p.1) = some u ∧ RelV v u ∧ ∀ H, Rep K H p.2 v := by
    intro p hp
    simp only [G, List.mem_cons, List.not_mem_nil, or_false] at hp
    rcases hp with rfl | rfl | rfl | rfl | rfl | rfl
    · exact ⟨_, .str "keep", PySem.W.mg_of X N g0, ⟨_, rfl⟩, fun H => by simp [Rep]⟩
    · exact ⟨_, .int 400, PySem.W.mg_of X N g1, ⟨_, rfl⟩, fun H => by simp [Rep]⟩
    · exact ⟨_, .int 2000, PySem.W.mg_of X N g2, ⟨_, rfl⟩, fun H => by simp [Rep]⟩
    · exact ⟨_, .int 200, PySem.W.mg_of X N g3, ⟨_, rfl⟩, fun H => by simp [Rep]⟩
    · exact ⟨_, .str "put", PySem.W.mg_of X N g4, ⟨_, rfl⟩, fun H => by simp [Rep]⟩
    · exact ⟨_, .str "take", PySem.W.mg_of X N g5, ⟨_, rfl⟩, fun H => by simp [Rep]⟩
  have tab : TabOk K mg T G := ⟨allAt (show AllAt (fun f df => ∃ fa fd ps, DefAt K mg G f df fa fd ps) 0 T from ⟨⟨_, _, _, at_is_integer F0 (PySem.W.mg_of X N a0)⟩, ⟨_, _, _, at_is_count F1 (PySem.W.mg_of X N a1)⟩, ⟨_, _, _, at_is_list F2 (PySem.W.mg_of X N a2)⟩, ⟨_, _, _, at_is_tuple F3 (PySem.W.mg_of X N a3)⟩, ⟨_, _, _, at_is_line_any F4 (PySem.W.mg_of X N a4)⟩, ⟨_, _, _, at_are_lines_any F5 (PySem.W.mg_of X N a5)⟩, ⟨_, _, _, at_is_edit_any F6 (PySem.W.mg_of X N a6)⟩, ⟨_, _, _, at_is_patch_of F7 (PySem.W.mg_of X N a7)⟩, ⟨_, _, _, at_want_lines F8 (PySem.W.mg_of X N a8)⟩, ⟨_, _, _, at_want_patch F9 (PySem.W.mg_of X N a9)⟩, ⟨_, _, _, at_trace_of F10 (PySem.W.mg_of X N a10)⟩, ⟨_, _, _, at_edits_put_together F11 (PySem.W.mg_of X N a11)⟩, ⟨_, _, _, at_patch_of_trace F12 (PySem.W.mg_of X N a12)⟩, ⟨_, _, _, at_lines_patched F13 (PySem.W.mg_of X N a13)⟩, ⟨_, _, _, at_cost_of_patch F14 (PySem.W.mg_of X N a14)⟩, ⟨_, _, _, at_is_patch F15 (PySem.W.mg_of X N a15)⟩, ⟨_, _, _, at_patched F16 (PySem.W.mg_of X N a16)⟩, ⟨_, _, _, at_patch_cost F17 (PySem.W.mg_of X N a17)⟩, ⟨_, _, _, at_normalized F18 (PySem.W.mg_of X N a18)⟩, ⟨_, _, _, at_turned_about F19 (PySem.W.mg_of X N a19)⟩, ⟨_, _, _, at_joined_patch F20 (PySem.W.mg_of X N a20)⟩, ⟨_, _, _, at__law_draw F21 (PySem.W.mg_of X N a21)⟩, ⟨_, _, _, at__law_pick F22 (PySem.W.mg_of X N a22)⟩, ⟨_, _, _, at__law_lines_drawn F23 (PySem.W.mg_of X N a23)⟩, ⟨_, _, _, at__law_patch F24 (PySem.W.mg_of X N a24)⟩, ⟨_, _, _, at__law_trace F25 (PySem.W.mg_of X N a25)⟩, ⟨_, _, _, at__law_normal F26 (PySem.W.mg_of X N a26)⟩, ⟨_, _, _, at__law_cost F27 (PySem.W.mg_of X N a27)⟩, ⟨_, _, _, at__law_right F28 (PySem.W.mg_of X N a28)⟩, trivial⟩), names_of rfl, mc, mz⟩
  refine ⟨PySem.W.fnOf "law" "law" (defArgs s_law) (defBody s_law) (defScope s_law) .none kV30 dc30 pm30 an30 cd30 ct30, fun s v => .of_eq rfl, fun base _ _ => ?_⟩
  exact law_end F30 F29 (PySem.W.mg_of X N a29) k29 F28 (PySem.W.mg_of X N a28) k28 tab big mz
end
end K82

open PySem PySem.W PyProof.Rows
set_option maxHeartbeats 0 in
theorem PySem.Challenge.cw_formscountry_k82_whole_patches_done_and_holds : PySem.Challenge.rw_formscountry_k82_whole_patches_done_and.Holds := by
  w_on; o_law; k_head; (case hw => w_witness2)
  k_fill
  refine PL.walk_G (l := PySem.Challenge.rw_formscountry_k82_whole_patches_done_and) (n := 63) (kk := 8) rfl (by decide) rfl ⟨rfl, by decide, by decide⟩ (fun w h Y => PySem.W.kIn_of Y) ?F
  case F =>
    intro w mg fa h KX G hmg
    refine' K82.all_mk (LV := 7) (Nat.le_refl _) KX G hmg ?of_a0 ?of_l0 ?of_c0 ?of_k0 ?of_a1 ?of_l1 ?of_c1 ?of_k1 ?of_a2 ?of_l2 ?of_c2 ?of_k2 ?of_a3 ?of_l3 ?of_c3 ?of_k3 ?of_a4 ?of_l4 ?of_c4 ?of_k4 ?of_a5 ?of_l5 ?of_c5 ?of_k5 ?of_a6 ?of_l6 ?of_c6 ?of_k6 ?of_a7 ?of_l7 ?of_c7 ?of_k7 ?of_a8 ?of_l8 ?of_c8 ?of_k8 ?of_a9 ?of_l9 ?of_c9 ?of_k9 ?of_a10 ?of_l10 ?of_c10 ?of_k10 ?of_a11 ?of_l11 ?of_c11 ?of_k11 ?of_a12 ?of_l12 ?of_c12 ?of_k12 ?of_a13 ?of_l13 ?of_c13 ?of_k13 ?of_a14 ?of_l14 ?of_c14 ?of_k14 ?of_a15 ?of_l15 ?of_c15 ?of_k15 ?of_a16 ?of_l16 ?of_c16 ?of_k16 ?of_a17 ?of_l17 ?of_c17 ?of_k17 ?of_a18 ?of_l18 ?of_c18 ?of_k18 ?of_a19 ?of_l19 ?of_c19 ?of_k19 ?of_a20 ?of_l20 ?of_c20 ?of_k20 ?of_a21 ?of_l21 ?of_c21 ?of_k21 ?of_a22 ?of_l22 ?of_c22 ?of_k22 ?of_a23 ?of_l23 ?of_c23 ?of_k23 ?of_a24 ?of_l24 ?of_c24 ?of_k24 ?of_a25 ?of_l25 ?of_c25 ?of_k25 ?of_a26 ?of_l26 ?of_c26 ?of_k26 ?of_a27 ?of_l27 ?of_c27 ?of_k27 ?of_a28 ?of_l28 ?of_c28 ?of_k28 ?of_a29 ?of_l29 ?of_c29 ?of_k29 ?of_a30 ?of_l30 ?of_c30 ?of_k30 ?of_g0 ?of_g1 ?of_g2 ?of_g3 ?of_g4 ?of_g5 ?of_z0 ?of_z1 ?of_z2 ?of_z3 ?of_z4 ?of_z5 ?of_z6 ?of_z7 ?of_z8 ?of_z9 ?of_z10 ?of_z11 ?of_z12 ?of_z13 ?of_z14 ?of_z15 ?of_z16 ?of_z17 ?of_z18
    (case of_a0 => k_is); (case of_l0 => k_is); (case of_c0 => k_is); (case of_k0 => k_is); (case of_a1 => k_is); (case of_l1 => k_is); (case of_c1 => k_is); (case of_k1 => k_is); (case of_a2 => k_is); (case of_l2 => k_is); (case of_c2 => k_is); (case of_k2 => k_is); (case of_a3 => k_is); (case of_l3 => k_is); (case of_c3 => k_is); (case of_k3 => k_is); (case of_a4 => k_is); (case of_l4 => k_is); (case of_c4 => k_is); (case of_k4 => k_is); (case of_a5 => k_is); (case of_l5 => k_is); (case of_c5 => k_is); (case of_k5 => k_is); (case of_a6 => k_is); (case of_l6 => k_is); (case of_c6 => k_is); (case of_k6 => k_is); (case of_a7 => k_is); (case of_l7 => k_is); (case of_c7 => k_is); (case of_k7 => k_is); (case of_a8 => k_is); (case of_l8 => k_is); (case of_c8 => k_is); (case of_k8 => k_is); (case of_a9 => k_is); (case of_l9 => k_is); (case of_c9 => k_is); (case of_k9 => k_is); (case of_a10 => k_is); (case of_l10 => k_is); (case of_c10 => k_is); (case of_k10 => k_is); (case of_a11 => k_is); (case of_l11 => k_is); (case of_c11 => k_is); (case of_k11 => k_is); (case of_a12 => k_is); (case of_l12 => k_is); (case of_c12 => k_is); (case of_k12 => k_is); (case of_a13 => k_is); (case of_l13 => k_is); (case of_c13 => k_is); (case of_k13 => k_is); (case of_a14 => k_is); (case of_l14 => k_is); (case of_c14 => k_is); (case of_k14 => k_is); (case of_a15 => k_is); (case of_l15 => k_is); (case of_c15 => k_is); (case of_k15 => k_is); (case of_a16 => k_is); (case of_l16 => k_is); (case of_c16 => k_is); (case of_k16 => k_is); (case of_a17 => k_is); (case of_l17 => k_is); (case of_c17 => k_is); (case of_k17 => k_is); (case of_a18 => k_is); (case of_l18 => k_is); (case of_c18 => k_is); (case of_k18 => k_is); (case of_a19 => k_is); (case of_l19 => k_is); (case of_c19 => k_is); (case of_k19 => k_is); (case of_a20 => k_is); (case of_l20 => k_is); (case of_c20 => k_is); (case of_k20 => k_is); (case of_a21 => k_is); (case of_l21 => k_is); (case of_c21 => k_is); (case of_k21 => k_is); (case of_a22 => k_is); (case of_l22 => k_is); (case of_c22 => k_is); (case of_k22 => k_is); (case of_a23 => k_is); (case of_l23 => k_is); (case of_c23 => k_is); (case of_k23 => k_is); (case of_a24 => k_is); (case of_l24 => k_is); (case of_c24 => k_is); (case of_k24 => k_is); (case of_a25 => k_is); (case of_l25 => k_is); (case of_c25 => k_is); (case of_k25 => k_is); (case of_a26 => k_is); (case of_l26 => k_is); (case of_c26 => k_is); (case of_k26 => k_is); (case of_a27 => k_is); (case of_l27 => k_is); (case of_c27 => k_is); (case of_k27 => k_is); (case of_a28 => k_is); (case of_l28 => k_is); (case of_c28 => k_is); (case of_k28 => k_is); (case of_a29 => k_is); (case of_l29 => k_is); (case of_c29 => k_is); (case of_k29 => k_is); (case of_a30 => k_is); (case of_l30 => k_is); (case of_c30 => k_is); (case of_k30 => k_is); (case of_g0 => k_is); (case of_g1 => k_is); (case of_g2 => k_is); (case of_g3 => k_is); (case of_g4 => k_is); (case of_g5 => k_is); (case of_z0 => k_is); (case of_z1 => k_is); (case of_z2 => k_is); (case of_z3 => k_is); (case of_z4 => k_is); (case of_z5 => k_is); (case of_z6 => k_is); (case of_z7 => k_is); (case of_z8 => k_is); (case of_z9 => k_is); (case of_z10 => k_is); (case of_z11 => k_is); (case of_z12 => k_is); (case of_z13 => k_is); (case of_z14 => k_is); (case of_z15 => k_is); (case of_z16 => k_is); (case of_z17 => k_is); (case of_z18 => k_is)

