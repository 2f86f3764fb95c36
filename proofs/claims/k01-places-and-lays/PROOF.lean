import PyProof.Rows.All
import Wide.All
import OpenK.AllK
import Wide.FinOn
import HandS.ForMost
import HandS.Wide
import HandS.Style
import HandS.TupAny
import HandS.TupMul
import HandS.IsInst
import HandS.Conv
import HandS.Zip
import HandS.RaiseMore
import HandS.ForExc
import HandS.CallSlots
import HandS.Walk
import HandS.Rev
import KE.SortData
import KE.DataMinMax
import HandS.ForDict
import HandS.Defaults
import PySem.Challenge.RW_overleaps_k01_places_and_lays_known
set_option Elab.async false
set_option linter.all false
set_option maxRecDepth 100000
set_option maxHeartbeats 4000000
namespace IP
open PySem PyProof.Rows

/-! the data of the small evaluator -/
inductive Val where
  | dat (p : PyData)
  | ref (l : Nat)
  | exn (c : Nat) (fs : List PyData)
inductive Ob where
  | lst (xs : List PyData)
  | dic (kvs : List (PyData × PyData))
  | frz (xs : List PyData)
  | ins (c : Nat) (fs : List (Nat × Val))
  | dead
abbrev Store := List Ob
abbrev Env := List (Option Val)
inductive Out (A : Type) where
  | ok (a : A) (S : Store)
  | exc (c : Nat) (fs : List PyData) (S : Store)
  | err
def Out.bind {A B : Type} (o : Out A) (f : A → Store → Out B) : Out B := match o with
  | .ok a S => f a S
  | .exc c fs S => .exc c fs S
  | .err => .err
@[simp] theorem Out.bind_ok {A B : Type} (a : A) (S : Store) (f : A → Store → Out B) : (Out.ok a S).bind f = f a S := rfl
@[simp] theorem Out.bind_exc {A B : Type} (c : Nat) (fs : List PyData) (S : Store) (f : A → Store → Out B) : (Out.exc c fs S).bind f = .exc c fs S := rfl
@[simp] theorem Out.bind_err {A B : Type} (f : A → Store → Out B) : (Out.err : Out A).bind f = .err := rfl

inductive BK where
  | add | sub | mul | fdv | mod | pow
  deriving DecidableEq
inductive CK where
  | eq | ne | lt | le | gt | ge | inn | nin
  deriving DecidableEq
inductive TK where
  | int | bool | tuple | str
  deriving DecidableEq
inductive BF where
  | len | abs | min2 | max2 | int | str | repr | list | tuple | all | any | sum | sorted | min | max | isi (t : TK) | lenset
  deriving DecidableEq
inductive Pt where
  | nm (i : Nat)
  | tp (ps : List Pt)

inductive IE where
  | var (i : Nat)
  | frz (i : Nat)
  | cst (p : PyData)
  | gcs (g : Nat) (p : PyData)
  | tup (es : List IE)
  | lst (es : List IE)
  | new (e : IE)
  | ndc
  | bin (op : BK) (a b : IE)
  | neg (a : IE)
  | not (a : IE)
  | cmp (op : CK) (a b : IE)
  | chn (op op' : CK) (a b c : IE)
  | isc (neg : Bool) (a : IE) (p : PyData)
  | and (a b : IE)
  | or (a b : IE)
  | ite (c a b : IE)
  | call (f : Nat) (es : List IE) (ds : List Int)
  | callk (f : Nat) (es kes : List IE) (perm : List Nat)
  | mk (c f : Nat) (es : List IE)
  | mth (c f : Nat) (o : IE) (es : List IE) (ds : List Int)
  | bf (b : BF) (es : List IE)
  | comp (elt : IE) (pt : Pt) (it : IE) (ifs : List IE) (own : List Nat)
  | idx (a i : IE)
  | sli (a lo hi : IE)
  | rev (a : IE)
  | non
  | fld (o : IE) (f : Nat)
  | rg1 (a : IE)
  | rg2 (a b : IE)
  | zip (a b : IE)
  | enu (a : IE)
  | rvd (a : IE)
  | lr1 (t : Bool) (a : IE)
  | lr2 (t : Bool) (a b : IE)
  | pop (i : Nat) (e : IE)
  | cat (a b : IE)
  | lset (a : IE)
  | dic0
  | dic1 (k : PyData) (a : IE)
  | bad

inductive Tg where
  | nm (i : Nat)
  | fld (o : IE) (f : Nat)
  | sub (o i : IE)
  | tp (ts : List Tg)
inductive IS where
  | asg (t : Tg) (e : IE)
  | par (ts : List Tg) (es : List IE)
  | exp (e : IE)
  | app (i : Nat) (e : IE)
  | ext (i : Nat) (e : IE)
  | ite (c : IE) (a b : List IS)
  | for_ (pt : Pt) (it : IE) (body : List IS)
  | whl (c : IE) (body : List IS)
  | ret (e : IE)
  | rtn
  | rse (c : Nat) (es : List IE)
  | tri (body : List IS) (cs : List Nat) (i : Nat) (h : List IS)
  | nop
  | bad

/-! values -/
def look (S : Store) : Val → Option PyData
  | .dat p => some p
  | .ref l => match S[l]? with
    | some (.lst xs) => some (.list xs)
    | some (.dic kvs) => some (.dict kvs)
    | _ => none
  | .exn _ _ => none
/-- the same, the script too -/
def lookF (S : Store) : Val → Option PyData
  | .dat p => some p
  | .ref l => match S[l]? with
    | some (.lst xs) => some (.list xs)
    | some (.dic kvs) => some (.dict kvs)
    | some (.frz xs) => some (.list xs)
    | _ => none
  | .exn _ _ => none
def lookO (op : BK) (S : Store) (v : Val) : Option PyData := match op with
  | .mul => look S v
  | _ => lookF S v
def dats : List Val → Option (List PyData)
  | [] => some []
  | .dat p :: vs => (dats vs).map (p :: ·)
  | _ :: _ => none
def datb : Val → Option Bool
  | .dat (.bool b) => some b
  | _ => none
/-- an option as an outcome -/
def opt {A : Type} (o : Option A) (S : Store) : Out A := match o with
  | some a => .ok a S
  | none => .err
def optD (o : Option PyData) (S : Store) : Out Val := match o with
  | some a => .ok (.dat a) S
  | none => .err
@[simp] theorem opt_some {A : Type} (a : A) (S : Store) : opt (some a) S = .ok a S := rfl
@[simp] theorem opt_none {A : Type} (S : Store) : opt (none : Option A) S = .err := rfl
@[simp] theorem optD_some (a : PyData) (S : Store) : optD (some a) S = .ok (.dat a) S := rfl
@[simp] theorem optD_none (S : Store) : optD none S = .err := rfl

def mulOk (i j : Int) : Bool := decide (i.natAbs.log2 + j.natAbs.log2 < 1000000)
def divOk (j : Int) : Bool := decide (j ≠ 0) && decide (j.natAbs.log2 < 9000)
def binP (op : BK) : PyData → PyData → Option PyData
  | .int i, .int j => match op with
    | .add => some (.int (i + j))
    | .sub => some (.int (i - j))
    | .mul => if mulOk i j = true then some (.int (i * j)) else none
    | .fdv => if divOk j = true then some (.int (i.fdiv j)) else none
    | .mod => if j ≠ 0 then some (.int (i.fmod j)) else none
    | .pow => if 0 ≤ j ∧ j ≤ 1000000 ∧ i.natAbs < 2 ^ 64 then some (.int (i ^ j.toNat)) else none
  | .str a, .str b => match op with
    | .add => if a.length + b.length ≤ sizeLine then some (.str (a ++ b)) else none
    | _ => none
  | .list a, .list b => match op with
    | .add => if a.length + b.length ≤ sizeLine then some (.list (a ++ b)) else none
    | _ => none
  | .tuple a, .tuple b => match op with
    | .add => if a.length + b.length ≤ sizeLine then some (.tuple (a ++ b)) else none
    | _ => none
  | .tuple a, .int k => match op with
    | .mul => if -1000 ≤ k ∧ k ≤ 1000 ∧ a.length ≤ 1000 then some (.tuple (List.replicate k.toNat a).flatten) else none
    | _ => none
  | .list a, .int k => match op with
    | .mul => if -(2 ^ 63) ≤ k ∧ k < 2 ^ 63 ∧ a.length * k.toNat ≤ sizeLine then some (.list (List.replicate k.toNat a).flatten) else none
    | _ => none
  | _, _ => none
def flatP : PyData → Bool
  | .none => true
  | .bool _ => true
  | .int _ => true
  | .str _ => true
  | _ => false
def eqP : PyData → PyData → Option Bool
  | .int i, .int j => some (decide (i = j))
  | .str x, .str y => some (decide (x = y))
  | a, b => if SeqAt.shaped a = true ∧ SeqAt.shaped b = true then some (PyData.eqv a b) else none
/-- a tuple beside the empty one, whatever is in it -/
def eqT0 : PyData → PyData → Option Bool
  | .tuple xs, .tuple [] => some xs.isEmpty
  | _, _ => none
def eqO : Option Bool → Option Bool → Option Bool
  | some r, _ => some r
  | none, o => o
def inP : PyData → PyData → Option Bool
  | x, .list ys => if flatP x = true ∧ ys.all flatP = true then some (ys.any fun y => PyData.eqv y x) else none
  | x, .tuple ys => if flatP x = true ∧ ys.all flatP = true then some (ys.any fun y => PyData.eqv y x) else none
  | .str a, .str b => some (!(Builtin.Str.occurrences b a 0 b.length 1).isEmpty)
  | _, _ => none
def cmpP (op : CK) (a b : PyData) : Option Bool := match op with
  | .eq => eqO (eqP a b) (eqT0 a b)
  | .ne => (eqP a b).map (!·)
  | .inn => inP a b
  | .nin => (inP a b).map (!·)
  | .lt => match a, b with
    | .int i, .int j => some (decide (i < j))
    | _, _ => none
  | .le => match a, b with
    | .int i, .int j => some (decide (i ≤ j))
    | _, _ => none
  | .gt => match a, b with
    | .int i, .int j => some (decide (j < i))
    | _, _ => none
  | .ge => match a, b with
    | .int i, .int j => some (decide (j ≤ i))
    | _, _ => none
def idxP : PyData → PyData → Option PyData
  | .list xs, .int i => L2.atI xs i
  | .tuple xs, .int i => L2.atI xs i
  | .str s, .int i => if s.length ≤ sizeLine then (L2.atI s.cps.toList i).map fun c => .str ⟨#[c]⟩ else none
  | _, _ => none
def cutP {A : Type} (xs : List A) (lo hi : Option Int) : List A :=
  (xs.drop (HT.sIx xs.length 0 lo)).take (HT.sIx xs.length xs.length hi - HT.sIx xs.length 0 lo)
def sliP : PyData → Option Int → Option Int → Option PyData
  | .list xs, lo, hi => some (.list (cutP xs lo hi))
  | .tuple xs, lo, hi => some (.tuple (cutP xs lo hi))
  | .str s, lo, hi => if s.length ≤ sizeLine then some (.str (L2.cutS s lo hi)) else none
  | _, _, _ => none
def revP : PyData → Option PyData
  | .list xs => some (.list xs.reverse)
  | .tuple xs => some (.tuple xs.reverse)
  | _ => none
def isTy (t : TK) : PyData → Bool
  | .int _ => match t with | .int => true | _ => false
  | .bool _ => match t with | .int => true | .bool => true | _ => false
  | .tuple _ => match t with | .tuple => true | _ => false
  | .str _ => match t with | .str => true | _ => false
  | _ => false
def intsOf : List PyData → Option (List Int)
  | [] => some []
  | .int i :: r => (intsOf r).map (i :: ·)
  | _ :: _ => none
def boolsOf : List PyData → Option (List Bool)
  | [] => some []
  | .bool i :: r => (boolsOf r).map (i :: ·)
  | _ :: _ => none
/-- a list or tuple's items -/
def seqP : PyData → Option (List PyData)
  | .list xs => some xs
  | .tuple xs => some xs
  | _ => none
def strItems (s : Str) : List PyData := s.cps.toList.map fun c => .str ⟨#[c]⟩
/-- what a for walks -/
def itemsP : PyData → Option (List PyData)
  | .list xs => some xs
  | .tuple xs => some xs
  | .str s => some (strItems s)
  | _ => none
def intRange (a b : Int) : List PyData := (List.range (b - a).toNat).map fun (i : Nat) => PyData.int (a + (i : Int))
def rowsInt : List PyData → Option (List (List Int))
  | [] => some []
  | .tuple xs :: r => match intsOf xs, rowsInt r with
    | some ns, some rs => some (ns :: rs)
    | _, _ => none
  | _ :: _ => none
/-- an item put into a rising row -/
def insBy {A : Type} (lt : A → A → Bool) (x : A) : List A → List A
  | [] => [x]
  | y :: r => if lt x y = true then x :: y :: r else y :: insBy lt x r
def sortBy {A : Type} (lt : A → A → Bool) : List A → List A
  | [] => []
  | x :: r => insBy lt x (sortBy lt r)
def leastBy {A : Type} (lt : A → A → Bool) (x : A) : List A → A
  | [] => x
  | y :: r => leastBy lt (if lt y x = true then y else x) r
def repOk (p : PyData) : Bool := p.showable && decide (p.depth ≤ 64) && decide (p.shown.length ≤ sizeLine)
def bfP (b : BF) (vs : List PyData) : Option PyData := match b, vs with
  | .len, [.str s] => if s.length ≤ sizeLine then some (.int s.length) else none
  | .len, [.list xs] => some (.int xs.length)
  | .len, [.tuple xs] => some (.int xs.length)
  | .abs, [.int i] => some (.int (if i < 0 then -i else i))
  | .min2, [.int i, .int j] => some (.int (if j < i then j else i))
  | .max2, [.int i, .int j] => some (.int (if j > i then j else i))
  | .int, [.bool b] => some (.int (if b = true then 1 else 0))
  | .int, [.int i] => some (.int i)
  | .str, [.int i] => if i.natAbs.log2 < 1920 then some (.str (toString i)) else none
  | .str, [.str s] => some (.str s)
  | .repr, [p] => if repOk p = true then some (.str p.shown) else none
  | .list, [.list xs] => some (.list xs)
  | .list, [.tuple xs] => some (.list xs)
  | .tuple, [.list xs] => some (.tuple xs)
  | .tuple, [.tuple xs] => some (.tuple xs)
  | .all, [.list xs] => (boolsOf xs).map fun bs => .bool (bs.all id)
  | .any, [.list xs] => (boolsOf xs).map fun bs => .bool (bs.any id)
  | .sum, [.list xs] => (intsOf xs).map fun ns => .int ns.sum
  | .sorted, [.list xs] => (rowsInt xs).bind fun rs => if rs.all (fun r => !r.isEmpty) = true then some (.list ((sortBy HT.lexLt rs).map fun r => .tuple (r.map .int))) else none
  | .min, [.list xs] => match rowsInt xs with
    | some (r :: rs) => some (.tuple ((leastBy HT.lexLt r rs).map .int))
    | _ => none
  | .isi t, [p] => some (.bool (isTy t p))
  | _, _ => none

def bindPt : Pt → Val → Env → Option Env
  | .nm i, v, s => if i < s.length then some (s.set i (some v)) else none
  | .tp ps, .dat (.tuple xs), s => bindPts ps xs s
  | .tp _, _, _ => none
where bindPts : List Pt → List PyData → Env → Option Env
  | [], [], s => some s
  | p :: ps, x :: xs, s => match bindPt p (.dat x) s with
    | some s' => bindPts ps xs s'
    | none => none
  | _, _, _ => none
def wipeE (s : Env) : List Nat → Env
  | [] => s
  | v :: vs => (wipeE s vs).set v none
def consO (o : Option PyData) (r : List PyData) : List PyData := match o with
  | some y => y :: r
  | none => r
def compL (f : PyData → Store → Out (Option PyData)) : List PyData → Store → Out (List PyData)
  | [], S => .ok [] S
  | x :: xs, S => (f x S).bind fun o S1 => (compL f xs S1).bind fun r S2 => .ok (consO o r) S2
/-- the items that are walked -/
def itO (o : Out Val) : Out (List PyData) := o.bind fun v S => match v with
  | .dat d => match itemsP d with
    | some xs => .ok xs S
    | none => .err
  | _ => .err
/-- nothing may be raised here -/
def Out.nox {A : Type} : Out A → Out A
  | .exc _ _ _ => .err
  | o => o
@[simp] theorem Out.nox_ok {A : Type} (a : A) (S : Store) : (Out.ok a S).nox = .ok a S := rfl
@[simp] theorem Out.nox_err {A : Type} : (Out.err : Out A).nox = .err := rfl
/-- a tuple or a list -/
def mkSeq (t : Bool) (xs : List PyData) : PyData := if t = true then .tuple xs else .list xs
def small (j : Int) : Bool := decide (j.natAbs.log2 < 61)
def rgOk (a b : Int) : Bool := small a && small b && decide ((b - a).toNat ≤ 16777216)
theorem small_lt {j : Int} (h : small j = true) : j < 2 ^ 62 ∧ -(2 ^ 62) ≤ j := by
  unfold small at h
  have := lt_two_pow_of_log2_lt (of_decide_eq_true h)
  omega
theorem small_of {j : Int} (h : -1000000000000 ≤ j) (h' : j ≤ 1000000000000) : small j = true := by
  unfold small
  by_cases e : j.natAbs = 0
  · rw [e]
    decide
  · exact decide_eq_true ((Nat.log2_lt e).mpr (by omega))
abbrev CallF := Nat → List Val → Store → Out Val
def dfl (ds : List Int) : List Val := ds.map fun i => .dat (.int i)
def permute {A : Type} : List Nat → List A → Option (List A)
  | [], _ => some []
  | i :: r, vs => match vs[i]?, permute r vs with
    | some v, some vs' => some (v :: vs')
    | _, _ => none
def isNon : IE → Bool
  | .non => true
  | _ => false
/-- a part of a slice -/
def partO (b : Bool) (o : Out Val) (S : Store) : Out (Option Int) := if b = true then .ok none S else o.bind fun v S1 => match v with
  | .dat (.int i) => .ok (some i) S1
  | _ => .err

mutual
def evE (cf : CallF) : IE → Env → Store → Out Val
  | .var i, s, S => match s[i]? with
    | some (some v) => .ok v S
    | _ => .err
  | .frz i, s, S => match s[i]? with
    | some (some (.ref l)) => match S[l]? with
      | some (.lst xs) => .ok (.dat (.list xs)) (S.set l .dead)
      | some (.dic kvs) => .ok (.dat (.dict kvs)) (S.set l .dead)
      | _ => .err
    | _ => .err
  | .cst p, _, S => .ok (.dat p) S
  | .gcs _ p, _, S => .ok (.dat p) S
  | .tup es, s, S => (evL cf es s S).bind fun vs S1 => match dats vs with
    | some ps => if ps.length ≤ sizeLine then .ok (.dat (.tuple ps)) S1 else .err
    | none => .err
  | .lst es, s, S => (evL cf es s S).bind fun vs S1 => match dats vs with
    | some ps => if ps.length ≤ sizeLine then .ok (.dat (.list ps)) S1 else .err
    | none => .err
  | .new e, s, S => (evE cf e s S).bind fun v S1 => match v with
    | .dat (.list xs) => .ok (.ref S1.length) (S1 ++ [.lst xs])
    | _ => .err
  | .ndc, _, S => .ok (.ref S.length) (S ++ [.dic []])
  | .bin op a b, s, S => (evE cf a s S).bind fun x S1 => (evE cf b s S1).bind fun y S2 => match lookO op S2 x, lookO op S2 y with
    | some p, some q => optD (binP op p q) S2
    | _, _ => .err
  | .neg a, s, S => (evE cf a s S).bind fun x S1 => match x with
    | .dat (.int i) => .ok (.dat (.int (-i))) S1
    | _ => .err
  | .not a, s, S => (evE cf a s S).bind fun x S1 => match x with
    | .dat (.bool b) => .ok (.dat (.bool (!b))) S1
    | _ => .err
  | .cmp op a b, s, S => (evE cf a s S).bind fun x S1 => (evE cf b s S1).bind fun y S2 => match lookF S2 x, lookF S2 y with
    | some p, some q => optD ((cmpP op p q).map .bool) S2
    | _, _ => .err
  | .chn op op' a b c, s, S => (evE cf a s S).bind fun x S1 => (evE cf b s S1).bind fun y S2 => match x, y with
    | .dat p, .dat q => match cmpP op p q with
      | some true => (evE cf c s S2).bind fun z S3 => match z with
        | .dat r => optD ((cmpP op' q r).map .bool) S3
        | _ => .err
      | some false => .ok (.dat (.bool false)) S2
      | none => .err
    | _, _ => .err
  | .isc n a p, s, S => (evE cf a s S).bind fun x S1 => match x, p with
    | .dat .none, .none => .ok (.dat (.bool (!n))) S1
    | .dat _, .none => .ok (.dat (.bool n)) S1
    | .ref _, .none => .ok (.dat (.bool n)) S1
    | .dat (.bool b), .bool c => .ok (.dat (.bool (if n = true then !(decide (b = c)) else decide (b = c)))) S1
    | _, _ => .err
  | .and a b, s, S => (evE cf a s S).bind fun x S1 => match x with
    | .dat (.bool true) => evE cf b s S1
    | .dat (.bool false) => .ok (.dat (.bool false)) S1
    | _ => .err
  | .or a b, s, S => (evE cf a s S).bind fun x S1 => match x with
    | .dat (.bool true) => .ok (.dat (.bool true)) S1
    | .dat (.bool false) => evE cf b s S1
    | _ => .err
  | .ite c a b, s, S => (evE cf c s S).bind fun x S1 => match x with
    | .dat (.bool true) => evE cf a s S1
    | .dat (.bool false) => evE cf b s S1
    | _ => .err
  | .call f es ds, s, S => (evL cf es s S).bind fun vs S1 => cf f (vs ++ dfl ds) S1
  | .callk f es kes perm, s, S => (evL cf es s S).bind fun vs S1 => (evL cf kes s S1).bind fun ws S2 => match permute perm (vs ++ ws) with
    | some vs' => cf f vs' S2
    | none => .err
  | .mk c f es, s, S => (evL cf es s S).bind fun vs S1 => (cf f (.ref S1.length :: vs) (S1 ++ [.ins c []])).bind fun v S2 => match v with
    | .dat .none => .ok (.ref S1.length) S2
    | _ => .err
  | .mth c f o es ds, s, S => (evE cf o s S).bind fun x S1 => match x with
    | .ref l => match S1[l]? with
      | some (.ins c' _) => if c' = c then (evL cf es s S1).bind fun vs S2 => cf f (.ref l :: (vs ++ dfl ds)) S2 else .err
      | _ => .err
    | _ => .err
  | .bf b es, s, S => (evL cf es s S).bind fun vs S1 => match vs with
    | [x] => match lookF S1 x with
      | some p => optD (bfP b [p]) S1
      | none => .err
    | [.dat p, .dat q] => optD (bfP b [p, q]) S1
    | _ => .err
  | .comp elt pt it ifs own, s, S => (itO (evE cf it s S)).bind fun xs S1 => if xs.length < sizeLine then (compL (fun y S2 => Out.nox (match bindPt pt (.dat y) (wipeE s own) with
      | some s' => (evAll cf ifs s' S2).bind fun b S3 => if b = true then (evE cf elt s' S3).bind fun v S4 => match v with
        | .dat p => .ok (some p) S4
        | _ => .err else .ok none S3
      | none => .err)) xs S1).bind fun ys S5 => .ok (.dat (.list ys)) S5 else .err
  | .idx a i, s, S => (evE cf a s S).bind fun x S1 => (evE cf i s S1).bind fun y S2 => match lookF S2 x, y with
    | some p, .dat q => optD (idxP p q) S2
    | _, _ => .err
  | .sli a lo hi, s, S => (evE cf a s S).bind fun x S1 => (partO (isNon lo) (evE cf lo s S1) S1).bind fun l S2 => (partO (isNon hi) (evE cf hi s S2) S2).bind fun h S3 => match lookF S3 x with
    | some p => optD (sliP p l h) S3
    | none => .err
  | .rev a, s, S => (evE cf a s S).bind fun x S1 => match lookF S1 x with
    | some p => optD (revP p) S1
    | none => .err
  | .non, _, S => .ok (.dat .none) S
  | .fld o f, s, S => (evE cf o s S).bind fun x S1 => match x with
    | .ref l => match S1[l]? with
      | some (.ins _ fs) => match fs.lookup f with
        | some v => .ok v S1
        | none => .err
      | _ => .err
    | _ => .err
  | .rg1 a, s, S => (evE cf a s S).bind fun x S1 => match x with
    | .dat (.int j) => if small j = true then .ok (.dat (.list (intRange 0 j))) S1 else .err
    | _ => .err
  | .rg2 a b, s, S => (evE cf a s S).bind fun x S1 => (evE cf b s S1).bind fun y S2 => match x, y with
    | .dat (.int i), .dat (.int j) => if small i = true ∧ small j = true then .ok (.dat (.list (intRange i j))) S2 else .err
    | _, _ => .err
  | .zip a b, s, S => (evE cf a s S).bind fun x S1 => (evE cf b s S1).bind fun y S2 => match x, y with
    | .dat (.list xs), .dat (.list ys) => .ok (.dat (.list ((xs.zip ys).map fun z => .tuple [z.1, z.2]))) S2
    | .dat (.tuple xs), .dat (.tuple ys) => .ok (.dat (.list ((xs.zip ys).map fun z => .tuple [z.1, z.2]))) S2
    | _, _ => .err
  | .enu a, s, S => (evE cf a s S).bind fun x S1 => match x with
    | .dat p => match seqP p with
      | some xs => .ok (.dat (.list ((xs.zipIdx).map fun z => .tuple [.int z.2, z.1]))) S1
      | none => .err
    | _ => .err
  | .rvd a, s, S => (evE cf a s S).bind fun x S1 => match x with
    | .dat p => match seqP p with
      | some xs => .ok (.dat (.list xs.reverse)) S1
      | none => .err
    | _ => .err
  | .lr1 t a, s, S => (evE cf a s S).bind fun x S1 => match x with
    | .dat (.int j) => if rgOk 0 j = true then .ok (.dat (mkSeq t (intRange 0 j))) S1 else .err
    | _ => .err
  | .lr2 t a b, s, S => (evE cf a s S).bind fun x S1 => (evE cf b s S1).bind fun y S2 => match x, y with
    | .dat (.int i), .dat (.int j) => if rgOk i j = true then .ok (.dat (mkSeq t (intRange i j))) S2 else .err
    | _, _ => .err
  | .pop i e, s, S => match s[i]? with
    | some (some (.ref l)) => match S[l]? with
      | some (.lst _) => (evE cf e s S).bind fun v S1 => match v, S1[l]? with
        | .dat (.int k), some (.lst xs) => if xs.length ≤ 1000000 then (match L2.ixN xs.length k with
          | some j => match xs[j]? with
            | some d => .ok (.dat d) (S1.set l (.lst (xs.eraseIdx j)))
            | none => .err
          | none => .err) else .err
        | _, _ => .err
      | _ => .err
    | _ => .err
  | .cat a b, s, S => (evE cf a s S).bind fun x S1 => (evE cf b s S1).bind fun y S2 => match lookF S2 x, lookF S2 y with
    | some (.list xs), some (.list ys) => if xs.length + ys.length ≤ sizeLine then .ok (.dat (.list (xs ++ ys))) S2 else .err
    | _, _ => .err
  | .lset a, s, S => (evE cf a s S).bind fun x S1 => match x with
    | .dat (.list xs) => match intsOf xs with
      | some ns => if ns.length ≤ 4000 then .ok (.dat (.int ((ns.foldl step_dedup []).length : Nat))) S1 else .err
      | none => .err
    | _ => .err
  | .dic0, _, S => .ok (.dat (.dict [])) S
  | .dic1 k a, s, S => (evE cf a s S).bind fun x S1 => match x with
    | .dat d => .ok (.dat (.dict [(k, d)])) S1
    | _ => .err
  | .bad, _, _ => .err
def evL (cf : CallF) : List IE → Env → Store → Out (List Val)
  | [], _, S => .ok [] S
  | e :: es, s, S => (evE cf e s S).bind fun v S1 => (evL cf es s S1).bind fun vs S2 => .ok (v :: vs) S2
def evAll (cf : CallF) : List IE → Env → Store → Out Bool
  | [], _, S => .ok true S
  | e :: es, s, S => (evE cf e s S).bind fun v S1 => match v with
    | .dat (.bool true) => evAll cf es s S1
    | .dat (.bool false) => .ok false S1
    | _ => .err
end
def evT (cf : CallF) (e : IE) (s : Env) (S : Store) : Out Bool := (evE cf e s S).bind fun v S1 => opt (datb v) S1

inductive Fl where
  | nx (s : Env)
  | rt (v : Val)
def forL (f : PyData → Env → Store → Out Fl) : List PyData → Env → Store → Out Fl
  | [], s, S => .ok (.nx s) S
  | x :: xs, s, S => (f x s S).bind fun r S1 => match r with
    | .nx s' => forL f xs s' S1
    | .rt v => .ok (.rt v) S1
def whlN (c : Env → Store → Out Bool) (b : Env → Store → Out Fl) : Nat → Env → Store → Out Fl
  | 0, _, _ => .err
  | n + 1, s, S => (c s S).bind fun t S1 => if t = true then (b s S1).bind fun r S2 => match r with
    | .nx s' => whlN c b n s' S2
    | .rt v => .ok (.rt v) S2 else .ok (.nx s) S1
open Classical in
noncomputable def whlC (c : Env → Store → Out Bool) (b : Env → Store → Out Fl) (s : Env) (S : Store) : Out Fl :=
  if h : ∃ n, whlN c b n s S ≠ .err then whlN c b h.choose s S else .err
noncomputable def whl (W : Option Nat) (c : Env → Store → Out Bool) (b : Env → Store → Out Fl) (s : Env) (S : Store) : Out Fl := match W with
  | some n => whlN c b n s S
  | none => whlC c b s S
def putFd (f : Nat) (v : Val) : List (Nat × Val) → List (Nat × Val)
  | [] => [(f, v)]
  | (g, x) :: r => if g = f then (g, v) :: r else (g, x) :: putFd f v r
mutual
def asT (cf : CallF) : Tg → Val → Env → Store → Out Env
  | .nm i, v, s, S => if i < s.length then .ok (s.set i (some v)) S else .err
  | .fld o f, v, s, S => (evE cf o s S).bind fun x S1 => match x with
    | .ref l => match S1[l]? with
      | some (.ins c fs) => if fs.length < 50 then .ok s (S1.set l (.ins c (putFd f v fs))) else .err
      | _ => .err
    | _ => .err
  | .sub o i, v, s, S => (evE cf o s S).bind fun x S1 => (evE cf i s S1).bind fun y S2 => match x, y, v with
    | .ref l, .dat (.int k), .dat p => match S2[l]? with
      | some (.lst xs) => match L2.ixN xs.length k with
        | some j => .ok s (S2.set l (.lst (xs.set j p)))
        | none => .err
      | _ => .err
    | _, _, _ => .err
  | .tp ts, v, s, S => match v with
    | .dat (.tuple xs) => asTs cf ts (xs.map .dat) s S
    | _ => .err
def asTs (cf : CallF) : List Tg → List Val → Env → Store → Out Env
  | [], [], s, S => .ok s S
  | t :: ts, v :: vs, s, S => (asT cf t v s S).bind fun s1 S1 => asTs cf ts vs s1 S1
  | _, _, _, _ => .err
end
mutual
noncomputable def evS (W : Option Nat) (cf : CallF) : IS → Env → Store → Out Fl
  | .asg t e, s, S => (evE cf e s S).bind fun v S1 => (asT cf t v s S1).bind fun s' S2 => .ok (.nx s') S2
  | .par ts es, s, S => (evL cf es s S).bind fun vs S1 => (asTs cf ts vs s S1).bind fun s' S2 => .ok (.nx s') S2
  | .exp e, s, S => (evE cf e s S).bind fun _ S1 => .ok (.nx s) S1
  | .app i e, s, S => match s[i]? with
    | some (some (.ref l)) => match S[l]? with
      | some (.lst _) => (evE cf e s S).bind fun v S1 => match v, S1[l]? with
        | .dat p, some (.lst xs) => if xs.length < sizeLine then .ok (.nx s) (S1.set l (.lst (xs ++ [p]))) else .err
        | _, _ => .err
      | _ => .err
    | _ => .err
  | .ext i e, s, S => match s[i]? with
    | some (some (.ref l)) => match S[l]? with
      | some (.lst _) => (evE cf e s S).bind fun v S1 => match v, S1[l]? with
        | .dat (.list ps), some (.lst xs) => if xs.length + ps.length ≤ sizeLine then .ok (.nx s) (S1.set l (.lst (xs ++ ps))) else .err
        | _, _ => .err
      | _ => .err
    | _ => .err
  | .ite c a b, s, S => (evT cf c s S).bind fun t S1 => if t = true then evSs W cf a s S1 else evSs W cf b s S1
  | .for_ pt it body, s, S => (itO (evE cf it s S)).bind fun xs S1 => forL (fun y s1 S2 => match bindPt pt (.dat y) s1 with
    | some s2 => evSs W cf body s2 S2
    | none => .err) xs s S1
  | .whl c body, s, S => whl W (evT cf c) (evSs W cf body) s S
  | .ret e, s, S => (evE cf e s S).bind fun v S1 => .ok (.rt v) S1
  | .rtn, _, S => .ok (.rt (.dat .none)) S
  | .rse c es, s, S => (evL cf es s S).bind fun vs S1 => match dats vs with
    | some ps => .exc c ps S1
    | none => .err
  | .tri body cs i h, s, S => match evSs W cf body s S with
    | .exc c fs S1 => if c ∈ cs ∧ i < s.length then (evSs W cf h (s.set i (some (.exn c fs))) S1).bind fun r S2 => match r with
      | .nx s' => .ok (.nx (s'.set i none)) S2
      | .rt v => .ok (.rt v) S2 else .exc c fs S1
    | o => o
  | .nop, s, S => .ok (.nx s) S
  | .bad, _, _ => .err
noncomputable def evSs (W : Option Nat) (cf : CallF) : List IS → Env → Store → Out Fl
  | [], s, S => .ok (.nx s) S
  | t :: ts, s, S => (evS W cf t s S).bind fun r S1 => match r with
    | .nx s' => evSs W cf ts s' S1
    | .rt v => .ok (.rt v) S1
end
structure FD where
  n : Nat
  m : Nat
  body : List IS
def below (n : Nat) : Val → Bool
  | .dat _ => true
  | .exn _ _ => true
  | .ref l => decide (l < n)
def Ob.below (n : Nat) : Ob → Bool
  | .ins _ fs => fs.all fun p => IP.below n p.2
  | _ => true
def leave (n : Nat) (v : Val) (S : Store) : Out Val :=
  if S.length = n then .ok v S else if below n v = true ∧ (S.take n).all (·.below n) = true then .ok v (S.take n) else .ok v S
noncomputable def callN (P : List (Option FD)) (W : Option Nat) : Nat → CallF
  | 0 => fun _ _ _ => .err
  | k + 1 => fun f vs S => match P[f]? with
    | some (some d) => if vs.length = d.n then (match evSs W (callN P W k) d.body (vs.map some ++ List.replicate (d.m - d.n) none) S with
      | .ok (.nx _) S' => leave S.length (.dat .none) S'
      | .ok (.rt v) S' => leave S.length v S'
      | .exc c fs S' => .exc c fs S'
      | .err => .err) else .err
    | _ => .err
end IP
namespace IP
open PySem PySem.Spec PyProof.Rows L2

/-! what of the program is known: the written part, the classes' addresses, the fields' names, how an exception lies -/
structure GC where
  K : PySem.W.Frag
  cls : Nat → Addr
  cok : Nat → Prop
  fnm : Nat → Str
  exr : Nat → List PyData → Value → Option Addr → Hp → Prop
  exv : Nat → List PyData → V → Prop

def keyD : Key → PyData
  | .inl i => .int i
  | .inr s => .str s
def WrT (K : PySem.W.Frag) (a : Addr) (xs : List V) : Prop :=
  ∃ (o : Obj) (its : Array Value) (n : Nat), K.lookup a = some o ∧ o.cls = .type "tuple" ∧ o.data = .seq its n ∧ its.size ≤ sizeLine ∧ Vals xs its.toList

mutual
/-- a value that stands for data, all of which is settled -/
inductive Rp (K : PySem.W.Frag) (F : Addr → Prop) (H : Hp) : V → PyData → Prop
  | non : Rp K F H .non .none
  | bl (b : Bool) : Rp K F H (.bl b) (.bool b)
  | int (i : Int) : Rp K F H (.int i) (.int i)
  | str (x : Str) : Rp K F H (.str x) (.str x)
  | lst {a : Addr} {xs : List V} {ds : List PyData} : F a → H a = some (.lst xs) → RpL K F H xs ds → Rp K F H (.ref a) (.list ds)
  | tup {a : Addr} {xs : List V} {ds : List PyData} : F a → H a = some (.tup xs) → RpL K F H xs ds → Rp K F H (.ref a) (.tuple ds)
  | tuw {a : Addr} {xs : List V} {ds : List PyData} : WrT K a xs → RpL K F H xs ds → Rp K F H (.ref a) (.tuple ds)
  | dic {a : Addr} {kvs : List (Key × V)} {ds : List (PyData × PyData)} : F a → H a = some (.dK kvs) → RpD K F H kvs ds → Rp K F H (.ref a) (.dict ds)
  | dit {a : Addr} {kvs : List (List Key × V)} {ds : List (PyData × PyData)} : F a → H a = some (.dT kvs) → RpT K F H kvs ds → Rp K F H (.ref a) (.dict ds)
inductive RpL (K : PySem.W.Frag) (F : Addr → Prop) (H : Hp) : List V → List PyData → Prop
  | nil : RpL K F H [] []
  | cons {v : V} {vs : List V} {d : PyData} {ds : List PyData} : Rp K F H v d → RpL K F H vs ds → RpL K F H (v :: vs) (d :: ds)
inductive RpD (K : PySem.W.Frag) (F : Addr → Prop) (H : Hp) : List (Key × V) → List (PyData × PyData) → Prop
  | nil : RpD K F H [] []
  | cons {k : Key} {v : V} {vs : List (Key × V)} {d : PyData} {ds : List (PyData × PyData)} : Rp K F H v d → RpD K F H vs ds → RpD K F H ((k, v) :: vs) ((keyD k, d) :: ds)
inductive RpT (K : PySem.W.Frag) (F : Addr → Prop) (H : Hp) : List (List Key × V) → List (PyData × PyData) → Prop
  | nil : RpT K F H [] []
  | cons {k : List Key} {v : V} {vs : List (List Key × V)} {d : PyData} {ds : List (PyData × PyData)} : Rp K F H v d → RpT K F H vs ds → RpT K F H ((k, v) :: vs) ((.tuple (k.map keyD), d) :: ds)
end

section
variable {K : PySem.W.Frag} {F F' : Addr → Prop} {H H' : Hp}
mutual
theorem Rp.mono (hF : ∀ a, F a → F' a) (hk : ∀ a o, F a → H a = some o → H' a = some o) : ∀ {v : V} {p : PyData}, Rp K F H v p → Rp K F' H' v p
  | _, _, .non => .non
  | _, _, .bl b => .bl b
  | _, _, .int i => .int i
  | _, _, .str x => .str x
  | _, _, .lst f e l => .lst (hF _ f) (hk _ _ f e) (RpL.mono hF hk l)
  | _, _, .tup f e l => .tup (hF _ f) (hk _ _ f e) (RpL.mono hF hk l)
  | _, _, .tuw f l => .tuw f (RpL.mono hF hk l)
  | _, _, .dic f e l => .dic (hF _ f) (hk _ _ f e) (RpD.mono hF hk l)
  | _, _, .dit f e l => .dit (hF _ f) (hk _ _ f e) (RpT.mono hF hk l)
theorem RpL.mono (hF : ∀ a, F a → F' a) (hk : ∀ a o, F a → H a = some o → H' a = some o) : ∀ {v : List V} {p : List PyData}, RpL K F H v p → RpL K F' H' v p
  | _, _, .nil => .nil
  | _, _, .cons r l => .cons (Rp.mono hF hk r) (RpL.mono hF hk l)
theorem RpD.mono (hF : ∀ a, F a → F' a) (hk : ∀ a o, F a → H a = some o → H' a = some o) : ∀ {v : List (Key × V)} {p : List (PyData × PyData)}, RpD K F H v p → RpD K F' H' v p
  | _, _, .nil => .nil
  | _, _, .cons r l => .cons (Rp.mono hF hk r) (RpD.mono hF hk l)
theorem RpT.mono (hF : ∀ a, F a → F' a) (hk : ∀ a o, F a → H a = some o → H' a = some o) : ∀ {v : List (List Key × V)} {p : List (PyData × PyData)}, RpT K F H v p → RpT K F' H' v p
  | _, _, .nil => .nil
  | _, _, .cons r l => .cons (Rp.mono hF hk r) (RpT.mono hF hk l)
end
theorem RpL.length : ∀ {v : List V} {p : List PyData}, RpL K F H v p → v.length = p.length
  | _, _, .nil => rfl
  | _, _, .cons _ l => by rw [List.length_cons, List.length_cons, RpL.length l]
theorem RpL.get : ∀ {v : List V} {p : List PyData} {i : Nat} {x : PyData}, RpL K F H v p → p[i]? = some x → ∃ w, v[i]? = some w ∧ Rp K F H w x
  | _, _, _, _, .nil, e => by simp at e
  | _, _, 0, _, .cons r _, e => by
    simp at e
    subst e
    exact ⟨_, rfl, r⟩
  | _, _, i + 1, x, .cons _ l, e => by
    obtain ⟨w, h1, h2⟩ := RpL.get (i := i) (x := x) l (by simpa using e)
    exact ⟨w, by simpa using h1, h2⟩
theorem RpL.getV : ∀ {v : List V} {p : List PyData} {i : Nat} {w : V}, RpL K F H v p → v[i]? = some w → ∃ x, p[i]? = some x ∧ Rp K F H w x
  | _, _, _, _, .nil, e => by simp at e
  | _, _, 0, _, .cons r _, e => by
    simp at e
    subst e
    exact ⟨_, rfl, r⟩
  | _, _, i + 1, x, .cons _ l, e => by
    obtain ⟨w, h1, h2⟩ := RpL.getV (i := i) (w := x) l (by simpa using e)
    exact ⟨w, by simpa using h1, h2⟩
theorem RpL.append : ∀ {v w : List V} {p q : List PyData}, RpL K F H v p → RpL K F H w q → RpL K F H (v ++ w) (p ++ q)
  | _, _, _, _, .nil, s => s
  | _, _, _, _, .cons r l, s => .cons r (RpL.append l s)
theorem RpL.take : ∀ {v : List V} {p : List PyData} (n : Nat), RpL K F H v p → RpL K F H (v.take n) (p.take n)
  | _, _, 0, _ => .nil
  | _, _, _ + 1, .nil => .nil
  | _, _, n + 1, .cons r l => .cons r (RpL.take n l)
theorem RpL.drop : ∀ {v : List V} {p : List PyData} (n : Nat), RpL K F H v p → RpL K F H (v.drop n) (p.drop n)
  | _, _, 0, r => r
  | _, _, _ + 1, .nil => .nil
  | _, _, n + 1, .cons _ l => RpL.drop n l
theorem RpL.set {w : V} {x : PyData} (r : Rp K F H w x) : ∀ {v : List V} {p : List PyData} (n : Nat), RpL K F H v p → RpL K F H (v.set n w) (p.set n x)
  | _, _, _, .nil => .nil
  | _, _, 0, .cons _ l => .cons r l
  | _, _, n + 1, .cons q l => .cons q (RpL.set r n l)
theorem RpL.reverse : ∀ {v : List V} {p : List PyData}, RpL K F H v p → RpL K F H v.reverse p.reverse
  | _, _, .nil => .nil
  | _, _, .cons r l => by
    rw [List.reverse_cons, List.reverse_cons]
    exact RpL.append (RpL.reverse l) (.cons r .nil)
theorem RpL.rep {v : List V} {p : List PyData} (r : RpL K F H v p) : ∀ n : Nat, RpL K F H (List.replicate n v).flatten (List.replicate n p).flatten
  | 0 => .nil
  | n + 1 => by
    rw [List.replicate_succ, List.replicate_succ, List.flatten_cons, List.flatten_cons]
    exact RpL.append r (RpL.rep r n)
theorem RpL.ints : ∀ ns : List Int, RpL K F H (ns.map V.int) (ns.map PyData.int)
  | [] => .nil
  | n :: ns => .cons (.int n) (RpL.ints ns)
theorem RpL.of_ints : ∀ {v : List V} {ns : List Int}, RpL K F H v (ns.map PyData.int) → v = ns.map V.int
  | _, [], .nil => rfl
  | _, n :: ns, .cons r l => by
    cases r
    rw [RpL.of_ints l]
    rfl
mutual
/-- as the library's deep data, where no dict is in it -/
theorem Rp.dp : ∀ {p : PyData} {v : V}, Rp K F H v p → p.hasDict = false → Dp K H v p
  | _, _, .non, _ => .non
  | _, _, .bl b, _ => .bl b
  | _, _, .int i, _ => .int i
  | _, _, .str x, _ => .str x
  | .list ds, _, .lst f e l, h => .lst (.inl (.inl e)) (RpL.dp l (by simpa only [PyData.hasDict] using h))
  | .tuple ds, _, .tup f e l, h => .tup (.inl (.inl e)) (RpL.dp l (by simpa only [PyData.hasDict] using h))
  | .tuple ds, _, .tuw f l, h => .tup (.inr f) (RpL.dp l (by simpa only [PyData.hasDict] using h))
  | .dict ds, _, .dic _ _ _, h => by simp [PyData.hasDict] at h
  | .dict ds, _, .dit _ _ _, h => by simp [PyData.hasDict] at h
theorem RpL.dp : ∀ {p : List PyData} {v : List V}, RpL K F H v p → PyData.hasDictAll p = false → DpAll K H v p
  | _, _, .nil, _ => .nil
  | _ :: _, _, .cons r l, h => by
    simp only [PyData.hasDictAll, Bool.or_eq_false_iff] at h
    exact .cons (Rp.dp r h.1) (RpL.dp l h.2)
end
end

/-! values, objects, the store -/
def RV (G : GC) (F : Addr → Prop) (loc : Nat → Addr) (S : Store) (H : Hp) : Val → V → Prop
  | .dat p, w => Rp G.K F H w p
  | .ref l, w => w = .ref (loc l) ∧ l < S.length
  | .exn c fs, w => G.exv c fs w
inductive RVs (G : GC) (F : Addr → Prop) (loc : Nat → Addr) (S : Store) (H : Hp) : List Val → List V → Prop
  | nil : RVs G F loc S H [] []
  | cons {v : Val} {w : V} {vs : List Val} {ws : List V} : RV G F loc S H v w → RVs G F loc S H vs ws → RVs G F loc S H (v :: vs) (w :: ws)
inductive RFs (G : GC) (F : Addr → Prop) (loc : Nat → Addr) (S : Store) (H : Hp) : List (Nat × Val) → List (Str × V) → Prop
  | nil : RFs G F loc S H [] []
  | cons {f : Nat} {v : Val} {w : V} {vs : List (Nat × Val)} {ws : List (Str × V)} : RV G F loc S H v w → RFs G F loc S H vs ws → RFs G F loc S H ((f, v) :: vs) ((G.fnm f, w) :: ws)
def alive : Ob → Bool
  | .dead => false
  | _ => true
def RO (G : GC) (F : Addr → Prop) (loc : Nat → Addr) (S : Store) (H : Hp) (a : Addr) : Ob → Prop
  | .lst ps => ∃ xs, H a = some (.lst xs) ∧ RpL G.K F H xs ps
  | .dic ps => (∃ kvs, H a = some (.dK kvs) ∧ RpD G.K F H kvs ps) ∨ (∃ kvs, H a = some (.dT kvs) ∧ RpT G.K F H kvs ps)
  | .frz ps => ∃ o xs, H a = some (.frz o (.lst xs)) ∧ RpL G.K F H xs ps
  | .ins c fs => G.cok c ∧ ∃ dx ws, H a = some (.ins (G.cls c) dx ws) ∧ RFs G F loc S H fs ws
  | .dead => True
structure SimS (G : GC) (F : Addr → Prop) (loc : Nat → Addr) (S : Store) (H : Hp) : Prop where
  dom : ∀ a, F a → H a ≠ none
  ob : ∀ l o, S[l]? = some o → RO G F loc S H (loc l) o
  inj : ∀ l l' o o', S[l]? = some o → S[l']? = some o' → alive o = true → alive o' = true → loc l = loc l' → l = l'
  sep : ∀ l o, S[l]? = some o → alive o = true → ¬ F (loc l)
structure SimE (G : GC) (F : Addr → Prop) (loc : Nat → Addr) (S : Store) (H : Hp) (s : Env) (t : L2.St) : Prop where
  len : s.length = t.length
  at_ : ∀ (i : Nat) v, s[i]? = some (some v) → ∃ w, t[i]? = some (some w) ∧ RV G F loc S H v w
/-- a later state: what was settled stays, what is no object of the store stays, what is tracked is tracked, what is new in the store is new -/
structure Nxt (G : GC) (F : Addr → Prop) (loc : Nat → Addr) (S : Store) (H : Hp) (F' : Addr → Prop) (loc' : Nat → Addr) (S' : Store) (H' : Hp) : Prop where
  sub : ∀ a, F a → F' a
  keep : ∀ a o, F a → H a = some o → H' a = some o
  kp : ∀ a o, H a = some o → (∀ l u, S[l]? = some u → alive u = true → loc l ≠ a) → H' a = some o
  dom : ∀ a, H' a = none → H a = none
  fin : ∀ a, F' a → F a ∨ H a = none ∨ ∃ l u, S[l]? = some u ∧ alive u = true ∧ loc l = a
  loc : ∀ l, l < S.length → loc' l = loc l
  len : S.length ≤ S'.length
  neu : ∀ l u, S'[l]? = some u → alive u = true → (∃ u0, S[l]? = some u0 ∧ alive u0 = true) ∨ H (loc' l) = none
  sim : SimS G F' loc' S' H'

section
variable {G : GC} {F F1 F2 : Addr → Prop} {loc loc1 loc2 : Nat → Addr} {S S1 S2 : Store} {H H1 H2 : Hp}
theorem Nxt.refl (h : SimS G F loc S H) : Nxt G F loc S H F loc S H :=
  ⟨fun _ h => h, fun _ _ _ h => h, fun _ _ h _ => h, fun _ h => h, fun _ h => .inl h, fun _ _ => rfl, Nat.le_refl _, fun _ u e a => .inl ⟨u, e, a⟩, h⟩
theorem Nxt.trans (a : Nxt G F loc S H F1 loc1 S1 H1) (b : Nxt G F1 loc1 S1 H1 F2 loc2 S2 H2) : Nxt G F loc S H F2 loc2 S2 H2 := by
  refine ⟨fun x h => b.sub x (a.sub x h), fun x o h e => b.keep x o (a.sub x h) (a.keep x o h e), fun x o e n => b.kp x o (a.kp x o e n) fun l u h1 h2 q => ?_, fun x h => a.dom x (b.dom x h), fun x h => ?_,
    fun l h => (b.loc l (Nat.lt_of_lt_of_le h a.len)).trans (a.loc l h), Nat.le_trans a.len b.len, fun l u e al => ?_, b.sim⟩
  · rcases a.neu l u h1 h2 with ⟨u0, h3, h4⟩ | h3
    · exact n l u0 h3 h4 ((a.loc l (List.getElem?_eq_some_iff.mp h3).1).symm.trans q)
    · rw [q, e] at h3
      cases h3
  · rcases b.fin x h with h | h | ⟨l, u, h1, h2, rfl⟩
    · exact a.fin x h
    · exact .inr (.inl (a.dom x h))
    · rcases a.neu l u h1 h2 with ⟨u0, h3, h4⟩ | h3
      · exact .inr (.inr ⟨l, u0, h3, h4, (a.loc l (List.getElem?_eq_some_iff.mp h3).1).symm⟩)
      · exact .inr (.inl h3)
  · rcases b.neu l u e al with ⟨u1, h1, h2⟩ | h1
    · rcases a.neu l u1 h1 h2 with h3 | h3
      · exact .inl h3
      · refine .inr ?_
        rw [b.loc l (List.getElem?_eq_some_iff.mp h1).1]
        exact h3
    · exact .inr (a.dom _ h1)
theorem RV.next (n : Nxt G F loc S H F1 loc1 S1 H1) : ∀ {v : Val} {w : V}, RV G F loc S H v w → RV G F1 loc1 S1 H1 v w
  | .dat p, w, r => Rp.mono n.sub n.keep (show Rp G.K F H w p from r)
  | .ref l, w, ⟨e, h⟩ => ⟨by rw [n.loc l h]; exact e, Nat.lt_of_lt_of_le h n.len⟩
  | .exn c fs, w, r => r
theorem RVs.next (n : Nxt G F loc S H F1 loc1 S1 H1) : ∀ {v : List Val} {w : List V}, RVs G F loc S H v w → RVs G F1 loc1 S1 H1 v w
  | _, _, .nil => .nil
  | _, _, .cons r l => .cons (RV.next n r) (RVs.next n l)
theorem SimE.next (n : Nxt G F loc S H F1 loc1 S1 H1) {s : Env} {t : L2.St} (e : SimE G F loc S H s t) : SimE G F1 loc1 S1 H1 s t :=
  ⟨e.len, fun i v h => let ⟨w, h1, h2⟩ := e.at_ i v h; ⟨w, h1, h2.next n⟩⟩
theorem RVs.length : ∀ {v : List Val} {w : List V}, RVs G F loc S H v w → w.length = v.length
  | _, _, .nil => rfl
  | _, _, .cons _ l => by rw [List.length_cons, List.length_cons, RVs.length l]
end
section
variable {G : GC} {F F' : Addr → Prop} {loc loc' : Nat → Addr} {S S' : Store} {H H' : Hp}
theorem RV.shift (hF : ∀ a, F a → F' a) (hk : ∀ a o, F a → H a = some o → H' a = some o) (hl : ∀ l, l < S.length → loc' l = loc l) (hn : S.length ≤ S'.length) : ∀ {v : Val} {w : V}, RV G F loc S H v w → RV G F' loc' S' H' v w
  | .dat p, w, r => Rp.mono hF hk (show Rp G.K F H w p from r)
  | .ref l, w, ⟨e, h⟩ => ⟨by rw [hl l h]; exact e, Nat.lt_of_lt_of_le h hn⟩
  | .exn c fs, w, r => r
theorem RFs.shift (hF : ∀ a, F a → F' a) (hk : ∀ a o, F a → H a = some o → H' a = some o) (hl : ∀ l, l < S.length → loc' l = loc l) (hn : S.length ≤ S'.length) : ∀ {v : List (Nat × Val)} {w : List (Str × V)}, RFs G F loc S H v w → RFs G F' loc' S' H' v w
  | _, _, .nil => .nil
  | _, _, .cons r l => .cons (RV.shift hF hk hl hn r) (RFs.shift hF hk hl hn l)
theorem RO.shift (hF : ∀ a, F a → F' a) (hk : ∀ a o, F a → H a = some o → H' a = some o) (hl : ∀ l, l < S.length → loc' l = loc l) (hn : S.length ≤ S'.length) {a : Addr} (ha : ∀ o, H a = some o → H' a = some o) {o : Ob} (r : RO G F loc S H a o) : RO G F' loc' S' H' a o := by
  cases o with
  | lst ps =>
    obtain ⟨xs, e1, r1⟩ := r
    exact ⟨xs, ha _ e1, RpL.mono hF hk r1⟩
  | dic ps =>
    rcases r with ⟨xs, e1, r1⟩ | ⟨xs, e1, r1⟩
    · exact .inl ⟨xs, ha _ e1, RpD.mono hF hk r1⟩
    · exact .inr ⟨xs, ha _ e1, RpT.mono hF hk r1⟩
  | frz ps =>
    obtain ⟨o, xs, e1, r1⟩ := r
    exact ⟨o, xs, ha _ e1, RpL.mono hF hk r1⟩
  | ins c fs =>
    obtain ⟨hc, dx, ws, e1, r1⟩ := r
    exact ⟨hc, dx, ws, ha _ e1, RFs.shift hF hk hl hn r1⟩
  | dead => exact True.intro
theorem RO.there {a : Addr} {o : Ob} (r : RO G F loc S H a o) (h : alive o = true) : H a ≠ none := by
  cases o with
  | lst ps => obtain ⟨xs, e1, _⟩ := r; rw [e1]; exact fun z => by cases z
  | dic ps => rcases r with ⟨xs, e1, _⟩ | ⟨xs, e1, _⟩ <;> (rw [e1]; exact fun z => by cases z)
  | frz ps => obtain ⟨o, xs, e1, _⟩ := r; rw [e1]; exact fun z => by cases z
  | ins c fs => obtain ⟨_, dx, ws, e1, _⟩ := r; rw [e1]; exact fun z => by cases z
  | dead => cases h
/-- a new object laid, not settled yet -/
theorem Nxt.lay (h : SimS G F loc S H) {p : Addr} {o : HO} (hp : H p = none) : Nxt G F loc S H F loc S (upd H p o) := by
  have keep : ∀ a u, H a = some u → upd H p o a = some u := fun a u e => by
    rw [upd_ne (ne_of_none e hp)]
    exact e
  have dom : ∀ a, upd H p o a = none → H a = none := fun a e => by
    cases q : H a with
    | none => rfl
    | some x => rw [keep a x q] at e; cases e
  refine ⟨fun _ f => f, fun a o _ e => keep a o e, fun a o e _ => keep a o e, dom, fun _ f => .inl f, fun _ _ => rfl, Nat.le_refl _, fun _ u e a => .inl ⟨u, e, a⟩, ⟨fun a f z => h.dom a f (dom a z), fun m x e => ?_, h.inj, h.sep⟩⟩
  exact RO.shift (fun _ f => f) (fun a o _ e => keep a o e) (fun _ _ => rfl) (Nat.le_refl _) (fun o e => keep _ o e) (h.ob m x e)
/-- what is new since the start and nothing else knows is settled -/
theorem Nxt.keepsF {F1 : Addr → Prop} {loc1 : Nat → Addr} {S1 : Store} {H1 : Hp} (n : Nxt G F loc S H F1 loc1 S1 H1) {a : Addr} (h0 : H a = none) (ha : H1 a ≠ none) (hl : ∀ l o, S1[l]? = some o → alive o = true → loc1 l ≠ a) : Nxt G F loc S H (fun b => F1 b ∨ b = a) loc1 S1 H1 := by
  have h := n.sim
  refine ⟨fun _ f => .inl (n.sub _ f), n.keep, n.kp, n.dom, fun b f => ?_, n.loc, n.len, n.neu, ⟨fun b f => ?_, fun m x e => ?_, h.inj, fun m x e am f => ?_⟩⟩
  · rcases f with f | f
    · exact n.fin b f
    · rw [f]; exact .inr (.inl h0)
  · rcases f with f | f
    · exact h.dom b f
    · rw [f]; exact ha
  · exact RO.shift (fun _ f => .inl f) (fun _ _ _ e => e) (fun _ _ => rfl) (Nat.le_refl _) (fun _ e => e) (h.ob m x e)
  · rcases f with f | f
    · exact h.sep m x e am f
    · exact hl m x e am f
/-- what is new since the start and nothing else knows is changed -/
theorem Nxt.priv {F1 : Addr → Prop} {loc1 : Nat → Addr} {S1 : Store} {H1 : Hp} (n : Nxt G F loc S H F1 loc1 S1 H1) {a : Addr} {o : HO} (h0 : H a = none) (hF : ¬ F1 a) (hl : ∀ l o, S1[l]? = some o → alive o = true → loc1 l ≠ a) : Nxt G F loc S H F1 loc1 S1 (upd H1 a o) := by
  have h := n.sim
  have k1 : ∀ b u, F1 b → H1 b = some u → upd H1 a o b = some u := fun b u f e => by
    rw [upd_ne (fun z => hF (by rw [← z]; exact f))]
    exact e
  have dom : ∀ b, upd H1 a o b = none → H1 b = none := fun b e => by
    by_cases q : b = a
    · rw [q, upd_same] at e; cases e
    · rw [upd_ne q] at e; exact e
  refine ⟨n.sub, fun b u f e => k1 b u (n.sub b f) (n.keep b u f e), fun b u e nl => ?_, fun b e => n.dom b (dom b e), n.fin, n.loc, n.len, n.neu, ⟨fun b f e => h.dom b f (dom b e), fun m x e => ?_, h.inj, h.sep⟩⟩
  · rw [upd_ne (ne_of_none e h0)]
    exact n.kp b u e nl
  · cases q : alive x with
    | false => cases x <;> first | exact True.intro | cases q
    | true =>
      refine RO.shift (fun _ f => f) k1 (fun _ _ => rfl) (Nat.le_refl _) (fun u e' => ?_) (h.ob m x e)
      rw [upd_ne (hl m x e q)]
      exact e'
/-- what is tracked and no object of the store stays apart from it -/
theorem Nxt.apart {F1 : Addr → Prop} {loc1 : Nat → Addr} {S1 : Store} {H1 : Hp} (n : Nxt G F loc S H F1 loc1 S1 H1) {a : Addr} {o : HO} (e : H a = some o) (hF : ¬ F a) (hl : ∀ l o, S[l]? = some o → alive o = true → loc l ≠ a) :
    H1 a = some o ∧ ¬ F1 a ∧ ∀ l o, S1[l]? = some o → alive o = true → loc1 l ≠ a := by
  refine ⟨n.kp a o e hl, fun f => ?_, fun l u h1 h2 q => ?_⟩
  · rcases n.fin a f with f | f | ⟨l, u, h1, h2, h3⟩
    · exact hF f
    · rw [e] at f; cases f
    · exact hl l u h1 h2 h3
  · rcases n.neu l u h1 h2 with ⟨u0, h3, h4⟩ | h3
    · exact hl l u0 h3 h4 ((n.loc l (List.getElem?_eq_some_iff.mp h3).1).symm.trans q)
    · rw [q, e] at h3; cases h3
/-- a new settled object -/
theorem Nxt.new (h : SimS G F loc S H) {p : Addr} {o : HO} (hp : H p = none) : Nxt G F loc S H (fun a => F a ∨ a = p) loc S (upd H p o) := by
  have n := Nxt.lay (o := o) h hp
  exact Nxt.keepsF n hp (by rw [upd_same]; exact fun z => by cases z) fun l u e al q => (h.ob l u e).there al (by rw [q]; exact hp)
end
/-! ### the readings -/
def Post {A : Type} {B : Type} (G : GC) (R : (Addr → Prop) → (Nat → Addr) → Store → Hp → A → B → Prop) (W : WX) (t : L2.St) (F : Addr → Prop) (loc : Nat → Addr) (S : Store) (H : Hp) (o : Out A) (Q : B → Hp → Prop) : Prop := match o with
  | .ok v S' => ∀ w F' loc' H', Nxt G F loc S H F' loc' S' H' → R F' loc' S' H' v w → Q w H'
  | .exc c fs S' => ∀ cv d F' loc' H', Nxt G F loc S H F' loc' S' H' → G.exr c fs cv d H' → W cv d t H'
  | .err => False
abbrev PostV (G : GC) := Post (A := Val) (B := V) G (fun F loc S H v w => RV G F loc S H v w)
abbrev PostL (G : GC) := Post (A := List Val) (B := List V) G (fun F loc S H v w => RVs G F loc S H v w)
abbrev PostB (G : GC) := Post (A := Bool) (B := Bool) G (fun _ _ _ _ v w => v = w)
def rdE (G : GC) (W : WX) (cf : CallF) (e : IE) : TE := fun t H Q => ∃ F loc s S, SimS G F loc S H ∧ SimE G F loc S H s t ∧ PostV G W t F loc S H (evE cf e s S) Q
def rdL (G : GC) (W : WX) (cf : CallF) (es : List IE) : TA := fun t H Q => ∃ F loc s S, SimS G F loc S H ∧ SimE G F loc S H s t ∧ PostL G W t F loc S H (evL cf es s S) Q
def rdT (G : GC) (W : WX) (cf : CallF) (e : IE) : TT := fun t H Q => ∃ F loc s S, SimS G F loc S H ∧ SimE G F loc S H s t ∧ PostB G W t F loc S H (evT cf e s S) Q
section
variable {A B C D : Type} {G : GC} {R : (Addr → Prop) → (Nat → Addr) → Store → Hp → A → B → Prop} {R' : (Addr → Prop) → (Nat → Addr) → Store → Hp → C → D → Prop} {W : WX} {t : L2.St} {F F1 : Addr → Prop} {loc loc1 : Nat → Addr} {S S1 : Store} {H H1 : Hp}
theorem Post.step {o : Out A} {Q : B → Hp → Prop} (n : Nxt G F loc S H F1 loc1 S1 H1) (p : Post G R W t F loc S H o Q) : Post G R W t F1 loc1 S1 H1 o Q := by
  cases o with
  | ok v S' => exact fun w F' loc' H' m r => p w F' loc' H' (n.trans m) r
  | exc c fs S' => exact fun cv d F' loc' H' m r => p cv d F' loc' H' (n.trans m) r
  | err => exact p
theorem Post.bind {o : Out A} {f : A → Store → Out C} {Q : D → Hp → Prop} {Q1 : B → Hp → Prop} (p : Post G R' W t F loc S H (o.bind f) Q)
    (k : ∀ v S1 w F1 loc1 H1, Nxt G F loc S H F1 loc1 S1 H1 → R F1 loc1 S1 H1 v w → Post G R' W t F1 loc1 S1 H1 (f v S1) Q → Q1 w H1) : Post G R W t F loc S H o Q1 := by
  cases o with
  | ok v S' => exact fun w F' loc' H' m r => k v S' w F' loc' H' m r (Post.step m p)
  | exc c fs S' => exact p
  | err => exact p
theorem Post.weak {o : Out A} {Q Q1 : B → Hp → Prop} (p : Post G R W t F loc S H o Q) (k : ∀ w H1, Q w H1 → Q1 w H1) : Post G R W t F loc S H o Q1 := by
  cases o with
  | ok v S' => exact fun w F' loc' H' m r => k _ _ (p w F' loc' H' m r)
  | exc c fs S' => exact p
  | err => exact p
end
section
variable {X : Cx} {e : Expr} {es : List Expr}
theorem PEmon {t t' : TE} (h : PE X e t) (m : ∀ s H Q, t' s H Q → t s H Q) : PE X e t' := ⟨fun pins s σ H Q I q => h.run pins s σ H Q I (m _ _ _ q)⟩
theorem PTmon {t t' : TT} (h : PT X e t) (m : ∀ s H Q, t' s H Q → t s H Q) : PT X e t' := ⟨fun pins s σ H Q I q => h.run pins s σ H Q I (m _ _ _ q)⟩
theorem PWmon {t t' : TT} (h : PW X e t) (m : ∀ s H Q, t' s H Q → t s H Q) : PW X e t' := ⟨fun wh pins s σ H Q I q => h.run wh pins s σ H Q I (m _ _ _ q)⟩
theorem PAmon {t t' : TA} (h : PA X es t) (m : ∀ s H Q, t' s H Q → t s H Q) : PA X es t' := ⟨fun pos pins s σ H Q I q => h.run pos pins s σ H Q I (m _ _ _ q)⟩
end
end IP
namespace IP
open PySem PySem.Spec PyProof.Rows L2

section
variable {G : GC} {F : Addr → Prop} {loc : Nat → Addr} {S : Store} {H : Hp} {x : Val} {w : V}
theorem look_ref {l : Nat} {p : PyData} (e : lookF S (.ref l) = some p) : (∃ xs, S[l]? = some (.lst xs) ∧ p = .list xs) ∨ (∃ xs, S[l]? = some (.dic xs) ∧ p = .dict xs) ∨ (∃ xs, S[l]? = some (.frz xs) ∧ p = .list xs) := by
  simp only [lookF] at e
  cases h : S[l]? with
  | none => rw [h] at e; cases e
  | some o =>
    rw [h] at e
    cases o with
    | lst xs => cases e; exact .inl ⟨_, rfl, rfl⟩
    | dic xs => cases e; exact .inr (.inl ⟨_, rfl, rfl⟩)
    | frz xs => cases e; exact .inr (.inr ⟨_, rfl, rfl⟩)
    | ins c fs => cases e
    | dead => cases e
theorem look_F {p : PyData} (e : look S x = some p) : lookF S x = some p := by
  cases x with
  | dat q => exact e
  | exn c fs => cases e
  | ref l =>
    simp only [look] at e
    simp only [lookF]
    cases h : S[l]? with
    | none => rw [h] at e; cases e
    | some o =>
      rw [h] at e
      cases o with
      | lst xs => exact e
      | dic xs => exact e
      | frz xs => cases e
      | ins c fs => cases e
      | dead => cases e
theorem look_lst {ps : List PyData} (h : SimS G F loc S H) (r : RV G F loc S H x w) (e : look S x = some (.list ps)) : ∃ a xs, w = .ref a ∧ H a = some (.lst xs) ∧ RpL G.K F H xs ps := by
  cases x with
  | dat p =>
    cases e
    have r : Rp G.K F H w (.list ps) := r
    cases r with
    | lst f e l => exact ⟨_, _, rfl, e, l⟩
  | ref l =>
    obtain ⟨rfl, hl⟩ := r
    simp only [look] at e
    cases q : S[l]? with
    | none => rw [q] at e; cases e
    | some o =>
      rw [q] at e
      cases o with
      | lst xs =>
        cases e
        obtain ⟨vs, h3, h4⟩ := h.ob l _ q
        exact ⟨_, vs, rfl, h3, h4⟩
      | dic xs => cases e
      | frz xs => cases e
      | ins c fs => cases e
      | dead => cases e
  | exn c fs => cases e
theorem look_list {ps : List PyData} (h : SimS G F loc S H) (r : RV G F loc S H x w) (e : lookF S x = some (.list ps)) : ∃ a xs, w = .ref a ∧ Rd H a (.lst xs) ∧ RpL G.K F H xs ps := by
  cases x with
  | dat p =>
    cases e
    have r : Rp G.K F H w (.list ps) := r
    cases r with
    | lst f e l => exact ⟨_, _, rfl, .inl e, l⟩
  | ref l =>
    obtain ⟨rfl, hl⟩ := r
    rcases look_ref e with ⟨xs, h1, h2⟩ | ⟨xs, h1, h2⟩ | ⟨xs, h1, h2⟩
    · cases h2
      obtain ⟨vs, h3, h4⟩ := h.ob l _ h1
      exact ⟨_, vs, rfl, .inl h3, h4⟩
    · cases h2
    · cases h2
      obtain ⟨o, vs, h3, h4⟩ := h.ob l _ h1
      exact ⟨_, vs, rfl, .inr ⟨o, h3⟩, h4⟩
  | exn c fs => cases e
theorem look_tup {ps : List PyData} (h : SimS G F loc S H) (r : RV G F loc S H x w) (e : lookF S x = some (.tuple ps)) : ∃ a xs, w = .ref a ∧ SqT G.K H a xs ∧ RpL G.K F H xs ps := by
  cases x with
  | dat p =>
    cases e
    have r : Rp G.K F H w (.tuple ps) := r
    cases r with
    | tup f e l => exact ⟨_, _, rfl, .inl (.inl e), l⟩
    | tuw f l => exact ⟨_, _, rfl, .inr f, l⟩
  | ref l => rcases look_ref e with ⟨xs, h1, h2⟩ | ⟨xs, h1, h2⟩ | ⟨xs, h1, h2⟩ <;> cases h2
  | exn c fs => cases e
theorem look_int {i : Int} (r : RV G F loc S H x w) (e : lookF S x = some (.int i)) : w = .int i := by
  cases x with
  | dat p =>
    cases e
    have r : Rp G.K F H w (.int i) := r
    cases r
    rfl
  | ref l => rcases look_ref e with ⟨xs, h1, h2⟩ | ⟨xs, h1, h2⟩ | ⟨xs, h1, h2⟩ <;> cases h2
  | exn c fs => cases e
theorem look_bool {i : Bool} (r : RV G F loc S H x w) (e : lookF S x = some (.bool i)) : w = .bl i := by
  cases x with
  | dat p =>
    cases e
    have r : Rp G.K F H w (.bool i) := r
    cases r
    rfl
  | ref l => rcases look_ref e with ⟨xs, h1, h2⟩ | ⟨xs, h1, h2⟩ | ⟨xs, h1, h2⟩ <;> cases h2
  | exn c fs => cases e
theorem look_str {i : Str} (r : RV G F loc S H x w) (e : lookF S x = some (.str i)) : w = .str i := by
  cases x with
  | dat p =>
    cases e
    have r : Rp G.K F H w (.str i) := r
    cases r
    rfl
  | ref l => rcases look_ref e with ⟨xs, h1, h2⟩ | ⟨xs, h1, h2⟩ | ⟨xs, h1, h2⟩ <;> cases h2
  | exn c fs => cases e
theorem look_none (r : RV G F loc S H x w) (e : lookF S x = some .none) : w = .non := by
  cases x with
  | dat p =>
    cases e
    have r : Rp G.K F H w .none := r
    cases r
    rfl
  | ref l => rcases look_ref e with ⟨xs, h1, h2⟩ | ⟨xs, h1, h2⟩ | ⟨xs, h1, h2⟩ <;> cases h2
  | exn c fs => cases e
/-- deep data of what is looked at -/
theorem look_dp {p : PyData} (h : SimS G F loc S H) (r : RV G F loc S H x w) (e : lookF S x = some p) (hd : p.hasDict = false) : Dp G.K H w p := by
  cases x with
  | dat q =>
    cases e
    exact Rp.dp (show Rp G.K F H w p from r) hd
  | ref l =>
    obtain ⟨rfl, hl⟩ := r
    rcases look_ref e with ⟨xs, h1, h2⟩ | ⟨xs, h1, h2⟩ | ⟨xs, h1, h2⟩
    · subst h2
      obtain ⟨vs, h3, h4⟩ := h.ob l _ h1
      exact .lst (.inl (.inl h3)) (RpL.dp h4 (by simpa only [PyData.hasDict] using hd))
    · subst h2
      simp [PyData.hasDict] at hd
    · subst h2
      obtain ⟨o, vs, h3, h4⟩ := h.ob l _ h1
      exact .lst (.inl (.inr ⟨o, h3⟩)) (RpL.dp h4 (by simpa only [PyData.hasDict] using hd))
  | exn c fs => cases e
theorem hasDict_shaped {p : PyData} (h : SeqAt.shaped p = true) : p.hasDict = false := PyData.hasDict_of_canLay p (SeqAt.canLay_of_shaped h)
theorem dats_rp : ∀ {vs : List Val} {ws : List V} {ps : List PyData}, RVs G F loc S H vs ws → dats vs = some ps → RpL G.K F H ws ps
  | _, _, _, .nil, e => by
    cases e
    exact .nil
  | .dat p :: vs, _, ps, .cons (w := w) r l, e => by
    unfold dats at e
    cases q : dats vs with
    | none => rw [q] at e; cases e
    | some qs =>
      rw [q] at e
      cases e
      exact .cons (show Rp G.K F H w p from r) (dats_rp l q)
  | .ref _ :: _, _, _, .cons _ _, e => by cases e
  | .exn _ _ :: _, _, _, .cons _ _, e => by cases e
end

/-! ### operators on values -/
section
variable {X : Cx}
theorem rd_get {pins : List (Addr × Obj)} {s : Shared} {t : L2.St} {H : Hp} {a : Addr} {xs : List V} (I : Inv X pins t H s) (h : Rd H a (.lst xs)) : xs.length ≤ sizeLine ∧ ∃ (its : List Value) (n : Nat), Vals xs its ∧ xs.length = its.length ∧ s.heap.get? a = some { cls := .type "list", data := .seq its.toArray n } := by
  obtain ⟨z, its, n, r, e⟩ := h.ok I.hok
  exact ⟨z, its, n, r, r.length, e⟩
def rCatR : R2 := fun x y H Q => ∃ l b xs zs, x = .ref l ∧ y = .ref b ∧ Rd H l (.lst xs) ∧ Rd H b (.lst zs) ∧ xs.length + zs.length ≤ sizeLine ∧ ∀ p, H p = none → Q (.ref p) (upd H p (.lst (xs ++ zs)))
theorem op_catR : OpR X (binaryOp .Add) rCatR := by
  intro pins s σ H x y v u Q I rx ry h
  obtain ⟨l, b, xs, zs, rfl, rfl, hH, hB, hz, q⟩ := h
  cases rx
  cases ry
  obtain ⟨z, its, n, r, hl, e⟩ := rd_get I hH
  obtain ⟨z2, its2, n2, r2, hl2, e2⟩ := rd_get I hB
  refine PySem.P.add_list e e2 ?_ (by rw [List.size_toArray, List.size_toArray]; omega)
  have ea : its.toArray ++ its2.toArray = (its ++ its2).toArray := by simp
  rw [ea]
  exact ⟨.ref _, _, I.lnew (t' := s.toks) (r.append r2) (by rw [List.length_append]; omega), rfl, q _ I.fresh⟩
theorem op_fdvG : OpR X (binaryOp .FloorDiv) (rI (fun _ j => j ≠ 0 ∧ j.natAbs.log2 < 9000) fun i j => .int (i.fdiv j)) := opI fun i j _ _ _ _ _ hc q =>
  floordiv_int hc.1 q (.inl (PyProof.noPylong_of_log2 hc.2))

/-- what an operator does, by data: the new value is a list or a tuple at a new place, or a flat one, or one of both -/
def rDat (K : PySem.W.Frag) (lk : Store → Val → Option PyData) (f : PyData → PyData → Option PyData) : R2 := fun x y H Q => ∃ G F loc S a b p q r, G.K = K ∧ SimS G F loc S H ∧ RV G F loc S H a x ∧ RV G F loc S H b y ∧ lk S a = some p ∧ lk S b = some q ∧ f p q = some r ∧
  ∀ w F' loc' H', Nxt G F loc S H F' loc' S H' → Rp G.K F' H' w r → Q w H'
end
section
variable {K : PySem.W.Frag} {G : GC} {F : Addr → Prop} {loc : Nat → Addr} {S : Store} {H : Hp}
theorem new_lst {Q : V → Hp → Prop} {ps : List PyData} {xs : List V} (h : SimS G F loc S H) (r : RpL G.K F H xs ps) (k : ∀ w F' loc' H', Nxt G F loc S H F' loc' S H' → Rp G.K F' H' w (.list ps) → Q w H') {p : Addr} (hp : H p = none) : Q (.ref p) (upd H p (.lst xs)) := by
  have n := Nxt.new (o := .lst xs) h hp
  exact k _ _ _ _ n (.lst (.inr rfl) upd_same (RpL.mono n.sub n.keep r))
theorem new_tup {Q : V → Hp → Prop} {ps : List PyData} {xs : List V} (h : SimS G F loc S H) (r : RpL G.K F H xs ps) (k : ∀ w F' loc' H', Nxt G F loc S H F' loc' S H' → Rp G.K F' H' w (.tuple ps) → Q w H') {p : Addr} (hp : H p = none) : Q (.ref p) (upd H p (.tup xs)) := by
  have n := Nxt.new (o := .tup xs) h hp
  exact k _ _ _ _ n (.tup (.inr rfl) upd_same (RpL.mono n.sub n.keep r))
theorem look_tupR {x : Val} {w : V} {ps : List PyData} (h : SimS G F loc S H) (r : RV G F loc S H x w) (e : lookF S x = some (.tuple ps)) : Rp G.K F H w (.tuple ps) := by
  cases x with
  | dat p => cases e; exact r
  | ref l => rcases look_ref e with ⟨xs, h1, h2⟩ | ⟨xs, h1, h2⟩ | ⟨xs, h1, h2⟩ <;> cases h2
  | exn c fs => cases e
end
section
variable {X : Cx}
theorem rI_of {C : Int → Int → Prop} {f : Int → Int → V} {i j : Int} {H : Hp} {Q : VK} (h : C i j) (q : Q (f i j) H) : rI C f (.int i) (.int j) H Q := ⟨i, j, rfl, rfl, h, q⟩
/-- the six operators -/
theorem op_add_d : OpR X (binaryOp .Add) (rDat X.K (lookO .add) (binP .add)) := by
  intro pins s σ H x y v u Q I rx ry h
  have base := OpR.or (OpR.or (op_add (X := X)) op_add_str) (OpR.or op_catR op_catA)
  refine base pins s σ H x y v u Q I rx ry ?_
  obtain ⟨G, F, loc, S, a, b, p, q, r, hK, hS, ra, rb, la, lb, e, k⟩ := h
  cases p with
  | int i =>
    cases q with
    | int j =>
      cases e
      rw [look_int ra la, look_int rb lb]
      exact .inl (.inl ⟨i, j, rfl, rfl, k _ _ _ _ (.refl hS) (.int _)⟩)
    | _ => cases e
  | str i =>
    cases q with
    | str j =>
      simp only [binP] at e
      split at e
      · rename_i hl
        cases e
        rw [look_str ra la, look_str rb lb]
        exact .inl (.inr ⟨i, j, rfl, rfl, hl, k _ _ _ _ (.refl hS) (.str _)⟩)
      · cases e
    | _ => cases e
  | list ps =>
    cases q with
    | list qs =>
      simp only [binP] at e
      split at e
      · rename_i hl
        cases e
        obtain ⟨l, xs, rfl, h1, h2⟩ := look_list hS ra la
        obtain ⟨m, ys, rfl, h3, h4⟩ := look_list hS rb lb
        refine .inr (.inl ⟨l, m, xs, ys, rfl, rfl, h1, h3, by rw [h2.length, h4.length]; exact hl, fun p hp => ?_⟩)
        exact new_lst hS (h2.append h4) k hp
      · cases e
    | int j => simp only [binP] at e; cases e
    | _ => cases e
  | tuple ps =>
    cases q with
    | tuple qs =>
      simp only [binP] at e
      split at e
      · rename_i hl
        cases e
        have t1 := look_tupR hS ra la
        have t2 := look_tupR hS rb lb
        obtain ⟨l, xs, rfl, h1, h2⟩ := look_tup hS ra la
        obtain ⟨m, ys, rfl, h3, h4⟩ := look_tup hS rb lb
        refine .inr (.inr ⟨l, m, xs, ys, rfl, rfl, hK ▸ h1, hK ▸ h3, by rw [h2.length, h4.length]; exact hl, fun e => ?_, fun _ e => ?_, fun _ _ p hp => ?_⟩)
        · subst e
          cases h2
          exact k _ _ _ _ (.refl hS) t2
        · subst e
          cases h4
          rw [List.append_nil] at k
          exact k _ _ _ _ (.refl hS) t1
        · exact new_tup hS (h2.append h4) k hp
      · cases e
    | int j => simp only [binP] at e; cases e
    | _ => cases e
  | _ => cases q <;> cases e
theorem int_only {op : BK} {p q r : PyData} (h1 : op ≠ .add) (h2 : op ≠ .mul) (e : binP op p q = some r) : ∃ i j, p = .int i ∧ q = .int j := by
  cases p <;> cases q <;> first
    | exact ⟨_, _, rfl, rfl⟩
    | (cases op <;> first | exact absurd rfl h1 | exact absurd rfl h2 | cases e)
theorem op_sub_d : OpR X (binaryOp .Sub) (rDat X.K (lookO .sub) (binP .sub)) := by
  intro pins s σ H x y v u Q I rx ry h
  refine op_sub pins s σ H x y v u Q I rx ry ?_
  obtain ⟨G, F, loc, S, a, b, p, q, r, hK, hS, ra, rb, la, lb, e, k⟩ := h
  obtain ⟨i, j, rfl, rfl⟩ := int_only (by decide) (by decide) e
  cases e
  rw [look_int ra la, look_int rb lb]
  exact ⟨i, j, rfl, rfl, k _ _ _ _ (.refl hS) (.int _)⟩
theorem op_fdv_d : OpR X (binaryOp .FloorDiv) (rDat X.K (lookO .fdv) (binP .fdv)) := by
  intro pins s σ H x y v u Q I rx ry h
  refine op_fdvG pins s σ H x y v u Q I rx ry ?_
  obtain ⟨G, F, loc, S, a, b, p, q, r, hK, hS, ra, rb, la, lb, e, k⟩ := h
  obtain ⟨i, j, rfl, rfl⟩ := int_only (by decide) (by decide) e
  simp only [binP] at e
  split at e
  · rename_i hd
    cases e
    unfold divOk at hd
    rw [Bool.and_eq_true] at hd
    rw [look_int ra la, look_int rb lb]
    exact ⟨i, j, rfl, rfl, ⟨of_decide_eq_true hd.1, of_decide_eq_true hd.2⟩, k _ _ _ _ (.refl hS) (.int _)⟩
  · cases e
theorem op_mod_d : OpR X (binaryOp .Mod) (rDat X.K (lookO .mod) (binP .mod)) := by
  intro pins s σ H x y v u Q I rx ry h
  refine op_modN pins s σ H x y v u Q I rx ry ?_
  obtain ⟨G, F, loc, S, a, b, p, q, r, hK, hS, ra, rb, la, lb, e, k⟩ := h
  obtain ⟨i, j, rfl, rfl⟩ := int_only (by decide) (by decide) e
  simp only [binP] at e
  split at e
  · rename_i hd
    cases e
    rw [look_int ra la, look_int rb lb]
    exact ⟨i, j, rfl, rfl, hd, k _ _ _ _ (.refl hS) (.int _)⟩
  · cases e
theorem op_pow_d : OpR X (binaryOp .Pow) (rDat X.K (lookO .pow) (binP .pow)) := by
  intro pins s σ H x y v u Q I rx ry h
  refine op_pow pins s σ H x y v u Q I rx ry ?_
  obtain ⟨G, F, loc, S, a, b, p, q, r, hK, hS, ra, rb, la, lb, e, k⟩ := h
  obtain ⟨i, j, rfl, rfl⟩ := int_only (by decide) (by decide) e
  simp only [binP] at e
  split at e
  · rename_i hd
    cases e
    rw [look_int ra la, look_int rb lb]
    exact ⟨i, j, rfl, rfl, hd, k _ _ _ _ (.refl hS) (.int _)⟩
  · cases e
/-! a tuple so often, where it is the same one, or none -/
theorem mul_same (l : Addr) (its : Array Value) (n : Nat) (dd : Option Addr) (sl : Array (Option Value)) (k : Int) (u : Tok) (c0 : (decide (k < -(2 ^ 63)) || decide (k ≥ 2 ^ 63)) = false) (c1 : (its.isEmpty || k == 1) = true) :
    Meets (Builtin.«tuple.__mul__» ⟨[.ref l, .int k u], []⟩) (fun _ R s => s.heap.get? l = some { cls := .type "tuple", dict := dd, data := .seq its n, slots := sl } ∧ R (.ok (.ret (.ref l))) s) :=
  .of_wp fun prog w A R s h => by
    obtain ⟨hp, gs, d, tk, os⟩ := s
    obtain ⟨hl, h⟩ := h
    have f1 := AutoSeq1.idx_int
    wp_walk using AutoSeq1.wpAny_loadPart' hl
    repeat (first
      | (refine wpAny_ite_false (decide_eq_false (by rw [c0]; exact Bool.false_ne_true)) ?_; wp_walk using AutoSeq1.wpAny_loadPart' hl)
      | (refine wpAny_ite_true (decide_eq_true c1) ?_; wp_walk using AutoSeq1.wpAny_loadPart' hl))
    exact ⟨_, rfl, h⟩
theorem mul_none (l : Addr) (its : Array Value) (n : Nat) (dd : Option Addr) (sl : Array (Option Value)) (k : Int) (u : Tok) (c0 : (decide (k < -(2 ^ 63)) || decide (k ≥ 2 ^ 63)) = false) (c1 : (its.isEmpty || k == 1) = false) (c2 : (decide (k ≤ 0) || its.isEmpty) = true) :
    Meets (Builtin.«tuple.__mul__» ⟨[.ref l, .int k u], []⟩) (fun _ R s => s.heap.get? l = some { cls := .type "tuple", dict := dd, data := .seq its n, slots := sl } ∧
      R (.ok (.ret (.ref s.heap.objs.size))) { s with heap := s.heap.push { cls := .type "tuple", data := .seq #[] }, toks := s.toks }) :=
  .of_wp fun prog w A R s h => by
    obtain ⟨hp, gs, d, tk, os⟩ := s
    obtain ⟨hl, h⟩ := h
    have f1 := AutoSeq1.idx_int
    wp_walk using AutoSeq1.wpAny_loadPart' hl
    repeat (first
      | (refine wpAny_ite_false (decide_eq_false (by rw [c0]; exact Bool.false_ne_true)) ?_; wp_walk using AutoSeq1.wpAny_loadPart' hl)
      | (refine wpAny_ite_false (decide_eq_false (by rw [c1]; exact Bool.false_ne_true)) ?_; wp_walk using AutoSeq1.wpAny_loadPart' hl)
      | (refine wpAny_ite_true (decide_eq_true c2) ?_; wp_walk using AutoSeq1.wpAny_loadPart' hl))
    exact ⟨_, rfl, h⟩
def rRep1 (K : PySem.W.Frag) : R2 := fun x y H Q => ∃ l k xs, x = .ref l ∧ y = .int k ∧ SqT K H l xs ∧ -1000 ≤ k ∧ k ≤ 1000 ∧ (xs = [] ∨ k = 1) ∧ Q (.ref l) H
def rRep0 (K : PySem.W.Frag) : R2 := fun x y H Q => ∃ l k xs, x = .ref l ∧ y = .int k ∧ SqT K H l xs ∧ xs ≠ [] ∧ -1000 ≤ k ∧ k ≤ 0 ∧ ∀ p, H p = none → Q (.ref p) (upd H p (.tup []))
theorem op_rep1 : OpR X (binaryOp .Mult) (rRep1 X.K) := by
  intro pins s σ H x y v u Q I rx ry h
  obtain ⟨l, k, xs, rfl, rfl, hT, h1, h2, h3, q⟩ := h
  cases rx
  obtain ⟨t, rfl⟩ := ry
  obtain ⟨its, r, ⟨⟨cls, dd, data, sl⟩, ho, hc, n, hd⟩, hs⟩ := I.tuple hT
  simp only at hc hd
  subst hc hd
  have hle : its.length = xs.length := r.length.symm
  have c0 : (decide (k < -(2 ^ 63)) || decide (k ≥ 2 ^ 63)) = false := by
    rw [decide_eq_false (by omega), decide_eq_false (by omega)] <;> rfl
  have c1 : (its.toArray.isEmpty || k == 1) = true := by
    rcases h3 with h3 | h3
    · subst h3
      rw [List.eq_nil_of_length_eq_zero hle]
      rfl
    · subst h3
      simp
  refine wpAny_binaryOp_repeat_ref (T := "tuple") (U := "int") (by decide) ⟨_, ho, rfl⟩ (fun s' => typeIs_int s' k t) noFill_tuple_mul F.fills_int_mul F.slot_int_rmul repeat_tuple F.slot_int_index.lookup ?_
  refine call_meets F.slot_int_rmul (typeIs_int s k t) F.entry_int_rmul (F.args_int_rmul_2 _ _) (int_rmul_tuple k t l its.toArray n dd sl) ⟨ho, rfl, ⟨_, ho, rfl⟩, ?_⟩
  refine call_meets F.slot_tuple_mul ⟨_, ho, rfl⟩ F.entry_tuple_mul (F.args_tuple_mul_2 _ _) (mul_same l its.toArray n dd sl k t c0 c1) ⟨ho, ?_⟩
  exact ⟨.ref l, _, I, rfl, q⟩
theorem op_rep0 : OpR X (binaryOp .Mult) (rRep0 X.K) := by
  intro pins s σ H x y v u Q I rx ry h
  obtain ⟨l, k, xs, rfl, rfl, hT, hne, h1, h2, q⟩ := h
  cases rx
  obtain ⟨t, rfl⟩ := ry
  obtain ⟨its, r, ⟨⟨cls, dd, data, sl⟩, ho, hc, n, hd⟩, hs⟩ := I.tuple hT
  simp only at hc hd
  subst hc hd
  have hle : its.length = xs.length := r.length.symm
  have hn : its ≠ [] := fun e => hne (by
    rw [e] at hle
    exact List.eq_nil_of_length_eq_zero hle.symm)
  have hi : its.toArray.isEmpty = false := by
    cases its with
    | nil => exact absurd rfl hn
    | cons a b => rfl
  have c0 : (decide (k < -(2 ^ 63)) || decide (k ≥ 2 ^ 63)) = false := by
    rw [decide_eq_false (by omega), decide_eq_false (by omega)] <;> rfl
  have c1 : (its.toArray.isEmpty || k == 1) = false := by
    rw [hi, Bool.false_or]
    exact beq_eq_false_iff_ne.mpr (by omega)
  have c2 : (decide (k ≤ 0) || its.toArray.isEmpty) = true := by
    rw [decide_eq_true h2]
    rfl
  refine wpAny_binaryOp_repeat_ref (T := "tuple") (U := "int") (by decide) ⟨_, ho, rfl⟩ (fun s' => typeIs_int s' k t) noFill_tuple_mul F.fills_int_mul F.slot_int_rmul repeat_tuple F.slot_int_index.lookup ?_
  refine call_meets F.slot_int_rmul (typeIs_int s k t) F.entry_int_rmul (F.args_int_rmul_2 _ _) (int_rmul_tuple k t l its.toArray n dd sl) ⟨ho, rfl, ⟨_, ho, rfl⟩, ?_⟩
  refine call_meets F.slot_tuple_mul ⟨_, ho, rfl⟩ F.entry_tuple_mul (F.args_tuple_mul_2 _ _) (mul_none l its.toArray n dd sl k t c0 c1 c2) ⟨ho, ?_⟩
  refine ⟨.ref s.heap.objs.size, _, I.laid (t' := s.toks) (o := .tup []) (fun b ob q => Heap.get?_push_of_some _ q) (Nat.le_refl _) ?_, rfl, q _ (I.hok.fresh (Nat.le_refl _))⟩
  exact ⟨Nat.zero_le _, _, .nil, IsTup.new _ _⟩
theorem op_mul_d : OpR X (binaryOp .Mult) (rDat X.K (lookO .mul) (binP .mul)) := by
  intro pins s σ H x y v u Q I rx ry h
  have base := OpR.or (op_mulW (X := X)) (OpR.or (OpR.or op_repT (OpR.or op_rep1 op_rep0)) op_rep)
  refine base pins s σ H x y v u Q I rx ry ?_
  obtain ⟨G, F, loc, S, a, b, p, q, r, hK, hS, ra, rb, la, lb, e, k⟩ := h
  cases p with
  | int i =>
    cases q with
    | int j =>
      simp only [binP] at e
      split at e
      · rename_i hd
        cases e
        rw [look_int ra (look_F la), look_int rb (look_F lb)]
        refine .inl ⟨i, j, rfl, rfl, ?_, k _ _ _ _ (.refl hS) (.int _)⟩
        unfold mulOk at hd
        have hd := of_decide_eq_true hd
        exact hd
      · cases e
    | _ => cases e
  | tuple ps =>
    cases q with
    | int j =>
      simp only [binP] at e
      split at e
      · rename_i hd
        cases e
        have tw := look_tupR hS ra (look_F la)
        obtain ⟨l, xs, rfl, h1, h2⟩ := look_tup hS ra (look_F la)
        rw [look_int rb (look_F lb)]
        by_cases e0 : xs = []
        · subst e0
          cases h2
          have ez : (List.replicate j.toNat ([] : List PyData)).flatten = [] := by simp
          rw [ez] at k
          exact .inr (.inl (.inr (.inl ⟨l, j, [], rfl, rfl, hK ▸ h1, hd.1, hd.2.1, .inl rfl, k _ _ _ _ (.refl hS) tw⟩)))
        by_cases e1 : j = 1
        · subst e1
          have ez : (List.replicate (Int.toNat 1) ps).flatten = ps := by simp
          rw [ez] at k
          exact .inr (.inl (.inr (.inl ⟨l, 1, xs, rfl, rfl, hK ▸ h1, hd.1, hd.2.1, .inr rfl, k _ _ _ _ (.refl hS) tw⟩)))
        by_cases e2 : j ≤ 0
        · have ez : (List.replicate j.toNat ps).flatten = [] := by
            rw [show j.toNat = 0 by omega]
            rfl
          rw [ez] at k
          exact .inr (.inl (.inr (.inr ⟨l, j, xs, rfl, rfl, hK ▸ h1, e0, hd.1, e2, fun p hp => new_tup hS .nil k hp⟩)))
        exact .inr (.inl (.inl ⟨l, j, xs, rfl, rfl, hK ▸ h1, e0, by omega, hd.2.1, by rw [h2.length]; exact hd.2.2, fun p hp => new_tup hS (h2.rep _) k hp⟩))
      · cases e
    | tuple qs => simp only [binP] at e; cases e
    | _ => cases e
  | list ps =>
    cases q with
    | int j =>
      simp only [binP] at e
      split at e
      · rename_i hd
        cases e
        obtain ⟨l, xs, rfl, h1, h2⟩ := look_lst hS ra la
        rw [look_int rb (look_F lb)]
        exact .inr (.inr ⟨l, j, xs, rfl, rfl, h1, hd.1, hd.2.1, by rw [h2.length]; exact hd.2.2, fun p hp => new_lst hS (h2.rep _) k hp⟩)
      · cases e
    | list qs => simp only [binP] at e; cases e
    | _ => cases e
  | str i => cases q <;> simp only [binP] at e <;> cases e
  | _ => cases q <;> cases e
end
end IP
namespace IP
open PySem PySem.Spec PyProof.Rows L2

/-! ### comparisons on values -/
section
variable {K : PySem.W.Frag} {F : Addr → Prop} {H : Hp}
theorem flat_V {w : V} {p : PyData} (r : Rp K F H w p) (h : flatP p = true) : flatV w = true := by
  cases r <;> first | rfl | cases h
theorem flat_Vs : ∀ {w : List V} {p : List PyData}, RpL K F H w p → p.all flatP = true → w.all flatV = true
  | _, _, .nil, _ => rfl
  | _, _, .cons r l, h => by
    rw [List.all_cons, Bool.and_eq_true] at h
    rw [List.all_cons, Bool.and_eq_true]
    exact ⟨flat_V r h.1, flat_Vs l h.2⟩
theorem flat_eq {v w : V} {p q : PyData} (r : Rp K F H v p) (s : Rp K F H w q) (h : flatP p = true) (h' : flatP q = true) : eqV v w = PyData.eqv p q := by
  cases r <;> cases s <;> first
    | (cases h; done)
    | (cases h'; done)
    | (simp only [eqV, PyData.eqv]; done)
    | (simp [eqV, PyData.eqv]; done)
theorem flat_in {x : V} {p : PyData} (r : Rp K F H x p) (h : flatP p = true) : ∀ {w : List V} {q : List PyData}, RpL K F H w q → q.all flatP = true → inV x w = q.any fun y => PyData.eqv y p
  | _, _, .nil, _ => rfl
  | _, _, .cons s l, h' => by
    rw [List.all_cons, Bool.and_eq_true] at h'
    have ih := flat_in r h l h'.2
    unfold inV at ih ⊢
    rw [List.any_cons, List.any_cons, ih, flat_eq s r h'.1 h]
end
section
variable {G : GC} {F : Addr → Prop} {loc : Nat → Addr} {S : Store} {H : Hp}
theorem look_flat {x : Val} {w : V} {p : PyData} (r : RV G F loc S H x w) (e : lookF S x = some p) (h : flatP p = true) : Rp G.K F H w p := by
  cases x with
  | dat q => cases e; exact r
  | ref l => rcases look_ref e with ⟨xs, h1, h2⟩ | ⟨xs, h1, h2⟩ | ⟨xs, h1, h2⟩ <;> (subst h2; cases h)
  | exn c fs => cases e
end
section
variable {X : Cx}
/-- a comparison, by data -/
def rCmp (K : PySem.W.Frag) (f : PyData → PyData → Option Bool) : R2 := fun x y H Q => ∃ G F loc S a b p q r, G.K = K ∧ SimS G F loc S H ∧ RV G F loc S H a x ∧ RV G F loc S H b y ∧ lookF S a = some p ∧ lookF S b = some q ∧ f p q = some r ∧ Q (.bl r) H
theorem eqP_of {a b : PyData} {r : Bool} (e : eqP a b = some r) : (∃ i j, a = .int i ∧ b = .int j ∧ r = decide (i = j)) ∨ (∃ x y, a = .str x ∧ b = .str y ∧ r = decide (x = y)) ∨ (SeqAt.shaped a = true ∧ SeqAt.shaped b = true ∧ PyData.eqv a b = r) := by
  unfold eqP at e
  split at e
  · exact .inl ⟨_, _, rfl, rfl, (Option.some.inj e).symm⟩
  · exact .inr (.inl ⟨_, _, rfl, rfl, (Option.some.inj e).symm⟩)
  · split at e
    · rename_i h
      exact .inr (.inr ⟨h.1, h.2, Option.some.inj e⟩)
    · cases e
theorem int_dec {i j : Int} : decide (V.int i = V.int j) = decide (i = j) := by
  rw [Bool.eq_iff_iff]
  simp
theorem str_dec {x y : Str} : decide (V.str x = V.str y) = decide (x = y) := by
  rw [Bool.eq_iff_iff]
  simp
theorem inP_of {x y : PyData} {r : Bool} (e : inP x y = some r) : (∃ ys, (y = .list ys ∨ y = .tuple ys) ∧ flatP x = true ∧ ys.all flatP = true ∧ r = ys.any fun z => PyData.eqv z x) ∨ ∃ a b, x = .str a ∧ y = .str b ∧ r = !(Builtin.Str.occurrences b a 0 b.length 1).isEmpty := by
  unfold inP at e
  split at e
  · split at e
    · rename_i h
      exact .inl ⟨_, .inl rfl, h.1, h.2, (Option.some.inj e).symm⟩
    · cases e
  · split at e
    · rename_i h
      exact .inl ⟨_, .inr rfl, h.1, h.2, (Option.some.inj e).symm⟩
    · cases e
  · exact .inr ⟨_, _, rfl, rfl, (Option.some.inj e).symm⟩
  · cases e
theorem ord_ints {op : CK} {a b : PyData} {r : Bool} (h : op = .lt ∨ op = .le ∨ op = .gt ∨ op = .ge) (e : cmpP op a b = some r) : ∃ i j, a = .int i ∧ b = .int j := by
  rcases h with rfl | rfl | rfl | rfl <;> (simp only [cmpP] at e; split at e <;> first | exact ⟨_, _, rfl, rfl⟩ | cases e)
theorem cmp_lt_d : OpR X (compareOp .Lt) (rCmp X.K (cmpP .lt)) := by
  intro pins s σ H x y v u Q I rx ry h
  refine op_lt pins s σ H x y v u Q I rx ry ?_
  obtain ⟨G, F, loc, S, a, b, p, q, r, hK, hS, ra, rb, la, lb, e, k⟩ := h
  obtain ⟨i, j, rfl, rfl⟩ := ord_ints (by simp) e
  cases e
  rw [look_int ra la, look_int rb lb]
  exact ⟨i, j, rfl, rfl, k⟩
theorem cmp_le_d : OpR X (compareOp .LtE) (rCmp X.K (cmpP .le)) := by
  intro pins s σ H x y v u Q I rx ry h
  refine op_le pins s σ H x y v u Q I rx ry ?_
  obtain ⟨G, F, loc, S, a, b, p, q, r, hK, hS, ra, rb, la, lb, e, k⟩ := h
  obtain ⟨i, j, rfl, rfl⟩ := ord_ints (by simp) e
  cases e
  rw [look_int ra la, look_int rb lb]
  exact ⟨i, j, rfl, rfl, k⟩
theorem cmp_gt_d : OpR X (compareOp .Gt) (rCmp X.K (cmpP .gt)) := by
  intro pins s σ H x y v u Q I rx ry h
  refine op_gt pins s σ H x y v u Q I rx ry ?_
  obtain ⟨G, F, loc, S, a, b, p, q, r, hK, hS, ra, rb, la, lb, e, k⟩ := h
  obtain ⟨i, j, rfl, rfl⟩ := ord_ints (by simp) e
  cases e
  rw [look_int ra la, look_int rb lb]
  exact ⟨i, j, rfl, rfl, k⟩
theorem cmp_ge_d : OpR X (compareOp .GtE) (rCmp X.K (cmpP .ge)) := by
  intro pins s σ H x y v u Q I rx ry h
  refine op_ge pins s σ H x y v u Q I rx ry ?_
  obtain ⟨G, F, loc, S, a, b, p, q, r, hK, hS, ra, rb, la, lb, e, k⟩ := h
  obtain ⟨i, j, rfl, rfl⟩ := ord_ints (by simp) e
  cases e
  rw [look_int ra la, look_int rb lb]
  exact ⟨i, j, rfl, rfl, k⟩
def rEqT0 (K : PySem.W.Frag) : R2 := fun x y H Q => ∃ a xs b, x = .ref a ∧ SqT K H a xs ∧ y = .ref b ∧ SqT K H b [] ∧ Q (.bl xs.isEmpty) H
theorem op_eqT0 (hu : X.A.units + 64 < cLine) : OpR X (compareOp .Eq) (rEqT0 X.K) := by
  intro pins s σ H x y v u Q I rx ry h
  obtain ⟨a, xs, b, rfl, h1, rfl, h2, q⟩ := h
  cases rx
  cases ry
  obtain ⟨its, rv, ⟨o, ho, hc, n, hd⟩, _⟩ := I.tuple h1
  obtain ⟨its2, rv2, ⟨o2, ho2, hc2, n2, hd2⟩, _⟩ := I.tuple h2
  cases rv2
  refine SeqAt.eq_tupleAt (items := its.toArray) (items2 := ([] : List Value).toArray) (e := fun _ => true) ⟨o, ho, hc, n, hd⟩ ⟨o2, ho2, hc2, n2, hd2⟩ (by omega) (fun j _ h2 => by simp at h2) ?_
  refine ⟨.bl xs.isEmpty, H, I, ?_, q⟩
  show Value.bool _ = Value.bool _
  congr 1
  cases rv <;> simp
theorem cmp_eq_d (hu : X.A.units + 64 < cLine) : OpR X (compareOp .Eq) (rCmp X.K (cmpP .eq)) := by
  intro pins s σ H x y v u Q I rx ry h
  refine OpR.or (OpR.or op_eq (op_eqD hu)) (op_eqT0 hu) pins s σ H x y v u Q I rx ry ?_
  obtain ⟨G, F, loc, S, a, b, p, q, r, hK, hS, ra, rb, la, lb, e, k⟩ := h
  simp only [cmpP] at e
  cases qe : eqP p q with
  | some r' =>
    rw [qe] at e
    cases e
    refine .inl ?_
    rcases eqP_of qe with ⟨i, j, rfl, rfl, rfl⟩ | ⟨c, d, rfl, rfl, rfl⟩ | ⟨h1, h2, rfl⟩
    · rw [look_int ra la, look_int rb lb]
      refine .inl ⟨rfl, ?_⟩
      rw [int_dec]
      exact k
    · have r1 := look_flat ra la rfl
      have r2 := look_flat rb lb rfl
      cases r1
      cases r2
      refine .inl ⟨rfl, ?_⟩
      rw [str_dec]
      exact k
    · rw [← hK]
      exact .inr ⟨p, q, look_dp hS ra la (hasDict_shaped h1), look_dp hS rb lb (hasDict_shaped h2), h1, h2, k⟩
  | none =>
    rw [qe] at e
    refine .inr ?_
    have e2 : eqT0 p q = some r := e
    clear e
    unfold eqT0 at e2
    split at e2
    · rename_i xs
      cases e2
      obtain ⟨a1, us, rfl, s1, l1⟩ := look_tup hS ra la
      obtain ⟨b1, vs, rfl, s2, l2⟩ := look_tup hS rb lb
      cases l2
      refine ⟨a1, us, b1, rfl, hK ▸ s1, rfl, hK ▸ s2, ?_⟩
      have : us.isEmpty = xs.isEmpty := by cases l1 <;> rfl
      rw [this]
      exact k
    · cases e2
theorem cmp_ne_d (hu : X.A.units + 64 < cLine) : OpR X (compareOp .NotEq) (rCmp X.K (cmpP .ne)) := by
  intro pins s σ H x y v u Q I rx ry h
  refine OpR.or op_ne (op_neD hu) pins s σ H x y v u Q I rx ry ?_
  obtain ⟨G, F, loc, S, a, b, p, q, r, hK, hS, ra, rb, la, lb, e, k⟩ := h
  simp only [cmpP, Option.map_eq_some_iff] at e
  obtain ⟨r', e, rfl⟩ := e
  rcases eqP_of e with ⟨i, j, rfl, rfl, rfl⟩ | ⟨c, d, rfl, rfl, rfl⟩ | ⟨h1, h2, rfl⟩
  · rw [look_int ra la, look_int rb lb]
    refine .inl ⟨rfl, ?_⟩
    rw [int_dec]
    exact k
  · have r1 := look_flat ra la rfl
    have r2 := look_flat rb lb rfl
    cases r1
    cases r2
    refine .inl ⟨rfl, ?_⟩
    rw [str_dec]
    exact k
  · rw [← hK]
    exact .inr ⟨p, q, look_dp hS ra la (hasDict_shaped h1), look_dp hS rb lb (hasDict_shaped h2), h1, h2, k⟩
theorem in_seq {G : GC} {F : Addr → Prop} {loc : Nat → Addr} {S : Store} {H : Hp} {b : Val} {y : V} {ys : List PyData} {q : PyData} (hS : SimS G F loc S H) (rb : RV G F loc S H b y) (lb : lookF S b = some q) (hq : q = .list ys ∨ q = .tuple ys) :
    ∃ p xs, y = .ref p ∧ (SqL G.K H p xs ∨ SqT G.K H p xs) ∧ RpL G.K F H xs ys := by
  rcases hq with rfl | rfl
  · obtain ⟨a, xs, rfl, h1, h2⟩ := look_list hS rb lb
    exact ⟨a, xs, rfl, .inl (.inl h1), h2⟩
  · obtain ⟨a, xs, rfl, h1, h2⟩ := look_tup hS rb lb
    exact ⟨a, xs, rfl, .inr h1, h2⟩
theorem cmp_in_d : OpR X (compareOp .In) (rCmp X.K (cmpP .inn)) := by
  intro pins s σ H x y v u Q I rx ry h
  refine OpR.or op_in_seq op_in_str pins s σ H x y v u Q I rx ry ?_
  obtain ⟨G, F, loc, S, a, b, p, q, r, hK, hS, ra, rb, la, lb, e, k⟩ := h
  rw [← hK]
  rcases inP_of e with ⟨ys, hq, h1, h2, rfl⟩ | ⟨c, d, rfl, rfl, rfl⟩
  · obtain ⟨p', xs, rfl, h3, h4⟩ := in_seq hS rb lb hq
    have rp := look_flat ra la h1
    refine .inl ⟨p', xs, rfl, h3, flat_V rp h1, flat_Vs h4 h2, ?_⟩
    rw [if_neg Bool.false_ne_true, flat_in rp h1 h4 h2]
    exact k
  · rw [look_str ra la, look_str rb lb]
    exact .inr ⟨c, d, rfl, rfl, k⟩
theorem cmp_nin_d : OpR X (compareOp .NotIn) (rCmp X.K (cmpP .nin)) := by
  intro pins s σ H x y v u Q I rx ry h
  refine OpR.or op_notIn_seq op_notin_str pins s σ H x y v u Q I rx ry ?_
  obtain ⟨G, F, loc, S, a, b, p, q, r, hK, hS, ra, rb, la, lb, e, k⟩ := h
  rw [← hK]
  simp only [cmpP, Option.map_eq_some_iff] at e
  obtain ⟨r', e, rfl⟩ := e
  rcases inP_of e with ⟨ys, hq, h1, h2, rfl⟩ | ⟨c, d, rfl, rfl, rfl⟩
  · obtain ⟨p', xs, rfl, h3, h4⟩ := in_seq hS rb lb hq
    have rp := look_flat ra la h1
    refine .inl ⟨p', xs, rfl, h3, flat_V rp h1, flat_Vs h4 h2, ?_⟩
    rw [if_pos rfl, flat_in rp h1 h4 h2]
    exact k
  · rw [look_str ra la, look_str rb lb]
    exact .inr ⟨c, d, rfl, rfl, k⟩
end

/-! ### expressions -/
section
variable {X : Cx} {G : GC} {W : WX} {cf : CallF} {a b c : Expr} {ia ib ic : IE} {pos : Pos} {es : List Expr} {ies : List IE}
theorem E_var {i : Nat} {x : Str} (hN : X.N[i]? = some x) (hv : Vis X.env.scope x) (hd : (x == ("__debug__" : Str)) = false) (hcd : (x == ("__classdict__" : Str)) = false) : PE X (.Name x pos) (rdE G W cf (.var i)) := by
  refine PEmon (pe_var hN hv hd hcd) ?_
  rintro t H Q ⟨F, loc, s, S, hS, hE, p⟩
  simp only [evE] at p
  cases h : s[i]? with
  | none => rw [h] at p; exact False.elim p
  | some o =>
    cases o with
    | none => rw [h] at p; exact False.elim p
    | some v =>
      rw [h] at p
      obtain ⟨w, h1, r⟩ := hE.at_ i v h
      exact ⟨w, h1, p w F loc H (.refl hS) r⟩
theorem E_cint {i : Int} {j} : PE X (.Constant (.int i) j pos) (rdE G W cf (.cst (.int i))) := by
  refine PEmon pe_int ?_
  rintro t H Q ⟨F, loc, s, S, hS, hE, p⟩
  simp only [evE] at p
  exact p _ _ _ _ (.refl hS) (show Rp _ _ _ _ _ from .int i)
theorem E_cstr {i : Str} {j} : PE X (.Constant (.str i) j pos) (rdE G W cf (.cst (.str i))) := by
  refine PEmon pe_str ?_
  rintro t H Q ⟨F, loc, s, S, hS, hE, p⟩
  simp only [evE] at p
  exact p _ _ _ _ (.refl hS) (show Rp _ _ _ _ _ from .str i)
theorem E_cbl {i : Bool} {j} : PE X (.Constant (.bool i) j pos) (rdE G W cf (.cst (.bool i))) := by
  refine PEmon pe_bl ?_
  rintro t H Q ⟨F, loc, s, S, hS, hE, p⟩
  simp only [evE] at p
  exact p _ _ _ _ (.refl hS) (show Rp _ _ _ _ _ from .bl i)
theorem E_cnon {j} : PE X (.Constant .none j pos) (rdE G W cf (.cst .none)) := by
  refine PEmon pe_non ?_
  rintro t H Q ⟨F, loc, s, S, hS, hE, p⟩
  simp only [evE] at p
  exact p _ _ _ _ (.refl hS) (show Rp _ _ _ _ _ from .non)
theorem E_bin {op : BK} {o : Operator} (ho : OpR X (binaryOp o) (rDat X.K (lookO op) (binP op))) (hK : G.K = X.K) (ha : PE X a (rdE G W cf ia)) (hb : PE X b (rdE G W cf ib)) : PE X (.BinOp a o b pos) (rdE G W cf (.bin op ia ib)) := by
  refine PEmon (pe_op ho ha hb) ?_
  rintro t H Q ⟨F, loc, s, S, hS, hE, p⟩
  simp only [evE] at p
  refine ⟨F, loc, s, S, hS, hE, Post.bind p fun v S1 w F1 loc1 H1 n r p1 => ⟨F1, loc1, s, S1, n.sim, hE.next n, Post.bind p1 fun v2 S2 w2 F2 loc2 H2 n2 r2 p2 => ?_⟩⟩
  split at p2
  · rename_i x y hx hy
    cases hb : binP op x y with
    | none => rw [hb] at p2; exact False.elim p2
    | some z =>
      rw [hb] at p2
      exact ⟨G, F2, loc2, S2, v, v2, x, y, z, hK, n2.sim, r.next n2, r2, hx, hy, hb, fun w F' loc' H' n3 r3 => p2 w F' loc' H' n3 r3⟩
  · exact False.elim p2
theorem cmp_post {op : CK} {v v2 : Val} {w w2 : V} {F2 : Addr → Prop} {loc2 : Nat → Addr} {S2 : Store} {H2 : Hp} {t : L2.St} {Q : V → Hp → Prop} (hK : G.K = X.K) (n : SimS G F2 loc2 S2 H2) (r : RV G F2 loc2 S2 H2 v w) (r2 : RV G F2 loc2 S2 H2 v2 w2)
    (p2 : PostV G W t F2 loc2 S2 H2 (match lookF S2 v, lookF S2 v2 with
    | some p, some q => optD ((cmpP op p q).map .bool) S2
    | _, _ => .err) Q) : rCmp X.K (cmpP op) w w2 H2 Q := by
  split at p2
  · rename_i x y hx hy
    cases hb : cmpP op x y with
    | none => rw [hb] at p2; exact False.elim p2
    | some z =>
      rw [hb] at p2
      exact ⟨G, F2, loc2, S2, v, v2, x, y, z, hK, n, r, r2, hx, hy, hb, p2 _ _ _ _ (.refl n) (show Rp _ _ _ _ _ from .bl z)⟩
  · exact False.elim p2
theorem E_cmp {op : CK} {o : CmpOp} (ho : OpR X (compareOp o) (rCmp X.K (cmpP op))) (hK : G.K = X.K) (ha : PE X a (rdE G W cf ia)) (hb : PE X b (rdE G W cf ib)) (hm : behindInMarks o b = false) : PE X (.Compare a [o] [b] pos) (rdE G W cf (.cmp op ia ib)) := by
  refine PEmon (pe_cmpR ho ha hb hm) ?_
  rintro t H Q ⟨F, loc, s, S, hS, hE, p⟩
  simp only [evE] at p
  exact ⟨F, loc, s, S, hS, hE, Post.bind p fun v S1 w F1 loc1 H1 n r p1 => ⟨F1, loc1, s, S1, n.sim, hE.next n, Post.bind p1 fun v2 S2 w2 F2 loc2 H2 n2 r2 p2 => cmp_post hK n2.sim (r.next n2) r2 p2⟩⟩
theorem E_neg (ha : PE X a (rdE G W cf ia)) : PE X (.UnaryOp .USub a pos) (rdE G W cf (.neg ia)) := by
  refine PEmon (pe_un un_neg ha) ?_
  rintro t H Q ⟨F, loc, s, S, hS, hE, p⟩
  simp only [evE] at p
  refine ⟨F, loc, s, S, hS, hE, Post.bind p fun v S1 w F1 loc1 H1 n r p1 => ?_⟩
  split at p1
  · rename_i i
    have r : Rp G.K F1 H1 w (.int i) := r
    cases r
    exact ⟨i, rfl, p1 _ _ _ _ (.refl n.sim) (show Rp _ _ _ _ _ from .int (-i))⟩
  · exact False.elim p1
theorem E_not (ha : PE X a (rdE G W cf ia)) : PE X (.UnaryOp .Not a pos) (rdE G W cf (.not ia)) := by
  refine PEmon (pe_not ha) ?_
  rintro t H Q ⟨F, loc, s, S, hS, hE, p⟩
  simp only [evE] at p
  refine ⟨F, loc, s, S, hS, hE, Post.bind p fun v S1 w F1 loc1 H1 n r p1 => ?_⟩
  split at p1
  · rename_i i
    have r : Rp G.K F1 H1 w (.bool i) := r
    cases r
    exact ⟨i, rfl, p1 _ _ _ _ (.refl n.sim) (show Rp _ _ _ _ _ from .bl (!i))⟩
  · exact False.elim p1
theorem E_and {rest : List Expr} (ha : PE X a (rdE G W cf ia)) (hb : PE X (.BoolOp .And (b :: rest) pos) (rdE G W cf ib)) : PE X (.BoolOp .And (a :: b :: rest) pos) (rdE G W cf (.and ia ib)) := by
  refine PEmon (pe_and ha hb) ?_
  rintro t H Q ⟨F, loc, s, S, hS, hE, p⟩
  simp only [evE] at p
  refine ⟨F, loc, s, S, hS, hE, Post.bind p fun v S1 w F1 loc1 H1 n r p1 => ?_⟩
  split at p1
  · have r : Rp G.K F1 H1 w (.bool true) := r
    cases r
    exact ⟨true, rfl, ⟨F1, loc1, s, S1, n.sim, hE.next n, p1⟩⟩
  · have r : Rp G.K F1 H1 w (.bool false) := r
    cases r
    exact ⟨false, rfl, p1 _ _ _ _ (.refl n.sim) (show Rp _ _ _ _ _ from .bl false)⟩
  · exact False.elim p1
theorem E_or {rest : List Expr} (ha : PE X a (rdE G W cf ia)) (hb : PE X (.BoolOp .Or (b :: rest) pos) (rdE G W cf ib)) : PE X (.BoolOp .Or (a :: b :: rest) pos) (rdE G W cf (.or ia ib)) := by
  refine PEmon (pe_or ha hb) ?_
  rintro t H Q ⟨F, loc, s, S, hS, hE, p⟩
  simp only [evE] at p
  refine ⟨F, loc, s, S, hS, hE, Post.bind p fun v S1 w F1 loc1 H1 n r p1 => ?_⟩
  split at p1
  · have r : Rp G.K F1 H1 w (.bool true) := r
    cases r
    exact ⟨true, rfl, p1 _ _ _ _ (.refl n.sim) (show Rp _ _ _ _ _ from .bl true)⟩
  · have r : Rp G.K F1 H1 w (.bool false) := r
    cases r
    exact ⟨false, rfl, ⟨F1, loc1, s, S1, n.sim, hE.next n, p1⟩⟩
  · exact False.elim p1
/-- a test -/
theorem rdT_of {t : L2.St} {H : Hp} {Q : Bool → Hp → Prop} (h : rdT G W cf ia t H Q) : rdE G W cf ia t H fun x H1 => ∃ k, x = .bl k ∧ Q k H1 := by
  obtain ⟨F, loc, s, S, hS, hE, p⟩ := h
  unfold evT at p
  refine ⟨F, loc, s, S, hS, hE, Post.bind p fun v S1 w F1 loc1 H1 n r p1 => ?_⟩
  unfold datb at p1
  split at p1
  · rename_i b
    have r : Rp G.K F1 H1 w (.bool b) := r
    cases r
    exact ⟨b, rfl, p1 b _ _ _ (.refl n.sim) rfl⟩
  · exact False.elim p1
theorem E_ite (hc : PT X c (rdT G W cf ic)) (ha : PE X a (rdE G W cf ia)) (hb : PE X b (rdE G W cf ib)) : PE X (.IfExp c a b pos) (rdE G W cf (.ite ic ia ib)) := by
  refine PEmon (pe_ifExp hc ha hb) ?_
  rintro t H Q ⟨F, loc, s, S, hS, hE, p⟩
  simp only [evE] at p
  refine ⟨F, loc, s, S, hS, hE, ?_⟩
  unfold evT
  cases h : evE cf ic s S with
  | err => rw [h] at p; exact p
  | exc c fs S' => rw [h] at p; exact p
  | ok v S1 =>
    rw [h] at p
    simp only [Out.bind_ok] at p ⊢
    split at p
    · intro w F1 loc1 H1 n r
      subst r
      rw [if_pos rfl]
      exact ⟨F1, loc1, s, S1, n.sim, hE.next n, Post.step n p⟩
    · intro w F1 loc1 H1 n r
      subst r
      rw [if_neg Bool.false_ne_true]
      exact ⟨F1, loc1, s, S1, n.sim, hE.next n, Post.step n p⟩
    · exact False.elim p
end
end IP
namespace IP
open PySem PySem.Spec PyProof.Rows L2

/-! ### the store changed -/
section
variable {G : GC} {F F' F1 : Addr → Prop} {loc loc' loc1 : Nat → Addr} {S S' S1 : Store} {H H' H1 : Hp}
/-- a new object of the store, at a place that is new since the start -/
theorem Nxt.push (n : Nxt G F loc S H F1 loc1 S1 H1) {a : Addr} {o : Ob} (hn : H a = none) (hF : ¬ F1 a) (hl : ∀ l u, S1[l]? = some u → alive u = true → loc1 l ≠ a) (r : RO G F1 loc1 S1 H1 a o) : Nxt G F loc S H F1 (fun l => if l = S1.length then a else loc1 l) (S1 ++ [o]) H1 := by
  have h := n.sim
  have e1 : ∀ l, l < S1.length → (if l = S1.length then a else loc1 l) = loc1 l := fun l h => if_neg (Nat.ne_of_lt h)
  have le : S1.length ≤ (S1 ++ [o]).length := by rw [List.length_append]; exact Nat.le_add_right _ _
  have at_ : ∀ l u, (S1 ++ [o])[l]? = some u → (l < S1.length ∧ S1[l]? = some u) ∨ (l = S1.length ∧ u = o) := fun l u e => by
    by_cases hh : l < S1.length
    · rw [List.getElem?_append_left hh] at e
      exact .inl ⟨hh, e⟩
    · rw [List.getElem?_append_right (by omega)] at e
      have : l - S1.length = 0 := by
        cases q : l - S1.length with
        | zero => rfl
        | succ k => rw [q] at e; simp at e
      rw [this] at e
      simp at e
      exact .inr ⟨by omega, e.symm⟩
  refine ⟨n.sub, n.keep, n.kp, n.dom, n.fin, fun l hh => (e1 l (Nat.lt_of_lt_of_le hh n.len)).trans (n.loc l hh), Nat.le_trans n.len le, fun l u e al => ?_, ⟨h.dom, fun l u e => ?_, fun l l' u u' e e' al al' q => ?_, fun l u e al f => ?_⟩⟩
  · rcases at_ l u e with ⟨h1, h2⟩ | ⟨rfl, rfl⟩
    · show _ ∨ H (if l = S1.length then a else loc1 l) = none
      rw [e1 l h1]
      exact n.neu l u h2 al
    · refine .inr ?_
      show H (if S1.length = S1.length then a else loc1 S1.length) = none
      rw [if_pos rfl]
      exact hn
  · rcases at_ l u e with ⟨h1, h2⟩ | ⟨rfl, rfl⟩
    · show RO G F1 _ _ H1 (if l = S1.length then a else loc1 l) u
      rw [e1 l h1]
      exact RO.shift (fun _ h => h) (fun _ _ _ h => h) e1 le (fun _ h => h) (h.ob l u h2)
    · show RO G F1 _ _ H1 (if S1.length = S1.length then a else loc1 S1.length) u
      rw [if_pos rfl]
      exact RO.shift (fun _ h => h) (fun _ _ _ h => h) e1 le (fun _ h => h) r
  · rcases at_ l u e with ⟨h1, h2⟩ | ⟨rfl, rfl⟩
    · rcases at_ l' u' e' with ⟨h3, h4⟩ | ⟨rfl, rfl⟩
      · have q : (if l = S1.length then a else loc1 l) = (if l' = S1.length then a else loc1 l') := q
        rw [e1 l h1, e1 l' h3] at q
        exact h.inj l l' u u' h2 h4 al al' q
      · have q : (if l = S1.length then a else loc1 l) = (if S1.length = S1.length then a else loc1 S1.length) := q
        rw [e1 l h1, if_pos rfl] at q
        exact absurd q (hl l u h2 al)
    · rcases at_ l' u' e' with ⟨h3, h4⟩ | ⟨rfl, rfl⟩
      · have q : (if S1.length = S1.length then a else loc1 S1.length) = (if l' = S1.length then a else loc1 l') := q
        rw [e1 l' h3, if_pos rfl] at q
        exact absurd q.symm (hl l' u' h4 al')
      · rfl
  · rcases at_ l u e with ⟨h1, h2⟩ | ⟨rfl, rfl⟩
    · have f : F1 (if l = S1.length then a else loc1 l) := f
      rw [e1 l h1] at f
      exact h.sep l u h2 al f
    · have f : F1 (if S1.length = S1.length then a else loc1 S1.length) := f
      rw [if_pos rfl] at f
      exact hF f
/-- an object of the store changed -/
theorem Nxt.put (h : SimS G F loc S H) {l : Nat} {o o' : Ob} {u : HO} (hl : S[l]? = some o) (al : alive o = true)
    (r : ∀ S' H', (∀ a x, F a → H a = some x → H' a = some x) → S'.length = S.length → H' (loc l) = some u → RO G F loc S' H' (loc l) o') :
    Nxt G F loc S H F loc (S.set l o') (upd H (loc l) u) := by
  have hlt : l < S.length := (List.getElem?_eq_some_iff.mp hl).1
  have nF : ¬ F (loc l) := h.sep l o hl al
  have kp : ∀ a x, F a → H a = some x → upd H (loc l) u a = some x := fun a x f e => by
    have ne : a ≠ loc l := fun z => nF (by rw [← z]; exact f)
    rw [upd_ne ne]
    exact e
  have len : (S.set l o').length = S.length := List.length_set
  have at_ : ∀ m x, (S.set l o')[m]? = some x → (m ≠ l ∧ S[m]? = some x) ∨ (m = l ∧ x = o') := fun m x e => by
    by_cases q : m = l
    · subst q
      rw [List.getElem?_set_self hlt] at e
      exact .inr ⟨rfl, (Option.some.inj e).symm⟩
    · rw [List.getElem?_set_ne (Ne.symm q)] at e
      exact .inl ⟨q, e⟩
  have dom : ∀ a, upd H (loc l) u a = none → H a = none := fun a z => by
    by_cases q : a = loc l
    · rw [q, upd_same] at z
      cases z
    · rw [upd_ne q] at z
      exact z
  refine ⟨fun _ h => h, kp, fun a x e n => ?_, dom, fun _ f => .inl f, fun _ _ => rfl, Nat.le_of_eq len.symm, fun m x e al' => ?_, ⟨fun a f z => h.dom a f (dom a z), fun m x e => ?_, fun m m' x x' e e' am am' q => ?_, fun m x e am f => ?_⟩⟩
  · rw [upd_ne (fun z => n l o hl al z.symm)]
    exact e
  · rcases at_ m x e with ⟨h1, h2⟩ | ⟨rfl, rfl⟩
    · exact .inl ⟨x, h2, al'⟩
    · exact .inl ⟨o, hl, al⟩
  · rcases at_ m x e with ⟨h1, h2⟩ | ⟨rfl, rfl⟩
    · cases q : alive x with
      | false => cases x <;> first | exact True.intro | cases q
      | true =>
        refine RO.shift (fun _ h => h) kp (fun _ _ => rfl) (Nat.le_of_eq len.symm) (fun y e => ?_) (h.ob m x h2)
        rw [upd_ne (fun z => h1 (h.inj m l x o h2 hl q al z))]
        exact e
    · exact r _ _ kp len upd_same
  · rcases at_ m x e with ⟨h1, h2⟩ | ⟨rfl, rfl⟩
    · rcases at_ m' x' e' with ⟨h3, h4⟩ | ⟨rfl, rfl⟩
      · exact h.inj m m' x x' h2 h4 am am' q
      · exact h.inj m m' x o h2 hl am al q
    · rcases at_ m' x' e' with ⟨h3, h4⟩ | ⟨rfl, rfl⟩
      · exact h.inj m m' o x' hl h4 al am' q
      · rfl
  · rcases at_ m x e with ⟨h1, h2⟩ | ⟨rfl, rfl⟩
    · exact h.sep m x h2 am f
    · exact nF f
/-- an object of the store settled -/
theorem Nxt.settle (h : SimS G F loc S H) {l : Nat} {o : Ob} (hl : S[l]? = some o) (al : alive o = true) : Nxt G F loc S H (fun a => F a ∨ a = loc l) loc (S.set l .dead) H := by
  have hlt : l < S.length := (List.getElem?_eq_some_iff.mp hl).1
  have len : (S.set l .dead).length = S.length := List.length_set
  have at_ : ∀ m x, (S.set l .dead)[m]? = some x → alive x = true → m ≠ l ∧ S[m]? = some x := fun m x e am => by
    by_cases q : m = l
    · subst q
      rw [List.getElem?_set_self hlt] at e
      cases e
      cases am
    · rw [List.getElem?_set_ne (Ne.symm q)] at e
      exact ⟨q, e⟩
  refine ⟨fun _ f => .inl f, fun _ _ _ e => e, fun _ _ e _ => e, fun _ e => e, fun a f => f.elim .inl fun q => .inr (.inr ⟨l, o, hl, al, q.symm⟩), fun _ _ => rfl, Nat.le_of_eq len.symm, fun m x e al' => .inl ⟨x, (at_ m x e al').2, al'⟩, ⟨fun a f => ?_, fun m x e => ?_, fun m m' x x' e e' am am' q => ?_, fun m x e am f => ?_⟩⟩
  · rcases f with f | f
    · exact h.dom a f
    · rw [f]
      exact (h.ob l o hl).there al
  · cases q : alive x with
    | false => cases x <;> first | exact True.intro | cases q
    | true =>
      obtain ⟨h1, h2⟩ := at_ m x e q
      exact RO.shift (fun _ f => .inl f) (fun _ _ _ e => e) (fun _ _ => rfl) (Nat.le_of_eq len.symm) (fun _ e => e) (h.ob m x h2)
  · exact h.inj m m' x x' (at_ m x e am).2 (at_ m' x' e' am').2 am am' q
  · obtain ⟨h1, h2⟩ := at_ m x e am
    rcases f with f | f
    · exact h.sep m x h2 am f
    · exact h1 (h.inj m l x o h2 hl am al f)
/-- a list that is new since the start and that nothing else knows -/
def FrR (G : GC) (H0 : Hp) (F : Addr → Prop) (loc : Nat → Addr) (S : Store) (H : Hp) (v : Val) (w : V) : Prop :=
  ∃ ps xs a, v = .dat (.list ps) ∧ w = .ref a ∧ H a = some (.lst xs) ∧ RpL G.K F H xs ps ∧ ¬ F a ∧ (∀ l o, S[l]? = some o → alive o = true → loc l ≠ a) ∧ H0 a = none
theorem FrR.settle (n : Nxt G F loc S H F1 loc1 S1 H1) {v : Val} {w : V} (r : FrR G H F1 loc1 S1 H1 v w) : ∃ F', Nxt G F loc S H F' loc1 S1 H1 ∧ RV G F' loc1 S1 H1 v w := by
  obtain ⟨ps, xs, a, rfl, rfl, e, l, f, nl, h0⟩ := r
  have q := Nxt.keepsF n h0 (by rw [e]; exact fun z => by cases z) nl
  exact ⟨_, q, show Rp _ _ _ _ _ from .lst (.inr rfl) e (RpL.mono (fun _ f => .inl f) (fun _ _ _ e => e) l)⟩
/-- a list just laid -/
theorem FrR.new {H0 : Hp} (h : SimS G F loc S H) {ps : List PyData} {xs : List V} (r : RpL G.K F H xs ps) {p : Addr} (hp : H p = none) (h0 : H0 p = none) : FrR G H0 F loc S (upd H p (.lst xs)) (.dat (.list ps)) (.ref p) := by
  have n := Nxt.lay (o := .lst xs) h hp
  exact ⟨ps, xs, p, rfl, rfl, upd_same, RpL.mono n.sub n.keep r, fun f => h.dom p f hp, fun l o e al q => (h.ob l o e).there al (by rw [q]; exact hp), h0⟩
end

theorem evL_len {cf : CallF} : ∀ (es : List IE) (s : Env) (S S' : Store) (vs : List Val), evL cf es s S = .ok vs S' → vs.length = es.length := by
  intro es
  induction es with
  | nil => intro s S S' vs h; simp only [evL] at h; cases h; rfl
  | cons e es ih =>
    intro s S S' vs h
    simp only [evL] at h
    cases q : evE cf e s S with
    | err => rw [q] at h; cases h
    | exc c fs S1 => rw [q] at h; cases h
    | ok v S1 =>
      rw [q, Out.bind_ok] at h
      cases q2 : evL cf es s S1 with
      | err => rw [q2] at h; cases h
      | exc c fs S1 => rw [q2] at h; cases h
      | ok ws S2 =>
        rw [q2, Out.bind_ok] at h
        cases h
        rw [List.length_cons, List.length_cons, ih s S1 _ _ q2]
/-! ### argument lists, displays -/
abbrev PostF (G : GC) (W : WX) (t : L2.St) (F : Addr → Prop) (loc : Nat → Addr) (S : Store) (H : Hp) (o : Out Val) (Q : V → Hp → Prop) : Prop := Post (A := Val) (B := V) G (fun F' loc' S' H' v w => FrR G H F' loc' S' H' v w) W t F loc S H o Q
def rdF (G : GC) (W : WX) (cf : CallF) (e : IE) : TE := fun t H Q => ∃ F loc s S, SimS G F loc S H ∧ SimE G F loc S H s t ∧ PostF G W t F loc S H (evE cf e s S) Q
section
variable {X : Cx} {G : GC} {W : WX} {cf : CallF} {a b c e : Expr} {ia ib ic ie : IE} {pos : Pos} {es : List Expr} {ies : List IE}
theorem L_nil : PA X [] (rdL G W cf []) := by
  refine PAmon pa_nil ?_
  rintro t H Q ⟨F, loc, s, S, hS, hE, p⟩
  simp only [evL] at p
  exact p _ _ _ _ (.refl hS) .nil
theorem L_cons (ha : PE X e (rdE G W cf ie)) (hr : PA X es (rdL G W cf ies)) (hs : starEach (e :: es) X.env = (false, eval e X.env) :: starEach es X.env) : PA X (e :: es) (rdL G W cf (ie :: ies)) := by
  refine PAmon (pa_cons ha hr hs) ?_
  rintro t H Q ⟨F, loc, s, S, hS, hE, p⟩
  simp only [evL] at p
  refine ⟨F, loc, s, S, hS, hE, Post.bind p fun v S1 w F1 loc1 H1 n r p1 => ⟨F1, loc1, s, S1, n.sim, hE.next n, Post.bind p1 fun v2 S2 w2 F2 loc2 H2 n2 r2 p2 => ?_⟩⟩
  exact p2 _ _ _ _ (.refl n2.sim) (.cons (r.next n2) r2)
theorem E_tup {k : Nat} (h : PA X es (rdL G W cf ies)) : PE X (.Tuple es k pos) (rdE G W cf (.tup ies)) := by
  refine PEmon (pe_tup h) ?_
  rintro t H Q ⟨F, loc, s, S, hS, hE, p⟩
  simp only [evE] at p
  refine ⟨F, loc, s, S, hS, hE, Post.bind p fun v S1 w F1 loc1 H1 n r p1 => ?_⟩
  split at p1
  · rename_i ps hd
    have rl := dats_rp r hd
    split at p1
    · rename_i hz
      exact ⟨by rw [rl.length]; exact hz, fun q hq => new_tup n.sim rl p1 hq⟩
    · exact False.elim p1
  · exact False.elim p1
theorem F_lst (h : PA X es (rdL G W cf ies)) : PE X (.List es pos) (rdF G W cf (.lst ies)) := by
  refine PEmon (pe_lst h) ?_
  rintro t H Q ⟨F, loc, s, S, hS, hE, p⟩
  simp only [evE] at p
  refine ⟨F, loc, s, S, hS, hE, Post.bind p fun v S1 w F1 loc1 H1 n r p1 => ?_⟩
  split at p1
  · rename_i ps hd
    have rl := dats_rp r hd
    split at p1
    · rename_i hz
      refine ⟨by rw [rl.length]; exact hz, fun q hq => ?_⟩
      exact p1 _ _ _ _ (Nxt.lay n.sim hq) (FrR.new n.sim rl hq (n.dom _ hq))
    · exact False.elim p1
  · exact False.elim p1
theorem rdE_F {t : L2.St} {H : Hp} {Q : VK} (h : rdE G W cf ie t H Q) : rdF G W cf ie t H Q := by
  obtain ⟨F, loc, s, S, hS, hE, p⟩ := h
  refine ⟨F, loc, s, S, hS, hE, ?_⟩
  cases q : evE cf ie s S with
  | err => rw [q] at p; exact p
  | exc c fs S' => rw [q] at p; exact p
  | ok v S1 =>
    rw [q] at p
    intro w F1 loc1 H1 n r
    obtain ⟨F2, n2, r2⟩ := r.settle n
    exact p w F2 loc1 H1 n2 r2
theorem E_ofF (h : PE X e (rdF G W cf ie)) : PE X e (rdE G W cf ie) := PEmon h fun _ _ _ => rdE_F
theorem rdN_F {t : L2.St} {H : Hp} {Q : VK} (h : rdE G W cf (.new ie) t H Q) : rdF G W cf ie t H Q := by
  obtain ⟨F, loc, s, S, hS, hE, p⟩ := h
  simp only [evE] at p
  refine ⟨F, loc, s, S, hS, hE, ?_⟩
  cases q : evE cf ie s S with
  | err => rw [q] at p; exact p
  | exc c fs S' => rw [q] at p; exact p
  | ok v S1 =>
  rw [q] at p
  intro w F1 loc1 H1 n r
  obtain ⟨ps, xs, a, rfl, rfl, e, l, f, nl, h0⟩ := r
  have n2 := Nxt.push (o := .lst ps) n h0 f nl ⟨xs, e, l⟩
  refine p _ _ _ _ n2 ⟨?_, ?_⟩
  · show V.ref a = V.ref (if S1.length = S1.length then a else loc1 S1.length)
    rw [if_pos rfl]
  · rw [List.length_append, List.length_singleton]
    exact Nat.lt_succ_self _
theorem E_new (h : PE X e (rdF G W cf ie)) : PE X e (rdE G W cf (.new ie)) := PEmon h fun _ _ _ => rdN_F
/-- a list or a dict of the store is settled where it is handed on -/
theorem E_frz {i : Nat} {x : Str} (hN : X.N[i]? = some x) (hv : Vis X.env.scope x) (hd : (x == ("__debug__" : Str)) = false) (hcd : (x == ("__classdict__" : Str)) = false) : PE X (.Name x pos) (rdE G W cf (.frz i)) := by
  refine PEmon (pe_var hN hv hd hcd) ?_
  rintro t H Q ⟨F, loc, s, S, hS, hE, p⟩
  simp only [evE] at p
  split at p
  · rename_i l hi
    obtain ⟨w, h1, r⟩ := hE.at_ i _ hi
    obtain ⟨rfl, hl⟩ := r
    split at p
    · rename_i xs he
      refine ⟨_, h1, ?_⟩
      have n := Nxt.settle hS he rfl
      obtain ⟨vs, e1, r1⟩ := hS.ob l _ he
      exact p _ _ _ _ n (show Rp _ _ _ _ _ from .lst (.inr rfl) e1 (RpL.mono n.sub n.keep r1))
    · rename_i xs he
      refine ⟨_, h1, ?_⟩
      have n := Nxt.settle hS he rfl
      rcases hS.ob l _ he with ⟨vs, e1, r1⟩ | ⟨vs, e1, r1⟩
      · exact p _ _ _ _ n (show Rp _ _ _ _ _ from .dic (.inr rfl) e1 (RpD.mono n.sub n.keep r1))
      · exact p _ _ _ _ n (show Rp _ _ _ _ _ from .dit (.inr rfl) e1 (RpT.mono n.sub n.keep r1))
    · exact False.elim p
  · exact False.elim p

/-! ### calls of own defs -/
def spC (G : GC) (n : Nat) (g : List Val → Store → Out Val) : Sp := fun vs H Q E => ∃ F loc S args, SimS G F loc S H ∧ RVs G F loc S H args vs ∧ args.length = n ∧ PostV G (fun cv d _ H' => E cv d H') [] F loc S H (g args S) Q
theorem spC_len {n : Nat} {g : List Val → Store → Out Val} {ps : List Str} (hn : ps.length = n) : ∀ vs H Q E, spC G n g vs H Q E → vs.length = ps.length := fun vs H Q E ⟨F, loc, S, args, _, r, e, _⟩ => by rw [r.length, e, hn]
def dflV (ds : List Int) : List V := ds.map V.int
theorem RVs.app {F : Addr → Prop} {loc : Nat → Addr} {S : Store} {H : Hp} : ∀ {v v' : List Val} {w w' : List V}, RVs G F loc S H v w → RVs G F loc S H v' w' → RVs G F loc S H (v ++ v') (w ++ w')
  | _, _, _, _, .nil, s => s
  | _, _, _, _, .cons r l, s => .cons r (RVs.app l s)
theorem RVs.dfl {F : Addr → Prop} {loc : Nat → Addr} {S : Store} {H : Hp} : ∀ ds : List Int, RVs G F loc S H (dfl ds) (dflV ds)
  | [] => .nil
  | i :: r => .cons (show Rp _ _ _ _ _ from .int i) (RVs.dfl r)
/-- from the wish for a value behind a call to the callee's -/
theorem spC_of {n : Nat} {g : List Val → Store → Out Val} {t : L2.St} {F : Addr → Prop} {loc : Nat → Addr} {S : Store} {H : Hp} {args : List Val} {vs : List V} {Q : VK} (hS : SimS G F loc S H) (r : RVs G F loc S H args vs) (hn : args.length = n) (p : PostV G W t F loc S H (g args S) Q) :
    spC G n g vs H Q (WE W t) := by
  refine ⟨F, loc, S, args, hS, r, hn, ?_⟩
  cases q : g args S with
  | ok v S' => rw [q] at p; exact p
  | exc c fs S' => rw [q] at p; exact p
  | err => rw [q] at p; exact p
section
variable {CXT : CXT} {k f n : Nat} {fa : Addr} {fd : FuncData} {ps : List Str} {ds : List Int} {us : List Value} {x m : Str} {p apos : Pos} {o : Expr} {io : IE}
theorem E_call (hF : FnOk X.prog X.w X.K X.mg X.base CXT k fa fd ps (spC G n (cf f))) (hr : Room k X.A) (hg : Gl X x) (hm : X.mg x = some (.ref fa)) (hk : PySem.W.keepIn X.K (.ref fa) = true) (hb : Binds X.K fd ps us) (hd : Vals (dflV ds) us)
    (hx : ∀ t, PassesAt CXT X t (WE W t)) (ha : PA X (e :: es) (rdL G W cf ies)) (hl : ies.length + ds.length = n) (hdb : (x == ("__debug__" : Str)) = false) (he : starEach (e :: es) X.env = (false, eval e X.env) :: starEach es X.env) (hpl : (backTo pos (starEach es X.env)).any (·.1) = false) :
    PE X (.Call (.Name x p) (e :: es) [] pos) (rdE G W cf (.call f ies ds)) := by
  refine PEmon (pe_callSD hF hr hg hm hk hb hd hx ha hdb he hpl) ?_
  rintro t H Q ⟨F, loc, s, S, hS, hE, p⟩
  simp only [evE] at p
  refine ⟨F, loc, s, S, hS, hE, ?_⟩
  cases q : evL cf ies s S with
  | err => rw [q] at p; exact p
  | exc c fs S' => rw [q] at p; exact p
  | ok vs S1 =>
    rw [q] at p
    have ln := evL_len _ _ _ _ _ q
    intro w F1 loc1 H1 n1 r
    refine spC_of n1.sim (r.app (.dfl ds)) ?_ (Post.step n1 p)
    rw [List.length_append, ln]
    unfold dfl
    rw [List.length_map]
    exact hl
end
end
end IP
namespace IP
open PySem PySem.Spec PyProof.Rows L2

section
variable {X : Cx} {G : GC} {W : WX} {cf : CallF} {a b c e : Expr} {ia ib ic ie : IE} {pos : Pos} {es : List Expr} {ies : List IE}
/-! ### is, chains -/
theorem E_isN {n : Bool} {o : CmpOp} {j pos'} (ho : o = if n = true then .IsNot else .Is) (ha : PE X a (rdE G W cf ia)) : PE X (.Compare a [o] [.Constant .none j pos'] pos) (rdE G W cf (.isc n ia .none)) := by
  have fin : ∀ {t : L2.St} {H : Hp} {Q : VK}, rdE G W cf (.isc n ia .none) t H Q → rdE G W cf ia t H fun x H1 => Q (.bl (if n = true then !decide (x = .non) else decide (x = .non))) H1 := by
    rintro t H Q ⟨F, loc, s, S, hS, hE, p⟩
    simp only [evE] at p
    refine ⟨F, loc, s, S, hS, hE, Post.bind p fun v S1 w F1 loc1 H1 m r p1 => ?_⟩
    have q : ∀ k : Bool, PostV G W t F1 loc1 S1 H1 (.ok (.dat (.bool k)) S1) Q → Q (.bl k) H1 := fun k p => p _ _ _ _ (.refl m.sim) (show Rp _ _ _ _ _ from .bl k)
    have ne : w ≠ .non → (if n = true then !decide (w = .non) else decide (w = .non)) = n := fun h => by
      cases n <;> simp [h]
    cases v with
    | dat d =>
      have r : Rp G.K F1 H1 w d := r
      cases d with
      | none =>
        cases r
        have := q _ p1
        cases n <;> simpa using this
      | bool k => cases r; rw [ne (fun z => by cases z)]; exact q _ p1
      | int k => cases r; rw [ne (fun z => by cases z)]; exact q _ p1
      | str k => cases r; rw [ne (fun z => by cases z)]; exact q _ p1
      | list k => cases r; rw [ne (fun z => by cases z)]; exact q _ p1
      | tuple k => cases r <;> (rw [ne (fun z => by cases z)]; exact q _ p1)
      | dict k => cases r <;> (rw [ne (fun z => by cases z)]; exact q _ p1)
    | ref l =>
      obtain ⟨rfl, _⟩ := r
      rw [ne (fun z => by cases z)]
      exact q _ p1
    | exn c fs => exact False.elim p1
  cases n with
  | true =>
    rw [if_pos rfl] at ho
    subst ho
    refine PEmon (pe_cmp (pc_notN ha)) fun t H Q h => ?_
    have := fin h
    simp only [if_pos] at this
    exact this
  | false =>
    rw [if_neg Bool.false_ne_true] at ho
    subst ho
    refine PEmon (pe_cmp (pc_isN ha)) fun t H Q h => ?_
    have := fin h
    simp only [if_neg Bool.false_ne_true] at this
    exact this
theorem E_isB {n k : Bool} {o : CmpOp} {j pos'} (ho : o = if n = true then .IsNot else .Is) (ha : PE X a (rdE G W cf ia)) : PE X (.Compare a [o] [.Constant (.bool k) j pos'] pos) (rdE G W cf (.isc n ia (.bool k))) := by
  have fin : ∀ {t : L2.St} {H : Hp} {Q : VK}, rdE G W cf (.isc n ia (.bool k)) t H Q → rdE G W cf ia t H fun x H1 => ∃ d : Bool, x = .bl d ∧ Q (.bl (if n = true then !decide (d = k) else decide (d = k))) H1 := by
    rintro t H Q ⟨F, loc, s, S, hS, hE, p⟩
    simp only [evE] at p
    refine ⟨F, loc, s, S, hS, hE, Post.bind p fun v S1 w F1 loc1 H1 m r p1 => ?_⟩
    cases v with
    | dat d =>
      have r : Rp G.K F1 H1 w d := r
      cases d with
      | bool k' =>
        cases r
        exact ⟨k', rfl, p1 _ _ _ _ (.refl m.sim) (show Rp _ _ _ _ _ from .bl _)⟩
      | _ => exact False.elim p1
    | ref l => exact False.elim p1
    | exn c fs => exact False.elim p1
  cases n with
  | true =>
    rw [if_pos rfl] at ho
    subst ho
    refine PEmon (pe_cmpR op_notBl ha pe_bl rfl) fun t H Q h => ?_
    obtain ⟨F, loc, s, S, hS, hE, p⟩ := fin h
    refine ⟨F, loc, s, S, hS, hE, Post.weak p ?_⟩
    rintro w H1 ⟨d, rfl, q⟩
    exact ⟨d, k, rfl, rfl, q⟩
  | false =>
    rw [if_neg Bool.false_ne_true] at ho
    subst ho
    refine PEmon (pe_cmpR op_isBl ha pe_bl rfl) fun t H Q h => ?_
    obtain ⟨F, loc, s, S, hS, hE, p⟩ := fin h
    refine ⟨F, loc, s, S, hS, hE, Post.weak p ?_⟩
    rintro w H1 ⟨d, rfl, q⟩
    exact ⟨d, k, rfl, rfl, q⟩
theorem rCmp_of {op : CK} {p q : PyData} {w w2 : V} {F2 : Addr → Prop} {loc2 : Nat → Addr} {S2 : Store} {H2 : Hp} {Q : V → Hp → Prop} {k : Bool} (hK : G.K = X.K) (n : SimS G F2 loc2 S2 H2) (r : Rp G.K F2 H2 w p) (r2 : Rp G.K F2 H2 w2 q) (e : cmpP op p q = some k) (h : Q (.bl k) H2) : rCmp X.K (cmpP op) w w2 H2 Q :=
  ⟨G, F2, loc2, S2, .dat p, .dat q, p, q, k, hK, n, r, r2, rfl, rfl, e, h⟩
theorem E_chn {op op' : CK} {o o' : CmpOp} (ho : OpR X (compareOp o) (rCmp X.K (cmpP op))) (ho' : OpR X (compareOp o') (rCmp X.K (cmpP op'))) (hK : G.K = X.K) (ha : PE X a (rdE G W cf ia)) (hb : PE X b (rdE G W cf ib)) (hc : PE X c (rdE G W cf ic))
    (hm : behindInMarks o b = false) (hm' : behindInMarks o' c = false) (t1 : PE X (.Compare a [o, o'] [b, c] pos) (tChain (rCmp X.K (cmpP op)) (rCmp X.K (cmpP op')) (rdE G W cf ia) (rdE G W cf ib) (rdE G W cf ic))) : PE X (.Compare a [o, o'] [b, c] pos) (rdE G W cf (.chn op op' ia ib ic)) := by
  refine PEmon t1 ?_
  rintro t H Q ⟨F, loc, s, S, hS, hE, p⟩
  simp only [evE] at p
  refine ⟨F, loc, s, S, hS, hE, Post.bind p fun v S1 w F1 loc1 H1 n r p1 => ⟨F1, loc1, s, S1, n.sim, hE.next n, Post.bind p1 fun v2 S2 w2 F2 loc2 H2 n2 r2 p2 => ?_⟩⟩
  split at p2
  · rename_i x y
    have r : Rp G.K F2 H2 w x := RV.next (v := .dat x) n2 r
    have r2 : Rp G.K F2 H2 w2 y := r2
    split at p2
    · rename_i e
      refine rCmp_of hK n2.sim r r2 e ⟨true, rfl, ?_⟩
      rw [if_pos rfl]
      refine ⟨F2, loc2, s, S2, n2.sim, (hE.next n).next n2, Post.bind p2 fun v3 S3 w3 F3 loc3 H3 n3 r3 p3 => ?_⟩
      split at p3
      · rename_i z
        cases q : cmpP op' y z with
        | none => rw [q] at p3; exact False.elim p3
        | some k =>
          rw [q] at p3
          exact rCmp_of hK n3.sim (RV.next (v := .dat y) n3 r2) r3 q (p3 _ _ _ _ (.refl n3.sim) (show Rp _ _ _ _ _ from .bl k))
      · exact False.elim p3
    · rename_i e
      refine rCmp_of hK n2.sim r r2 e ⟨false, rfl, ?_⟩
      rw [if_neg Bool.false_ne_true]
      exact p2 _ _ _ _ (.refl n2.sim) (show Rp _ _ _ _ _ from .bl false)
    · exact False.elim p2
  · exact False.elim p2

/-! ### subscripts, slices -/
theorem E_idx (hs : PlainIx b) (hK : G.K = X.K) (ha : PE X a (rdE G W cf ia)) (hb : PE X b (rdE G W cf ib)) : PE X (.Subscript a b pos) (rdE G W cf (.idx ia ib)) := by
  refine PEmon (pe_ix (IxR.or ix_list (IxR.or ix_tup ix_str)) ha hb hs) ?_
  rintro t H Q ⟨F, loc, s, S, hS, hE, p⟩
  simp only [evE] at p
  refine ⟨F, loc, s, S, hS, hE, Post.bind p fun v S1 w F1 loc1 H1 n r p1 => ⟨F1, loc1, s, S1, n.sim, hE.next n, Post.bind p1 fun v2 S2 w2 F2 loc2 H2 n2 r2 p2 => ?_⟩⟩
  have r := r.next n2
  have atL : ∀ {i : Int} {ys : List PyData} {xs : List V} {d : PyData}, RpL G.K F2 H2 xs ys → atI ys i = some d → ∃ u, atI xs i = some u ∧ Rp G.K F2 H2 u d := fun {i ys xs d} l e => by
    unfold atI at e ⊢
    rw [l.length]
    cases q : ixN ys.length i with
    | none => rw [q] at e; cases e
    | some j =>
      rw [q] at e
      exact l.get e
  split at p2
  · rename_i x y hx
    have r2 : Rp G.K F2 H2 w2 y := r2
    cases q : idxP x y with
    | none => rw [q] at p2; exact False.elim p2
    | some d =>
      rw [q] at p2
      unfold idxP at q
      split at q
      · obtain ⟨l, xs, rfl, h1, h2⟩ := look_list n2.sim r hx
        cases r2
        obtain ⟨u, h3, h4⟩ := atL h2 q
        exact .inl ⟨l, xs, _, u, rfl, rfl, .inl h1, h3, p2 _ _ _ _ (.refl n2.sim) h4⟩
      · obtain ⟨l, xs, rfl, h1, h2⟩ := look_tup n2.sim r hx
        cases r2
        obtain ⟨u, h3, h4⟩ := atL h2 q
        exact .inr (.inl ⟨l, xs, _, u, rfl, rfl, hK ▸ h1, h3, p2 _ _ _ _ (.refl n2.sim) h4⟩)
      · rw [look_str r hx]
        cases r2
        split at q
        · rename_i hz
          simp only [Option.map_eq_some_iff] at q
          obtain ⟨ch, q, rfl⟩ := q
          exact .inr (.inr ⟨_, _, ch, rfl, rfl, hz, q, p2 _ _ _ _ (.refl n2.sim) (show Rp _ _ _ _ _ from .str _)⟩)
        · cases q
      · cases q
  · exact False.elim p2
/-- a part of a slice -/
def rdP (G : GC) (W : WX) (cf : CallF) (e : IE) : L2.St → Hp → (Option Int → Hp → Prop) → Prop := fun t H Q => ∃ F loc s S, SimS G F loc S H ∧ SimE G F loc S H s t ∧
  Post (A := Option Int) (B := Option Int) G (fun _ _ _ _ v o => v = o) W t F loc S H (partO (isNon e) (evE cf e s S) S) Q
theorem PO_none : PO X none (rdP G W cf .non) := by
  have h := po_none (X := X)
  refine ⟨fun pins s σ H Q I q => h.run pins s σ H Q I ?_⟩
  obtain ⟨F, loc, s, S, hS, hE, p⟩ := q
  unfold partO isNon at p
  rw [if_pos rfl] at p
  exact p _ _ _ _ (.refl hS) rfl
theorem PO_some (hn : isNon ia = false) (ha : PE X a (rdE G W cf ia)) : PO X (some a) (rdP G W cf ia) := by
  have h := po_some ha
  refine ⟨fun pins s σ H Q I q => h.run pins s σ H Q I ?_⟩
  obtain ⟨F, loc, s, S, hS, hE, p⟩ := q
  unfold partO at p
  rw [hn, if_neg Bool.false_ne_true] at p
  refine ⟨F, loc, s, S, hS, hE, Post.bind p fun v S1 w F1 loc1 H1 n r p1 => ?_⟩
  split at p1
  · rename_i i
    have r : Rp G.K F1 H1 w (.int i) := r
    cases r
    exact ⟨i, rfl, p1 _ _ _ _ (.refl n.sim) rfl⟩
  · exact False.elim p1
theorem cutP_eq (xs : List V) (lo hi : Option Int) : cutP xs lo hi = cutV xs lo hi := rfl
theorem RpL.cut {K : PySem.W.Frag} {F : Addr → Prop} {H : Hp} {xs : List V} {ps : List PyData} (r : RpL K F H xs ps) (lo hi : Option Int) : RpL K F H (cutV xs lo hi) (cutP ps lo hi) := by
  unfold cutV cutP
  rw [r.length]
  exact (r.drop _).take _
theorem E_sli {lo hi : Option Expr} {il ih : IE} {p2 : Pos} (hK : G.K = X.K) (ha : PE X a (rdE G W cf ia)) (hl : PO X lo (rdP G W cf il)) (hh : PO X hi (rdP G W cf ih)) : PE X (.Subscript a (.Slice lo hi none p2) pos) (rdE G W cf (.sli ia il ih)) := by
  refine PEmon (pe_slice (SlR.or sl_list (SlR.or sl_tupA sl_str)) ha hl hh) ?_
  rintro t H Q ⟨F, loc, s, S, hS, hE, p⟩
  simp only [evE] at p
  refine ⟨F, loc, s, S, hS, hE, Post.bind p fun v S1 w F1 loc1 H1 n r p1 => ⟨F1, loc1, s, S1, n.sim, hE.next n, Post.bind p1 fun l S2 l' F2 loc2 H2 n2 r2 p2 => ⟨F2, loc2, s, S2, n2.sim, (hE.next n).next n2, Post.bind p2 fun h S3 h' F3 loc3 H3 n3 r3 p3 => ?_⟩⟩⟩
  subst r2 r3
  have r := (r.next n2).next n3
  split at p3
  · rename_i x hx
    cases q : sliP x l h with
    | none => rw [q] at p3; exact False.elim p3
    | some d =>
      rw [q] at p3
      unfold sliP at q
      split at q
      · cases q
        obtain ⟨m, xs, rfl, h1, h2⟩ := look_list n3.sim r hx
        exact .inl ⟨m, xs, rfl, .inl h1, fun p hp => new_lst n3.sim (h2.cut _ _) p3 hp⟩
      · cases q
        have whole := look_tupR n3.sim r hx
        obtain ⟨m, xs, rfl, h1, h2⟩ := look_tup n3.sim r hx
        refine .inr (.inl ⟨m, xs, rfl, hK ▸ h1, fun z => ?_, fun _ p hp => new_tup n3.sim (h2.cut _ _) p3 hp⟩)
        have e : ∀ ps : List PyData, ps.length = xs.length → cutP ps l h = ps := fun ps hl => by
          unfold cutP
          rw [hl, z.1, z.2, List.drop_zero, Nat.sub_zero, ← hl, List.take_length]
        rw [e _ h2.length.symm] at p3
        exact p3 _ _ _ _ (.refl n3.sim) whole
      · rw [look_str r hx]
        split at q
        · rename_i hz
          cases q
          exact .inr (.inr ⟨_, rfl, hz, p3 _ _ _ _ (.refl n3.sim) (show Rp _ _ _ _ _ from .str _)⟩)
        · cases q
      · cases q
  · exact False.elim p3

/-! ### fields, methods, making -/
theorem RFs.find {F : Addr → Prop} {loc : Nat → Addr} {S : Store} {H : Hp} (inj : ∀ f g, G.fnm f = G.fnm g → f = g) {f : Nat} {v : Val} : ∀ {fs : List (Nat × Val)} {ws : List (Str × V)}, RFs G F loc S H fs ws → fs.lookup f = some v → ∃ w, ws.lookup (G.fnm f) = some w ∧ RV G F loc S H v w
  | _, _, .nil, e => by cases e
  | _, _, .cons (f := g) (w := w) (vs := vs) (ws := ws) r l, e => by
    rw [List.lookup_cons] at e ⊢
    by_cases q : f = g
    · subst q
      simp only [beq_self_eq_true] at e ⊢
      cases e
      exact ⟨w, rfl, r⟩
    · have b1 : (f == g) = false := beq_eq_false_iff_ne.mpr q
      have b2 : (G.fnm f == G.fnm g) = false := beq_eq_false_iff_ne.mpr fun z => q (inj f g z)
      simp only [b1] at e
      simp only [b2]
      exact RFs.find inj l e
theorem RFs.no {F : Addr → Prop} {loc : Nat → Addr} {S : Store} {H : Hp} {m : Str} (hm : ∀ f, G.fnm f ≠ m) : ∀ {fs : List (Nat × Val)} {ws : List (Str × V)}, RFs G F loc S H fs ws → ws.lookup m = none
  | _, _, .nil => rfl
  | _, _, .cons (f := g) r l => by
    rw [List.lookup_cons]
    have b2 : (m == G.fnm g) = false := beq_eq_false_iff_ne.mpr fun z => hm g z.symm
    simp only [b2]
    exact RFs.no hm l
theorem RFs.putF {F : Addr → Prop} {loc : Nat → Addr} {S : Store} {H : Hp} (inj : ∀ f g, G.fnm f = G.fnm g → f = g) {f : Nat} {v : Val} {w : V} (r : RV G F loc S H v w) : ∀ {fs : List (Nat × Val)} {ws : List (Str × V)}, RFs G F loc S H fs ws → RFs G F loc S H (putFd f v fs) (L2.putF (G.fnm f) w ws)
  | _, _, .nil => .cons r .nil
  | _, _, .cons (f := g) (v := x) (w := y) (vs := vs) (ws := ws) q l => by
    show RFs G F loc S H (if g = f then (g, v) :: vs else (g, x) :: putFd f v vs) (if G.fnm g = G.fnm f then (G.fnm g, w) :: ws else (G.fnm g, y) :: L2.putF (G.fnm f) w ws)
    by_cases h : g = f
    · rw [if_pos h, if_pos (by rw [h])]
      exact .cons r l
    · rw [if_neg h, if_neg fun z => h (inj g f z)]
      exact .cons q (RFs.putF inj r l)
theorem RFs.length {F : Addr → Prop} {loc : Nat → Addr} {S : Store} {H : Hp} : ∀ {fs : List (Nat × Val)} {ws : List (Str × V)}, RFs G F loc S H fs ws → ws.length = fs.length
  | _, _, .nil => rfl
  | _, _, .cons _ l => by rw [List.length_cons, List.length_cons, RFs.length l]
theorem E_fld {f : Nat} {nm : Str} (hf : nm = G.fnm f) (inj : ∀ f g, G.fnm f = G.fnm g → f = g) (hc : ∀ c, G.cok c → Cls X.K (G.cls c)) (hn : ∀ c, G.cok c → NoAttr X.K (G.cls c) nm) (ha : PE X a (rdE G W cf ia)) (hb : attributeBase a nm X.env (eval a X.env) = eval a X.env) : PE X (.Attribute a nm pos) (rdE G W cf (.fld ia f)) := by
  refine PEmon (pe_fld ha hb) ?_
  subst hf
  rintro t H Q ⟨F, loc, s, S, hS, hE, p⟩
  simp only [evE] at p
  refine ⟨F, loc, s, S, hS, hE, Post.bind p fun v S1 w F1 loc1 H1 n r p1 => ?_⟩
  split at p1
  · rename_i l
    obtain ⟨rfl, hl⟩ := r
    split at p1
    · rename_i c fs hs
      split at p1
      · rename_i v hv
        obtain ⟨ok, dx, ws, e1, r1⟩ := n.sim.ob l _ hs
        obtain ⟨w, h1, h2⟩ := r1.find inj hv
        exact ⟨_, _, dx, ws, w, rfl, e1, hc c ok, hn c ok, h1, p1 _ _ _ _ (.refl n.sim) h2⟩
      · exact False.elim p1
    · exact False.elim p1
  · exact False.elim p1
/-! ### calls -/
section
variable {CXT : CXT} {k f n ci : Nat} {fa : Addr} {fd : FuncData} {ps ks : List Str} {ds : List Int} {us : List Value} {x m : Str} {p apos : Pos} {o : Expr} {io : IE} {pl : Sem Bool}
theorem E_call0 (hF : FnOk X.prog X.w X.K X.mg X.base CXT k fa fd ps (spC G n (cf f))) (hr : Room k X.A) (hg : Gl X x) (hm : X.mg x = some (.ref fa)) (hk : PySem.W.keepIn X.K (.ref fa) = true) (hb : Binds X.K fd ps us) (hd : Vals (dflV ds) us)
    (hx : Passes CXT X (WE W [])) (hw : ∀ cv d t t' H, W cv d t H → W cv d t' H) (hl : ds.length = n) (hdb : (x == ("__debug__" : Str)) = false) : PE X (.Call (.Name x p) [] [] pos) (rdE G W cf (.call f [] ds)) := by
  refine PEmon (pe_call0 hF hr hg hm hk hb hd hx hdb) ?_
  rintro t H Q ⟨F, loc, s, S, hS, hE, p⟩
  simp only [evE, evL, Out.bind_ok] at p
  show spC G n (cf f) ([] ++ dflV ds) H Q (WE W [])
  refine spC_of hS (RVs.app .nil (.dfl ds)) ?_ ?_
  · rw [List.length_append]
    unfold dfl
    rw [List.length_map]
    simpa using hl
  · cases q : cf f ([] ++ dfl ds) S with
    | ok v S' => rw [q] at p; exact p
    | err => rw [q] at p; exact p
    | exc c fs S' =>
      rw [q] at p
      exact fun cv d F' loc' H' m e => hw _ _ _ _ _ (p cv d F' loc' H' m e)
theorem post_w {F : Addr → Prop} {loc : Nat → Addr} {S : Store} {H : Hp} {o : Out Val} {t t' : L2.St} {Q : V → Hp → Prop} (hw : ∀ cv d t t' H, W cv d t H → W cv d t' H) (p : PostV G W t F loc S H o Q) : PostV G W t' F loc S H o Q := by
  cases o with
  | ok v S' => exact p
  | err => exact p
  | exc c fs S' => exact fun cv d F' loc' H' m e => hw _ _ _ _ _ (p cv d F' loc' H' m e)
theorem E_mth (ho : PE X o (rdE G W cf io)) (hc : Cls X.K (G.cls ci)) (hM : Meth X.K (G.cls ci) m fa) (hnf : ∀ f, G.fnm f ≠ m) (hF : FnOk X.prog X.w X.K X.mg X.base CXT k fa fd ps (spC G n (cf f))) (hr : Room k X.A) (hb : Binds X.K fd ps us) (hd : Vals (dflV ds) us)
    (hx : Passes CXT X (WE W [])) (hw : ∀ cv d t t' H, W cv d t H → W cv d t' H) (ha : PA X (e :: es) (rdL G W cf ies)) (hl : ies.length + ds.length + 1 = n)
    (hst : starEach (e :: es) X.env = (false, eval e X.env) :: starEach es X.env) (hpl : (backTo pos (starEach es X.env)).any (·.1) = false)
    (ht : eval (.Call (.Attribute o m apos) (e :: es) [] pos) X.env = (do
      let ov ← eval o X.env
      standAt apos.atName
      let (f, first) ← holding [ov] (getMethod ov m pl)
      callWith pos f first (backTo pos (starEach (e :: es) X.env)) (backToKw pos (keywordEach [] X.env)))) :
    PE X (.Call (.Attribute o m apos) (e :: es) [] pos) (rdE G W cf (.mth ci f io ies ds)) := by
  refine PEmon (pe_meth ho hc hM hF hr hb hd hx ha hst hpl ht) ?_
  rintro t H Q ⟨F, loc, s, S, hS, hE, p⟩
  simp only [evE] at p
  refine ⟨F, loc, s, S, hS, hE, Post.bind p fun v S1 w F1 loc1 H1 n1 r p1 => ?_⟩
  split at p1
  · rename_i l
    have r' := r
    obtain ⟨rfl, hll⟩ := r
    split at p1
    · rename_i c' fs hs
      split at p1
      · rename_i hcc
        subst hcc
        obtain ⟨ok, dx, ws, e1, r1⟩ := n1.sim.ob l _ hs
        refine ⟨_, dx, ws, rfl, e1, r1.no hnf, F1, loc1, s, S1, n1.sim, hE.next n1, ?_⟩
        cases q : evL cf ies s S1 with
        | err => rw [q] at p1; exact p1
        | exc c fs S' => rw [q] at p1; exact p1
        | ok vs S2 =>
          rw [q] at p1
          have ln := evL_len _ _ _ _ _ q
          intro w2 F2 loc2 H2 n2 r2
          refine spC_of n2.sim (.cons (r'.next n2) (r2.app (.dfl ds))) ?_ (post_w hw (Post.step n2 p1))
          rw [List.length_cons, List.length_append, ln]
          unfold dfl
          rw [List.length_map]
          exact hl
      · exact False.elim p1
    · exact False.elim p1
  · exact False.elim p1
theorem E_mth0 (ho : PE X o (rdE G W cf io)) (hc : Cls X.K (G.cls ci)) (hM : Meth X.K (G.cls ci) m fa) (hnf : ∀ f, G.fnm f ≠ m) (hF : FnOk X.prog X.w X.K X.mg X.base CXT k fa fd ps (spC G n (cf f))) (hr : Room k X.A) (hb : Binds X.K fd ps us) (hd : Vals (dflV ds) us)
    (hx : Passes CXT X (WE W [])) (hw : ∀ cv d t t' H, W cv d t H → W cv d t' H) (hl : ds.length + 1 = n)
    (ht : eval (.Call (.Attribute o m apos) [] [] pos) X.env = (do
      let ov ← eval o X.env
      standAt apos.atName
      let (f, first) ← holding [ov] (getMethod ov m pl)
      callWith pos f first (backTo pos (starEach [] X.env)) (backToKw pos (keywordEach [] X.env)))) :
    PE X (.Call (.Attribute o m apos) [] [] pos) (rdE G W cf (.mth ci f io [] ds)) := by
  refine PEmon (pe_meth0 ho hc hM hF hr hb hd hx ht) ?_
  rintro t H Q ⟨F, loc, s, S, hS, hE, p⟩
  simp only [evE] at p
  refine ⟨F, loc, s, S, hS, hE, Post.bind p fun v S1 w F1 loc1 H1 n1 r p1 => ?_⟩
  split at p1
  · rename_i l
    have r' := r
    obtain ⟨rfl, hll⟩ := r
    split at p1
    · rename_i c' fs hs
      split at p1
      · rename_i hcc
        subst hcc
        obtain ⟨ok, dx, ws, e1, r1⟩ := n1.sim.ob l _ hs
        refine ⟨_, dx, ws, rfl, e1, r1.no hnf, ?_⟩
        simp only [evL, Out.bind_ok] at p1
        refine spC_of n1.sim (.cons r' (RVs.app .nil (.dfl ds))) ?_ (post_w hw p1)
        rw [List.length_cons, List.length_append]
        unfold dfl
        rw [List.length_map]
        simpa using hl
      · exact False.elim p1
    · exact False.elim p1
  · exact False.elim p1
/-- the wish behind a making, from the one for __init__ -/
theorem mk_of {t : L2.St} {F : Addr → Prop} {loc : Nat → Addr} {S : Store} {H : Hp} {args : List Val} {vs : List V} {Q : VK} (ok : G.cok ci) (hS : SimS G F loc S H) (r : RVs G F loc S H args vs) (hn : args.length + 1 = n)
    (p : PostV G W t F loc S H ((cf f (.ref S.length :: args) (S ++ [.ins ci []])).bind fun v S2 => match v with
      | .dat .none => .ok (.ref S.length) S2
      | _ => .err) Q) : ∀ y dx, H y = none → H dx = none → dx ≠ y → spC G n (cf f) (.ref y :: vs) (upd (upd H dx (.own y)) y (.ins (G.cls ci) dx [])) (fun v H2 => v = .non ∧ Q (.ref y) H2) (WE W t) := by
  intro y dx hy hdx ne
  have n1 := Nxt.lay (o := .own y) hS hdx
  have hy1 : upd H dx (.own y) y = none := by rw [upd_ne (Ne.symm ne)]; exact hy
  have n2 := n1.trans (Nxt.lay (o := .ins (G.cls ci) dx []) n1.sim hy1)
  have nl : ∀ l u, S[l]? = some u → alive u = true → loc l ≠ y := fun l u e al q => (hS.ob l u e).there al (by rw [q]; exact hy)
  have n3 := Nxt.push (o := .ins ci []) n2 hy (fun f => hS.dom y f hy) nl ⟨ok, dx, [], upd_same, .nil⟩
  have len : (S ++ [Ob.ins ci []]).length = S.length + 1 := by rw [List.length_append, List.length_singleton]
  have rv : RV G F (fun l => if l = S.length then y else loc l) (S ++ [.ins ci []]) (upd (upd H dx (.own y)) y (.ins (G.cls ci) dx [])) (.ref S.length) (.ref y) := by
    refine ⟨?_, by rw [len]; exact Nat.lt_succ_self _⟩
    show V.ref y = V.ref (if S.length = S.length then y else loc S.length)
    rw [if_pos rfl]
  refine spC_of n3.sim (.cons rv (r.next n3)) ?_ ?_
  · rw [List.length_cons]; exact hn
  · refine Post.bind (Post.step n3 p) fun v S2 w F2 loc2 H2 n4 rw2 p2 => ?_
    split at p2
    · have rw2 : Rp G.K F2 H2 w .none := rw2
      cases rw2
      exact ⟨rfl, p2 _ _ _ _ (.refl n4.sim) (rv.next n4)⟩
    · exact False.elim p2
theorem E_mk (ok : G.cok ci) (M : Mk X.K (G.cls ci) fa) (hF : FnOk X.prog X.w X.K X.mg X.base CXT k fa fd ps (spC G n (cf f))) (hr : Room (k + 1) X.A) (hg : Gl X x) (hm : X.mg x = some (.ref (G.cls ci))) (hb : Binds X.K fd ps [])
    (hx : Passes CXT X (WE W [])) (hw : ∀ cv d t t' H, W cv d t H → W cv d t' H) (ha : PA X (e :: es) (rdL G W cf ies)) (hl : ies.length + 1 = n) (hdb : (x == ("__debug__" : Str)) = false) (he : starEach (e :: es) X.env = (false, eval e X.env) :: starEach es X.env) (hpl : (backTo pos (starEach es X.env)).any (·.1) = false) :
    PE X (.Call (.Name x p) (e :: es) [] pos) (rdE G W cf (.mk ci f ies)) := by
  refine PEmon (pe_make M hF hr hg hm hb .nil hx ha hdb he hpl) ?_
  rintro t H Q ⟨F, loc, s, S, hS, hE, p⟩
  simp only [evE] at p
  refine ⟨F, loc, s, S, hS, hE, ?_⟩
  cases q : evL cf ies s S with
  | err => rw [q] at p; exact p
  | exc c fs S' => rw [q] at p; exact p
  | ok vs S1 =>
    rw [q] at p
    have ln := evL_len _ _ _ _ _ q
    intro w F1 loc1 H1 n1 r
    have p1 := post_w (t' := []) hw (Post.step n1 p)
    have := mk_of (n := n) (t := []) ok n1.sim r (by rw [ln]; exact hl) p1
    rw [List.append_nil]
    exact this
theorem E_mk0 (ok : G.cok ci) (M : Mk X.K (G.cls ci) fa) (hF : FnOk X.prog X.w X.K X.mg X.base CXT k fa fd ps (spC G n (cf f))) (hr : Room (k + 1) X.A) (hg : Gl X x) (hm : X.mg x = some (.ref (G.cls ci))) (hb : Binds X.K fd ps [])
    (hx : Passes CXT X (WE W [])) (hw : ∀ cv d t t' H, W cv d t H → W cv d t' H) (hl : 1 = n) (hdb : (x == ("__debug__" : Str)) = false) : PE X (.Call (.Name x p) [] [] pos) (rdE G W cf (.mk ci f [])) := by
  refine PEmon (pe_make0 M hF hr hg hm hb .nil hx hdb) ?_
  rintro t H Q ⟨F, loc, s, S, hS, hE, p⟩
  simp only [evE, evL, Out.bind_ok] at p
  have p1 := post_w (t' := []) hw p
  exact mk_of (t := []) (args := []) (vs := []) ok hS .nil hl p1
end
end
end IP
namespace IP
open PySem PySem.Spec PyProof.Rows L2

/-! ### what a for walks -/
/-- J gives the items xs, from a state on where they are settled -/
structure WkD (G : GC) (J : It) (xs : List PyData) (F0 : Addr → Prop) (H0 : Hp) : Prop where
  go : ∀ i F loc S H, SimS G F loc S H → (∀ a, F0 a → F a) → (∀ a o, F0 a → H0 a = some o → H a = some o) → i < xs.length → J.go i H
  stop : ∀ F loc S H, SimS G F loc S H → (∀ a, F0 a → F a) → (∀ a o, F0 a → H0 a = some o → H a = some o) → J.stop xs.length H
  yld : ∀ i F loc S H x H' p, SimS G F loc S H → (∀ a, F0 a → F a) → (∀ a o, F0 a → H0 a = some o → H a = some o) → xs[i]? = some p → J.yld i H x H' → ∃ F', Nxt G F loc S H F' loc S H' ∧ Rp G.K F' H' x p
abbrev PostI (G : GC) := Post (A := List PyData) (B := It) G (fun F _ _ H xs J => WkD G J xs F H)
def rdI (G : GC) (W : WX) (cf : CallF) (e : IE) : TI := fun t H R => ∃ F loc s S, SimS G F loc S H ∧ SimE G F loc S H s t ∧ PostI G W t F loc S H (itO (evE cf e s S)) R
section
variable {G : GC} {F : Addr → Prop} {H : Hp} {a b : Addr} {xs ys : List V} {ps qs : List PyData}
theorem wk_list (f : F a) (e : H a = some (.lst xs)) (l : RpL G.K F H xs ps) : WkD G (Itl G.K a) ps F H := by
  refine ⟨fun i F1 loc S H1 _ sub kp hi => ?_, fun F1 loc S H1 _ sub kp => ?_, fun i F1 loc S H1 x H' p hS sub kp e1 y => ?_⟩
  · have q : SqL G.K H1 a xs := .inl (.inl (kp a _ f e))
    have hi' : i < xs.length := by rw [l.length]; exact hi
    exact walk_list.goes i H1 hi' q
  · have q : SqL G.K H1 a xs := .inl (.inl (kp a _ f e))
    rw [← l.length]
    exact walk_list.stops H1 q
  · have q : SqL G.K H1 a xs := .inl (.inl (kp a _ f e))
    obtain ⟨rfl, y⟩ := y
    obtain ⟨w, h1, h2⟩ := l.get e1
    have := y xs q
    rw [h1] at this
    cases this
    exact ⟨F1, .refl hS, Rp.mono sub kp h2⟩
theorem wk_tup (r : Rp G.K F H (.ref a) (.tuple ps)) : WkD G (Itt G.K a) ps F H := by
  obtain ⟨xs, st, l⟩ : ∃ xs, (∀ (F1 : Addr → Prop) (H1 : Hp), (∀ a, F a → F1 a) → (∀ a o, F a → H a = some o → H1 a = some o) → SqT G.K H1 a xs) ∧ RpL G.K F H xs ps := by
    cases r with
    | tup f e l => exact ⟨_, fun F1 H1 sub kp => .inl (.inl (kp a _ f e)), l⟩
    | tuw f l => exact ⟨_, fun F1 H1 sub kp => .inr f, l⟩
  refine ⟨fun i F1 loc S H1 _ sub kp hi => ?_, fun F1 loc S H1 _ sub kp => ?_, fun i F1 loc S H1 x H' p hS sub kp e1 y => ?_⟩
  · have hi' : i < xs.length := by rw [l.length]; exact hi
    exact walk_tup.goes i H1 hi' (st F1 H1 sub kp)
  · rw [← l.length]
    exact walk_tup.stops H1 (st F1 H1 sub kp)
  · obtain ⟨rfl, y⟩ := y
    obtain ⟨w, h1, h2⟩ := l.get e1
    have := y xs (st F1 _ sub kp)
    rw [h1] at this
    cases this
    exact ⟨F1, .refl hS, Rp.mono sub kp h2⟩
theorem wk_str {z : Str} : WkD G (Its z) (strItems z) F H := by
  have len : (strItems z).length = z.cps.size := by
    unfold strItems
    rw [List.length_map, Array.length_toList]
  refine ⟨fun i F1 loc S H1 _ sub kp hi => by rw [len] at hi; exact hi, fun F1 loc S H1 _ sub kp => by rw [len]; exact Nat.le_refl _, fun i F1 loc S H1 x H' p hS sub kp e1 y => ?_⟩
  obtain ⟨rfl, c, h1, rfl⟩ := y
  unfold strItems at e1
  rw [List.getElem?_map, Array.getElem?_toList, h1] at e1
  cases e1
  exact ⟨F1, .refl hS, .str _⟩
theorem wk_range {lo hi : Int} {n : Nat} (hn : n = (hi - lo).toNat) : WkD G (Itr lo n) (intRange lo hi) F H := by
  have len : (intRange lo hi).length = n := by
    unfold intRange
    rw [List.length_map, List.length_range, hn]
  refine ⟨fun i F1 loc S H1 _ sub kp hi => by rw [len] at hi; exact hi, fun F1 loc S H1 _ sub kp => by rw [len]; exact Nat.le_refl _, fun i F1 loc S H1 x H' p hS sub kp e1 y => ?_⟩
  obtain ⟨rfl, rfl⟩ := y
  unfold intRange at e1
  rw [List.getElem?_map] at e1
  cases q : (List.range (hi - lo).toNat)[i]? with
  | none => rw [q] at e1; cases e1
  | some j =>
    rw [q] at e1
    cases e1
    have : j = i := by
      obtain ⟨h, e⟩ := List.getElem?_eq_some_iff.mp q
      rw [List.getElem_range] at e
      exact e.symm
    subst this
    exact ⟨F1, .refl hS, .int _⟩
def zipD (ps qs : List PyData) : List PyData := (ps.zip qs).map fun z => .tuple [z.1, z.2]
theorem zipD_len (ps qs : List PyData) : (zipD ps qs).length = min ps.length qs.length := by
  unfold zipD
  rw [List.length_map, List.length_zip]
theorem zipD_get {i : Nat} {p : PyData} (e : (zipD ps qs)[i]? = some p) : ∃ u v, ps[i]? = some u ∧ qs[i]? = some v ∧ p = .tuple [u, v] := by
  unfold zipD at e
  rw [List.getElem?_map] at e
  cases q : (ps.zip qs)[i]? with
  | none => rw [q] at e; cases e
  | some z =>
    rw [q] at e
    cases e
    rw [List.getElem?_zip_eq_some] at q
    exact ⟨z.1, z.2, q.1, q.2, rfl⟩
theorem pair_new {F1 : Addr → Prop} {loc : Nat → Addr} {S : Store} {H1 : Hp} {T : Addr} {x y : V} {u v : PyData} (hS : SimS G F1 loc S H1) (hT : H1 T = none) (r : Rp G.K F1 H1 x u) (r' : Rp G.K F1 H1 y v) :
    ∃ F', Nxt G F1 loc S H1 F' loc S (upd H1 T (.tup [x, y])) ∧ Rp G.K F' (upd H1 T (.tup [x, y])) (.ref T) (.tuple [u, v]) := by
  have n := Nxt.new (o := .tup [x, y]) hS hT
  exact ⟨_, n, .tup (.inr rfl) upd_same (RpL.mono n.sub n.keep (.cons r (.cons r' .nil)))⟩
theorem wk_zip (f : F a) (e : H a = some (.lst xs)) (l : RpL G.K F H xs ps) (f' : F b) (e' : H b = some (.lst ys)) (l' : RpL G.K F H ys qs) : WkD G (Itz G.K a b) (zipD ps qs) F H := by
  have w := walk_zip (K := G.K) (a := a) (b := b) (xs := xs) (ys := ys) (n := (zipD ps qs).length) (by rw [zipD_len, l.length, l'.length])
  refine ⟨fun i F1 loc S H1 _ sub kp hi => ?_, fun F1 loc S H1 _ sub kp => ?_, fun i F1 loc S H1 x H' p hS sub kp e1 y => ?_⟩
  · exact w.goes i H1 hi ⟨.inl (.inl (kp a _ f e)), .inl (.inl (kp b _ f' e'))⟩
  · exact w.stops H1 ⟨.inl (.inl (kp a _ f e)), .inl (.inl (kp b _ f' e'))⟩
  · obtain ⟨u, v, h1, h2, rfl⟩ := zipD_get e1
    obtain ⟨T, x', y', rfl, hT, rfl, k1, k2⟩ := y
    obtain ⟨w1, g1, g2⟩ := l.get h1
    obtain ⟨w2, g3, g4⟩ := l'.get h2
    have k1 := k1 xs (.inl (.inl (kp a _ f e)))
    have k2 := k2 ys (.inl (.inl (kp b _ f' e')))
    rw [g1] at k1
    rw [g3] at k2
    cases k1
    cases k2
    exact pair_new hS hT (Rp.mono sub kp g2) (Rp.mono sub kp g4)
theorem tup_st {ps : List PyData} (r : Rp G.K F H (.ref a) (.tuple ps)) : ∃ xs, (∀ (F1 : Addr → Prop) (H1 : Hp), (∀ a, F a → F1 a) → (∀ a o, F a → H a = some o → H1 a = some o) → SqT G.K H1 a xs) ∧ RpL G.K F H xs ps := by
  cases r with
  | tup f e l => exact ⟨_, fun F1 H1 sub kp => .inl (.inl (kp a _ f e)), l⟩
  | tuw f l => exact ⟨_, fun F1 H1 sub kp => .inr f, l⟩
theorem wk_zipT (r : Rp G.K F H (.ref a) (.tuple ps)) (r' : Rp G.K F H (.ref b) (.tuple qs)) : WkD G (RZ.ItzT G.K a b) (zipD ps qs) F H := by
  obtain ⟨xs, st, l⟩ := tup_st r
  obtain ⟨ys, st', l'⟩ := tup_st r'
  refine ⟨fun i F1 loc S H1 _ sub kp hi => ?_, fun F1 loc S H1 _ sub kp => ?_, fun i F1 loc S H1 x H' p hS sub kp e1 y => ?_⟩
  · have hi : i < (zipD ps qs).length := hi
    rw [zipD_len] at hi
    have h1 : i < xs.length := by rw [l.length]; omega
    have h2 : i < ys.length := by rw [l'.length]; omega
    exact ⟨xs, ys, xs[i], ys[i], st F1 H1 sub kp, st' F1 H1 sub kp, by simp [h1], by simp [h2]⟩
  · refine ⟨xs, ys, st F1 H1 sub kp, st' F1 H1 sub kp, ?_⟩
    rw [zipD_len, l.length, l'.length]
    omega
  · obtain ⟨u, v, h1, h2, rfl⟩ := zipD_get e1
    obtain ⟨T, x', y', rfl, hT, rfl, k1, k2⟩ := y
    obtain ⟨w1, g1, g2⟩ := l.get h1
    obtain ⟨w2, g3, g4⟩ := l'.get h2
    have k1 := k1 xs (st F1 H1 sub kp)
    have k2 := k2 ys (st' F1 H1 sub kp)
    rw [g1] at k1
    rw [g3] at k2
    cases k1
    cases k2
    exact pair_new hS hT (Rp.mono sub kp g2) (Rp.mono sub kp g4)
end
section
variable {X : Cx} {G : GC} {W : WX} {cf : CallF} {a b c e : Expr} {ia ib ic ie : IE} {pos : Pos} {es : List Expr} {ies : List IE} {tg : Expr}
theorem PImon {w w' : TI} (h : PI X tg e w) (m : ∀ s H Q, w' s H Q → w s H Q) : PI X tg e w' := ⟨fun pins s σ H Q I q => h.run pins s σ H Q I (m _ _ _ q)⟩
theorem PIor {w w' : TI} (h : PI X tg e w) (h' : PI X tg e w') : PI X tg e (fun s H Q => w s H Q ∨ w' s H Q) := ⟨fun pins s σ H Q I q => q.elim (fun q => h.run pins s σ H Q I q) fun q => h'.run pins s σ H Q I q⟩
/-- a list, a tuple, a text, walked -/
theorem I_seq (hK : G.K = X.K) (he : PE X e (rdE G W cf ie)) : PI X tg e (rdI G W cf ie) := by
  refine PImon (PIor (pi_list he) (PIor (pi_tup he) (pi_str he))) ?_
  rintro t H Q ⟨F, loc, s, S, hS, hE, p⟩
  cases q : evE cf ie s S with
  | err => rw [q] at p; exact False.elim p
  | exc c fs S1 =>
    rw [q] at p
    refine .inl ⟨F, loc, s, S, hS, hE, ?_⟩
    rw [q]
    exact p
  | ok v S1 =>
    rw [q] at p
    cases v with
    | ref l => exact False.elim p
    | exn c fs => exact False.elim p
    | dat d =>
      cases d with
      | list ps =>
        refine .inl ⟨F, loc, s, S, hS, hE, ?_⟩
        rw [q]
        intro w F1 loc1 H1 n r
        have r : Rp G.K F1 H1 w (.list ps) := r
        cases r with
        | lst f e l => exact ⟨_, rfl, ⟨_, .inl (.inl e)⟩, hK ▸ p _ _ _ _ n (wk_list f e l)⟩
      | tuple ps =>
        refine .inr (.inl ⟨F, loc, s, S, hS, hE, ?_⟩)
        rw [q]
        intro w F1 loc1 H1 n r
        have r : Rp G.K F1 H1 w (.tuple ps) := r
        obtain ⟨l, xs, rfl, h1, _⟩ := look_tup (x := .dat (.tuple ps)) n.sim r rfl
        exact ⟨_, rfl, ⟨_, hK ▸ h1⟩, hK ▸ p _ _ _ _ n (wk_tup r)⟩
      | str z =>
        refine .inr (.inr ⟨F, loc, s, S, hS, hE, ?_⟩)
        rw [q]
        intro w F1 loc1 H1 n r
        have r : Rp G.K F1 H1 w (.str z) := r
        cases r
        exact ⟨_, rfl, p _ _ _ _ n wk_str⟩
      | none => exact False.elim p
      | bool k => exact False.elim p
      | int k => exact False.elim p
      | dict k => exact False.elim p
theorem I_rg1 {p1 : Pos} (hg : Gl X "range") (hm : X.mg "range" = none) (ha : PE X a (rdE G W cf ia)) (hs : starEach [a] X.env = (false, eval a X.env) :: starEach [] X.env) : PI X tg (.Call (.Name "range" p1) [a] [] pos) (rdI G W cf (.rg1 ia)) := by
  refine PImon (pi_range1 hg hm (pa_cons ha pa_nil hs) hs) ?_
  rintro t H Q ⟨F, loc, s, S, hS, hE, p⟩
  simp only [evE] at p
  refine ⟨F, loc, s, S, hS, hE, ?_⟩
  cases q : evE cf ia s S with
  | err => rw [q] at p; exact False.elim p
  | exc c fs S1 => rw [q] at p; exact p
  | ok v S1 =>
    rw [q] at p
    simp only [Out.bind_ok] at p
    intro w F1 loc1 H1 n r
    split at p
    · rename_i j
      have r : Rp G.K F1 H1 w (.int j) := r
      cases r
      split at p
      · rename_i hj
        have := p (Itr 0 j.toNat) F1 loc1 H1 n (wk_range (by rw [Int.sub_zero]))
        exact ⟨j, rfl, (small_lt hj).2, (small_lt hj).1, this⟩
      · exact False.elim p
    · exact False.elim p
theorem I_rg2 {p1 : Pos} (hg : Gl X "range") (hm : X.mg "range" = none) (ha : PE X a (rdE G W cf ia)) (hb : PE X b (rdE G W cf ib)) (hs : starEach [a, b] X.env = (false, eval a X.env) :: starEach [b] X.env) (hs2 : starEach [b] X.env = (false, eval b X.env) :: starEach [] X.env) :
    PI X tg (.Call (.Name "range" p1) [a, b] [] pos) (rdI G W cf (.rg2 ia ib)) := by
  refine PImon (pi_range2 hg hm (pa_cons ha (pa_cons hb pa_nil hs2) hs) (by rw [hs, hs2]; rfl) hs2) ?_
  rintro t H Q ⟨F, loc, s, S, hS, hE, p⟩
  simp only [evE] at p
  unfold itO at p
  refine ⟨F, loc, s, S, hS, hE, ?_⟩
  cases q : evE cf ia s S with
  | err => rw [q] at p; exact False.elim p
  | exc c fs S1 => rw [q] at p; exact p
  | ok v S1 =>
    rw [q] at p
    simp only [Out.bind_ok] at p
    intro w F1 loc1 H1 n r0
    refine ⟨F1, loc1, s, S1, n.sim, hE.next n, ?_⟩
    cases q2 : evE cf ib s S1 with
    | err => rw [q2] at p; exact False.elim p
    | exc c fs S1 => rw [q2] at p; exact Post.step (A := List PyData) (B := It) (R := fun F _ _ H xs J => WkD G J xs F H) (o := .exc c fs S1) (Q := Q) n p
    | ok v2 S2 =>
      rw [q2] at p
      simp only [Out.bind_ok] at p
      intro w2 F2 loc2 H2 n2 r2
      split at p
      · rename_i i j
        have r : Rp G.K F2 H2 w (.int i) := RV.next (v := .dat (.int i)) n2 r0
        have r2 : Rp G.K F2 H2 w2 (.int j) := r2
        cases r
        cases r2
        split at p
        · rename_i hj
          have := p (Itr i (j - i).toNat) F2 loc2 H2 (n.trans n2) (wk_range rfl)
          exact ⟨i, j, rfl, ⟨(small_lt hj.1).2, (small_lt hj.1).1, (small_lt hj.2).2, (small_lt hj.2).1⟩, this⟩
        · exact False.elim p
      · exact False.elim p
end
end IP
/-! enumerate over a tuple, at the level of the model -/
namespace EnT
open PySem
open PySem.Sem (wp)
section
variable {prog : Program} {w : World} {A : Around} {E : Value → Shared → Prop} {s : Shared}
theorem nxt {en ti tu : Addr} {k : Nat} {its : Array Value} {y was : Value} {Q : Value → Shared → Prop} (he : IsEnum s.heap en ti k was) (hi : s.heap.IsTupleIter ti tu k) (ht : s.heap.IsTuple tu its) (hy : its[k]? = some y) (ne : en ≠ ti)
    (fin : ∀ g, IsEnumOut g en ti ((k : Int) + 1) y s.heap.objs.size → g.IsTupleIter ti tu (k + 1) → g.get? s.heap.objs.size = some { cls := .type "tuple", data := .seq #[.int k s.toks, y] } → g.objs.size = s.heap.objs.size + 1 →
      (∀ b o, b ≠ en → b ≠ ti → s.heap.get? b = some o → g.get? b = some o) → Q (.ref s.heap.objs.size) { s with heap := g, toks := s.toks + 1 }) :
    wpAny (model prog w) A (Builtin.«enumerate.__next__» ⟨[.ref en], []⟩) (fun z s' => ∃ v, z = .done (.ret v) ∧ Q v s') E s := by
  obtain ⟨hp, gs, dd, tk, os⟩ := s
  show wpAny _ _ (field (.ref en) 2 >>= _) _ _ _
  refine wpAny_bind (wpAny_field he rfl (x := .ref ti) rfl ?_)
  refine wpAny_bind (RZ.nextOf_tuple_item hi ht hy fun g1 hi1 sb1 => ?_)
  replace sb1 : Heap.SameBut ti hp g1 := sb1
  have he1 : IsEnum g1 en ti k was := (sb1.2 en ne).trans he
  show wpAny _ _ (field (.ref en) 3 >>= _) _ _ ⟨g1, gs, dd, tk, os⟩
  refine wpAny_bind (wpAny_field he1 rfl (x := rawInt k) rfl ?_)
  show wpAny _ _ (field (.ref en) 4 >>= _) _ _ ⟨g1, gs, dd, tk, os⟩
  refine wpAny_bind (wpAny_field he1 rfl (x := .none) rfl ?_)
  show wpAny _ _ (mkInt k >>= _) _ _ ⟨g1, gs, dd, tk, os⟩
  refine wpAny_bind (wpAny_mkInt ?_)
  show wpAny _ _ (setField (.ref en) 3 (rawInt ((k : Int) + 1)) >>= _) _ _ ⟨g1, gs, dd, tk + 1, os⟩
  refine wpAny_bind (wpAny_setField_rec he1 (by simp) fun g2 he2 sb2 => ?_)
  replace sb2 : Heap.SameBut en g1 g2 := sb2
  replace he2 : IsEnum g2 en ti ((k : Int) + 1) was := he2
  show wpAny _ _ (setField (.ref en) 4 .none >>= _) _ _ ⟨g2, gs, dd, tk + 1, os⟩
  refine wpAny_bind (wpAny_setField_rec he2 (by simp) fun g3 he3 sb3 => ?_)
  replace sb3 : Heap.SameBut en g2 g3 := sb3
  replace he3 : IsEnum g3 en ti ((k : Int) + 1) was := he3
  show wpAny _ _ (newTuple [.int k tk, y] >>= _) _ _ ⟨g3, gs, dd, tk + 1, os⟩
  refine wpAny_bind (wpAny_newTuple ?_)
  have he4 : IsEnum (g3.push { cls := .type "tuple", data := .seq #[.int k tk, y] }) en ti ((k : Int) + 1) was := Heap.get?_push_of_some _ he3
  generalize gen : g3.push { cls := .type "tuple", data := .seq #[.int k tk, y] } = g4 at he4
  have sz3 : g3.objs.size = hp.objs.size := by rw [sb3.1, sb2.1, sb1.1]
  have elt : en < hp.objs.size := Heap.lt_size he
  have tu4 : g4.get? hp.objs.size = some { cls := .type "tuple", data := .seq #[.int k tk, y] } := by rw [← gen, ← sz3]; exact Heap.get?_push_size _ rfl
  have sz4 : g4.objs.size = hp.objs.size + 1 := by rw [← gen, Heap.size_push, sz3]
  have kp4 : ∀ b o, b ≠ en → b ≠ ti → hp.get? b = some o → g4.get? b = some o := fun b o be bi hb => by
    rw [← gen]; exact Heap.get?_push_of_some _ (sb3.extBut b o be (sb2.extBut b o be (sb1.extBut b o bi hb)))
  have it4 : g4.IsTupleIter ti tu (k + 1) := by
    rw [← gen]; obtain ⟨o, ho, r⟩ := (hi1.extBut sb2.extBut (Ne.symm ne)).extBut sb3.extBut (Ne.symm ne); exact ⟨o, Heap.get?_push_of_some _ ho, r⟩
  show wpAny _ _ (Builtin.SmallTypes.ownedTupleIsFree (.ref en) >>= _) _ _ ⟨g4, gs, dd, tk + 1, os⟩
  rw [sz3]
  clear gen he3 sb3 he2 sb2 he1 sb1 hi1 sz3 g3 g2 g1
  refine wpAny_bind ?_
  unfold Builtin.SmallTypes.ownedTupleIsFree
  refine wpAny_bind (wpAny_field he4 rfl (x := .none) rfl (wpAny_pure ?_))
  simp only [if_true]
  refine wpAny_bind (wpAny_rule ?_)
  refine wpAny_bind (wpAny_field he4 rfl (x := was) rfl ?_)
  refine wpAny_bind (wpAny_setField_rec he4 (by simp) fun g5 he5 sb5 => ?_)
  replace sb5 : Heap.SameBut en g4 g5 := sb5
  replace he5 : IsEnum g5 en ti ((k : Int) + 1) y := he5
  show wpAny _ _ (Builtin.SmallTypes.ownedTupleHandOut (.ref en) (.ref hp.objs.size) >>= _) _ _ ⟨g5, gs, dd, tk + 1, os⟩
  refine wpAny_bind ?_
  unfold Builtin.SmallTypes.ownedTupleHandOut
  refine wpAny_bind (wpAny_setField_rec he5 (by simp) fun g6 he6 sb6 => ?_)
  replace sb6 : Heap.SameBut en g5 g6 := sb6
  replace he6 : IsEnumOut g6 en ti ((k : Int) + 1) y hp.objs.size := he6
  refine wpAny_setField_rec he6 (by simp) fun g7 he7 sb7 => ?_
  replace sb7 : Heap.SameBut en g6 g7 := sb7
  replace he7 : IsEnumOut g7 en ti ((k : Int) + 1) y hp.objs.size := he7
  refine wpAny_bind (wpAny_letGo (wpAny_pure ⟨_, rfl, fin g7 he7 ?_ ?_ ?_ ?_⟩))
  · exact ((it4.extBut sb5.extBut (Ne.symm ne)).extBut sb6.extBut (Ne.symm ne)).extBut sb7.extBut (Ne.symm ne)
  · exact sb7.extBut _ _ (Nat.ne_of_gt elt) (sb6.extBut _ _ (Nat.ne_of_gt elt) (sb5.extBut _ _ (Nat.ne_of_gt elt) tu4))
  · rw [sb7.1, sb6.1, sb5.1, sz4]
  · exact fun b o be bi hb => sb7.extBut b o be (sb6.extBut b o be (sb5.extBut b o be (kp4 b o be bi hb)))
theorem item {en ti tu : Addr} {k : Nat} {its : Array Value} {y was : Value} {Q : Option Value → Shared → Prop} (he : IsEnum s.heap en ti k was) (hi : s.heap.IsTupleIter ti tu k) (ht : s.heap.IsTuple tu its) (hy : its[k]? = some y) (ne : en ≠ ti)
    (fin : ∀ g, IsEnumOut g en ti ((k : Int) + 1) y s.heap.objs.size → g.IsTupleIter ti tu (k + 1) → g.get? s.heap.objs.size = some { cls := .type "tuple", data := .seq #[.int k s.toks, y] } → g.objs.size = s.heap.objs.size + 1 →
      (∀ b o, b ≠ en → b ≠ ti → s.heap.get? b = some o → g.get? b = some o) → Q (some (.ref s.heap.objs.size)) { s with heap := g, toks := s.toks + 1 }) :
    wpAny (model prog w) A (pyNext (.ref en)) Q E s := by
  have ty : s.TypeIs (.ref en) "enumerate" := ⟨_, he, rfl⟩
  unfold pyNext
  refine wpAny_bind (wpAny_attempt (wpAny_callSpecial?_slot (name := Str.ofString "__next__") ty F.slot_enumerate_next (wpAny_call_entry F.slot_enumerate_next ty F.entry_enumerate_next ?_ (F.args_enumerate_next_1 _))))
  exact nxt he hi ht hy ne fun g a b c d k => wpAny_pure (fin g a b c d k)
theorem fin {en ti tu : Addr} {k : Nat} {its : Array Value} {was : Value} {Q : Option Value → Shared → Prop} (hh : A.handled = none) (he : IsEnum s.heap en ti k was) (hi : s.heap.IsTupleIter ti tu k) (ht : s.heap.IsTuple tu its) (hy : its[k]? = none)
    (fin : ∀ g, Heap.ExtBut ti s.heap g → Q none { s with heap := g }) : wpAny (model prog w) A (pyNext (.ref en)) Q E s := by
  have ty : s.TypeIs (.ref en) "enumerate" := ⟨_, he, rfl⟩
  unfold pyNext
  refine wpAny_bind (wpAny_attempt (wpAny_callSpecial?_slot (name := Str.ofString "__next__") ty F.slot_enumerate_next (wpAny_call_entry F.slot_enumerate_next ty F.entry_enumerate_next ?_ (F.args_enumerate_next_1 _))))
  show wpAny _ _ (field (.ref en) 2 >>= _) _ _ _
  refine wpAny_bind (wpAny_field he rfl (x := .ref ti) rfl ?_)
  refine wpAny_bind (RZ.nextOf_tuple_end hh hi ht hy fun g x eb ⟨o, ho, hc⟩ => ?_)
  exact wpAny_bind (wpAny_isInstance (T := "StopIteration") (b := true) ⟨o, ho, hc⟩ isSubtype_stop (wpAny_pure (fin _ eb)))
end
theorem meets_new (tu : Addr) (its : Array Value) : Meets (Builtin.«enumerate.__new__» ⟨[.type "enumerate", .ref tu], []⟩) (fun _ R s => s.heap.IsTuple tu its ∧
      R (.ok (.ret (.ref (s.heap.push { cls := .type "tuple_iterator", data := .fields #[.ref tu, .int 0 0] }).objs.size)))
        { s with heap := (s.heap.push { cls := .type "tuple_iterator", data := .fields #[.ref tu, .int 0 0] }).push { cls := .type "enumerate", data := .fields #[.none, .bool false, .ref s.heap.objs.size, rawInt 0, .none, .none] } }) :=
  .of_wp fun prog w A R s h => by
    obtain ⟨hp, gs, dd, tk, os⟩ := s
    obtain ⟨ht, h⟩ := h
    have hsub := sub_enumerate
    have hT : Heap.IsTuple (Shared.heap ⟨hp, gs, dd, tk, os⟩) tu its := ht
    wp_walk using wpAny_pyIter_tuple hT
    refine wpAny_stack_any fun st => wpAny_pure ?_
    split
    · rename_i c _ _ _ _ _
      cases (c == Value.type "enumerate")
      · wp_walk using wpAny_pyIter_tuple hT
        exact ⟨_, rfl, h⟩
      · wp_walk using wpAny_pyIter_tuple hT
        exact ⟨_, rfl, h⟩
    · wp_walk using wpAny_pyIter_tuple hT
      exact ⟨_, rfl, h⟩
section
variable {prog : Program} {w : World} {A : Around} {E : Value → Shared → Prop} {s : Shared}
theorem make {tu : Addr} {its : Array Value} {Q : Value → Shared → Prop} (ht : s.heap.IsTuple tu its)
    (h : ∀ g, IsEnum g (s.heap.objs.size + 1) s.heap.objs.size 0 .none → g.IsTupleIter s.heap.objs.size tu 0 → g.objs.size = s.heap.objs.size + 2 → (∀ b o, s.heap.get? b = some o → g.get? b = some o) → Q (.ref (s.heap.objs.size + 1)) { s with heap := g }) :
    wpAny (model prog w) A (call (.type "enumerate") [.ref tu]) Q E s := by
  refine callType_new F.called_enumerate (by decide) (F.typeCall_enumerate_1 _) (F.newCall_enumerate_1 _) (fun ob => F.args_object_init_2 ob _) F.entry_enumerate_new (meets_new tu its) ⟨ht, ?_⟩
  have z1 : (s.heap.push { cls := .type "tuple_iterator", data := .fields #[.ref tu, .int 0 0] }).objs.size = s.heap.objs.size + 1 := Heap.size_push ..
  have g1 := Heap.get?_push_size (s.heap.push { cls := .type "tuple_iterator", data := .fields #[.ref tu, .int 0 0] }) (o := { cls := .type "enumerate", data := .fields #[.none, .bool false, .ref s.heap.objs.size, rawInt 0, .none, .none] }) rfl
  show _ ∧ _
  rw [z1] at g1 ⊢
  exact ⟨⟨_, g1, rfl⟩, h _ g1 ⟨_, Heap.get?_push_of_some _ (Heap.get?_push_size _ rfl), rfl, rfl⟩ (by rw [Heap.size_push, z1]) fun b o x => Heap.get?_push_of_some _ (Heap.get?_push_of_some _ x)⟩
end
open PySem.Spec PyProof.Rows L2
def It_ (K : PySem.W.Frag) (a : Addr) : It :=
  ⟨fun i H => ∃ (xs : List V) (x : V), SqT K H a xs ∧ xs[i]? = some x, fun i H v H' => ∃ T x, v = .ref T ∧ H T = none ∧ H' = upd H T (.tup [.int (i : Nat), x]) ∧ ∀ zs, SqT K H a zs → zs[i]? = some x, fun i H => ∃ xs : List V, SqT K H a xs ∧ xs.length ≤ i⟩
theorem turn {P : Program} {w : World} {K : PySem.W.Frag} {elts : List Expr} {kk : Nat} {tpos : Pos} (a e it : Addr) :
    Turn P w K (.Tuple elts kk tpos) (It_ K a) [e, it] e (fun i h => (∃ was, IsEnum h e it ((i : Nat) : Int) was) ∧ h.IsTupleIter it a i ∧ e ≠ it) where
  mem := by simp
  obj := fun i h st b hb => by
    obtain ⟨⟨was, he⟩, ⟨o, ho, hc, hd⟩, _⟩ := st
    rcases (show b = e ∨ b = it by simpa using hb) with z | z
    · subst z; exact ⟨_, he, fun v q => nomatch q⟩
    · subst z; exact ⟨o, ho, fun v q => by rw [hd] at q; cases q⟩
  keep := fun i h h' ⟨⟨was, he⟩, hi, ne⟩ k => ⟨⟨was, k e (by simp) _ he⟩, hi.at fun o q => k it (by simp) o q, ne⟩
  item := by
    intro X hP hw hK hc i pins s σ H E I hf st hg
    subst hP hw hK
    obtain ⟨⟨was, he⟩, hit, ne⟩ := st
    obtain ⟨xs, x, hq, hx⟩ := hg
    obtain ⟨its, rv, p, hz⟩ := I.tuple hq
    obtain ⟨u, hu, ru⟩ := rv.get hx
    have el : e < s.heap.objs.size := Heap.lt_size he
    have il : it < s.heap.objs.size := by obtain ⟨_, q, _⟩ := hit; exact Heap.lt_size q
    refine EnT.item he hit p (y := u) (by simpa using hu) ne fun g ho hit' hT hsz hk => ?_
    refine ⟨_, rfl, wpAny_letOwnedTupleGo_enum (s := { s with heap := g, toks := s.toks + 1 }) ho fun g2 he2 sb => ?_⟩
    have hT2 : g2.get? s.heap.objs.size = some { cls := .type "tuple", data := .seq #[.int i s.toks, u] } := (sb.2 _ (Nat.ne_of_gt el)).trans hT
    have new : ObjOk X.prog X.w (upd H s.heap.objs.size (.tup [.int (i : Nat), x])) g2 s.heap.objs.size (.tup [.int (i : Nat), x]) := ⟨by show 2 ≤ sizeLine; decide, [.int i s.toks, u], .cons ⟨_, rfl⟩ (.cons ru .nil), ⟨_, hT2, rfl, _, rfl⟩⟩
    have I1 : Inv X pins σ (upd H s.heap.objs.size (.tup [.int (i : Nat), x])) { s with heap := g2, toks := s.toks + 1 } :=
      I.turnedNew (ch := [e, it]) (fun b ob hb q => (sb.2 b (fun z => hb (by simp [z]))).trans (hk b ob (fun z => hb (by simp [z])) (fun z => hb (by simp [z])) q)) hf (Nat.le_refl _) new
    refine ⟨.ref s.heap.objs.size, _, I1, rfl, ⟨_, x, rfl, I.hok.fresh (Nat.le_refl _), rfl, fun zs hy => by rw [I.tuple_inj hy hq]; exact hx⟩, ⟨⟨u, ?_⟩, hit'.at fun o q => (sb.2 it (Ne.symm ne)).trans q, ne⟩, fun b hb => ?_⟩
    · rw [show ((i + 1 : Nat) : Int) = (i : Int) + 1 by omega]; exact he2
    · have lt : b < s.heap.objs.size := by
        rcases (show b = e ∨ b = it by simpa using hb) with z | z
        · rw [z]; exact el
        · rw [z]; exact il
      rw [upd_ne (Nat.ne_of_lt lt)]
      exact (hf b hb).1
  done := by
    intro X hP hw hK hc i pins s σ H E I hf st hg
    subst hP hw hK
    obtain ⟨⟨was, he⟩, hit, ne⟩ := st
    obtain ⟨xs, hq, hx⟩ := hg
    obtain ⟨its, rv, p, hz⟩ := I.tuple hq
    obtain ⟨f0, f1, f2, f3, f4, f5⟩ := hf it (by simp)
    have ll := rv.length
    exact EnT.fin (I.ok.hd hc) he hit p (by simp; omega) fun g eb => ⟨rfl, I.turned (t' := s.toks) (fun b o hb q => eb b o hb q) f0 f1 f3 f4 f5⟩
  self := fun A i s Q E st h => let ⟨⟨_, he⟩, _⟩ := st; wpAny_pyIter_enum he h
def iE (K : PySem.W.Frag) (ta : TA) : TI := fun σ H R => ta σ H fun vs H1 => ∃ a xs, vs = [.ref a] ∧ SqT K H1 a xs ∧ R (It_ K a) H1
theorem pi {X : Cx} {e : Expr} {ta : TA} {p pos tpos : Pos} {elts : List Expr} {kk : Nat} (hg : Gl X "enumerate") (hm : X.mg "enumerate" = none) (ha : PA X [e] ta) (hs : starEach [e] X.env = [(false, eval e X.env)] := by rfl) :
    PI X (.Tuple elts kk tpos) (.Call (.Name "enumerate" p) [e] [] pos) (iE X.K ta) := by
  refine ⟨fun pins s σ H R I h => ?_⟩
  refine Call_ (ld_blt I hg hm boot_enumerate (PyProof.Rows.callWith_type1 (thn (ha.run pos pins s σ H _ I h) fun us s1 ⟨vs, H1, I1, r1, q1⟩ => ?_) hs rfl))
  obtain ⟨a, xs, ex, hq, q⟩ := q1
  subst ex
  cases r1 with
  | cons r rr =>
    cases rr
    cases r
    obtain ⟨its, rv, p', hz⟩ := I1.tuple hq
    refine EnT.make p' fun g he hit hsz hk => wpAny_pyIter_enum he ?_
    have I2 : Inv X pins σ H1 { s1 with heap := g } := I1.kept (t' := s1.toks) hk
    refine ⟨s1.heap.objs.size + 1, [s1.heap.objs.size + 1, s1.heap.objs.size], _, _, H1, rfl, I2, EnT.turn a (s1.heap.objs.size + 1) s1.heap.objs.size, ⟨⟨.none, he⟩, hit, Nat.succ_ne_self _⟩, fun b hb => ?_, q⟩
    have le : s1.heap.objs.size ≤ b := by
      rcases (show b = s1.heap.objs.size + 1 ∨ b = s1.heap.objs.size by simpa using hb) with z | z
      · rw [z]; exact Nat.le_add_right _ _
      · rw [z]; exact Nat.le_refl _
    exact I1.fpOk le (I1.hok.fresh le)
end EnT
namespace IP
open PySem PySem.Spec PyProof.Rows L2

section
variable {X : Cx} {G : GC} {W : WX} {cf : CallF} {a b c e : Expr} {ia ib ic ie : IE} {pos tpos : Pos} {es : List Expr} {ies : List IE} {tg : Expr}
theorem I_zip {p1 : Pos} {elts : List Expr} {kk : Nat} (hK : G.K = X.K) (hg : Gl X "zip") (hm : X.mg "zip" = none) (ha : PE X a (rdE G W cf ia)) (hb : PE X b (rdE G W cf ib)) (hs : starEach [a, b] X.env = (false, eval a X.env) :: starEach [b] X.env) (hs2 : starEach [b] X.env = (false, eval b X.env) :: starEach [] X.env) :
    PI X (.Tuple elts kk tpos) (.Call (.Name "zip" p1) [a, b] [] pos) (rdI G W cf (.zip ia ib)) := by
  refine PImon (RZ.pi_zipA hg hm (pa_cons ha (pa_cons hb pa_nil hs2) hs) hs (by rw [hs2]; rfl)) ?_
  rintro t H Q ⟨F, loc, s, S, hS, hE, p⟩
  simp only [evE] at p
  unfold itO at p
  refine ⟨F, loc, s, S, hS, hE, ?_⟩
  cases q : evE cf ia s S with
  | err => rw [q] at p; exact False.elim p
  | exc c fs S1 => rw [q] at p; exact p
  | ok v S1 =>
    rw [q] at p
    simp only [Out.bind_ok] at p
    intro w F1 loc1 H1 n r0
    refine ⟨F1, loc1, s, S1, n.sim, hE.next n, ?_⟩
    cases q2 : evE cf ib s S1 with
    | err => rw [q2] at p; exact False.elim p
    | exc c fs S1 => rw [q2] at p; exact Post.step (A := List PyData) (B := It) (R := fun F _ _ H xs J => WkD G J xs F H) (o := .exc c fs S1) (Q := Q) n p
    | ok v2 S2 =>
      rw [q2] at p
      simp only [Out.bind_ok] at p
      intro w2 F2 loc2 H2 n2 r2
      split at p
      · rename_i xs ys
        have r : Rp G.K F2 H2 w (.list xs) := RV.next (v := .dat (.list xs)) n2 r0
        have r2 : Rp G.K F2 H2 w2 (.list ys) := r2
        cases r with
        | lst f e l =>
          cases r2 with
          | lst f' e' l' =>
            have := p _ F2 loc2 H2 (n.trans n2) (wk_zip f e l f' e' l')
            exact ⟨_, _, _, _, rfl, .inl ⟨.inl (.inl e), .inl (.inl e'), hK ▸ this⟩⟩
      · rename_i xs ys
        have r : Rp G.K F2 H2 w (.tuple xs) := RV.next (v := .dat (.tuple xs)) n2 r0
        have r2 : Rp G.K F2 H2 w2 (.tuple ys) := r2
        obtain ⟨l, us, rfl, h1, _⟩ := look_tup (x := .dat (.tuple xs)) n2.sim r rfl
        obtain ⟨m, ws, rfl, h2, _⟩ := look_tup (x := .dat (.tuple ys)) n2.sim r2 rfl
        have := p _ F2 loc2 H2 (n.trans n2) (wk_zipT r r2)
        exact ⟨_, _, _, _, rfl, .inr ⟨hK ▸ h1, hK ▸ h2, hK ▸ this⟩⟩
      · exact False.elim p
end

/-! ### enumerate -/
def enD (ps : List PyData) : List PyData := ps.zipIdx.map fun z => .tuple [.int z.2, z.1]
theorem enD_get {ps : List PyData} {i : Nat} {p : PyData} (e : (enD ps)[i]? = some p) : ∃ u, ps[i]? = some u ∧ p = .tuple [.int (i : Nat), u] := by
  unfold enD at e
  rw [List.getElem?_map, List.getElem?_zipIdx] at e
  cases q : ps[i]? with
  | none => rw [q] at e; cases e
  | some u =>
    rw [q] at e
    simp at e
    exact ⟨u, rfl, e.symm⟩
theorem enD_len (ps : List PyData) : (enD ps).length = ps.length := by
  unfold enD
  rw [List.length_map, List.length_zipIdx]
section
variable {G : GC} {F : Addr → Prop} {H : Hp} {a : Addr} {xs : List V} {ps : List PyData}
theorem wk_enL (f : F a) (e : H a = some (.lst xs)) (l : RpL G.K F H xs ps) : WkD G (Ite G.K a) (enD ps) F H := by
  have st : ∀ (F1 : Addr → Prop) (H1 : Hp), (∀ a o, F a → H a = some o → H1 a = some o) → SqL G.K H1 a xs := fun F1 H1 kp => .inl (.inl (kp a _ f e))
  refine ⟨fun i F1 loc S H1 _ sub kp hi => ?_, fun F1 loc S H1 _ sub kp => ?_, fun i F1 loc S H1 x H' p hS sub kp e1 y => ?_⟩
  · rw [enD_len] at hi
    have h1 : i < xs.length := by rw [l.length]; exact hi
    exact ⟨xs, xs[i], st F1 H1 kp, by simp [h1]⟩
  · exact ⟨xs, st F1 H1 kp, by rw [enD_len, l.length]; exact Nat.le_refl _⟩
  · obtain ⟨u, h1, rfl⟩ := enD_get e1
    obtain ⟨T, x', rfl, hT, rfl, k1⟩ := y
    obtain ⟨w1, g1, g2⟩ := l.get h1
    have k1 := k1 xs (st F1 _ kp)
    rw [g1] at k1
    cases k1
    exact pair_new hS hT (.int _) (Rp.mono sub kp g2)
theorem wk_enT (r : Rp G.K F H (.ref a) (.tuple ps)) : WkD G (EnT.It_ G.K a) (enD ps) F H := by
  obtain ⟨xs, st, l⟩ := tup_st r
  refine ⟨fun i F1 loc S H1 _ sub kp hi => ?_, fun F1 loc S H1 _ sub kp => ?_, fun i F1 loc S H1 x H' p hS sub kp e1 y => ?_⟩
  · rw [enD_len] at hi
    have h1 : i < xs.length := by rw [l.length]; exact hi
    exact ⟨xs, xs[i], st F1 H1 sub kp, by simp [h1]⟩
  · exact ⟨xs, st F1 H1 sub kp, by rw [enD_len, l.length]; exact Nat.le_refl _⟩
  · obtain ⟨u, h1, rfl⟩ := enD_get e1
    obtain ⟨T, x', rfl, hT, rfl, k1⟩ := y
    obtain ⟨w1, g1, g2⟩ := l.get h1
    have k1 := k1 xs (st F1 _ sub kp)
    rw [g1] at k1
    cases k1
    exact pair_new hS hT (.int _) (Rp.mono sub kp g2)
end
section
variable {X : Cx} {G : GC} {W : WX} {cf : CallF} {a : Expr} {ia : IE} {pos tpos p1 : Pos} {elts : List Expr} {kk : Nat}
theorem I_enu (hK : G.K = X.K) (hg : Gl X "enumerate") (hm : X.mg "enumerate" = none) (ha : PE X a (rdE G W cf ia)) (hs : starEach [a] X.env = [(false, eval a X.env)]) :
    PI X (.Tuple elts kk tpos) (.Call (.Name "enumerate" p1) [a] [] pos) (rdI G W cf (.enu ia)) := by
  refine PImon (PIor (pi_enum hg hm (pa_cons ha pa_nil hs) hs) (EnT.pi hg hm (pa_cons ha pa_nil hs) hs)) ?_
  rintro t H Q ⟨F, loc, s, S, hS, hE, p⟩
  simp only [evE] at p
  unfold itO at p
  cases q : evE cf ia s S with
  | err => rw [q] at p; exact False.elim p
  | exc c fs S1 =>
    rw [q] at p
    refine .inl ⟨F, loc, s, S, hS, hE, ?_⟩
    rw [q]
    exact p
  | ok v S1 =>
    rw [q] at p
    simp only [Out.bind_ok] at p
    cases v with
    | ref l => exact False.elim p
    | exn c fs => exact False.elim p
    | dat d =>
      cases d with
      | list ps =>
        refine .inl ⟨F, loc, s, S, hS, hE, ?_⟩
        rw [q]
        intro w F1 loc1 H1 n r
        have r : Rp G.K F1 H1 w (.list ps) := r
        cases r with
        | lst f e l => exact ⟨_, _, rfl, .inl (.inl e), hK ▸ p _ F1 loc1 H1 n (wk_enL f e l)⟩
      | tuple ps =>
        refine .inr ⟨F, loc, s, S, hS, hE, ?_⟩
        rw [q]
        intro w F1 loc1 H1 n r
        have r : Rp G.K F1 H1 w (.tuple ps) := r
        obtain ⟨l, us, rfl, h1, _⟩ := look_tup (x := .dat (.tuple ps)) n.sim r rfl
        exact ⟨_, _, rfl, hK ▸ h1, hK ▸ p _ F1 loc1 H1 n (wk_enT r)⟩
      | _ => exact False.elim p
end

/-! ### reversed -/
section
variable {G : GC} {F : Addr → Prop} {H : Hp} {a : Addr} {xs : List V} {ps : List PyData}
theorem rv_get {i : Nat} {p : PyData} (e : ps.reverse[i]? = some p) : ps[ps.length - 1 - i]? = some p := by
  have h := (List.getElem?_eq_some_iff.mp e).1
  rw [List.length_reverse] at h
  rw [List.getElem?_reverse h] at e
  exact e
theorem wk_rvL (f : F a) (e : H a = some (.lst xs)) (l : RpL G.K F H xs ps) : WkD G (Itv G.K a xs.length) ps.reverse F H := by
  have st : ∀ (F1 : Addr → Prop) (H1 : Hp), (∀ a o, F a → H a = some o → H1 a = some o) → SqL G.K H1 a xs := fun F1 H1 kp => .inl (.inl (kp a _ f e))
  refine ⟨fun i F1 loc S H1 _ sub kp hi => ?_, fun F1 loc S H1 _ sub kp => ?_, fun i F1 loc S H1 x H' p hS sub kp e1 y => ?_⟩
  · rw [List.length_reverse] at hi
    have h1 : i < xs.length := by rw [l.length]; exact hi
    have h2 : xs.length - 1 - i < xs.length := by omega
    exact ⟨h1, xs, xs[xs.length - 1 - i], st F1 H1 kp, by simp [h2]⟩
  · show xs.length ≤ ps.reverse.length
    rw [List.length_reverse, l.length]
    exact Nat.le_refl _
  · have h1 := rv_get e1
    obtain ⟨rfl, k1⟩ := y
    obtain ⟨w1, g1, g2⟩ := l.get h1
    have k1 := k1 xs (st F1 _ kp)
    rw [l.length, g1] at k1
    cases k1
    exact ⟨F1, .refl hS, Rp.mono sub kp g2⟩
theorem wk_rvT (r : Rp G.K F H (.ref a) (.tuple ps)) : ∃ xs, SqT G.K H a xs ∧ WkD G (RT.ItvT G.K a xs.length) ps.reverse F H := by
  obtain ⟨xs, st, l⟩ := tup_st r
  refine ⟨xs, st F H (fun _ h => h) (fun _ _ _ h => h), fun i F1 loc S H1 _ sub kp hi => ?_, fun F1 loc S H1 _ sub kp => ?_, fun i F1 loc S H1 x H' p hS sub kp e1 y => ?_⟩
  · rw [List.length_reverse] at hi
    have h1 : i < xs.length := by rw [l.length]; exact hi
    have h2 : xs.length - 1 - i < xs.length := by omega
    exact ⟨h1, xs, xs[xs.length - 1 - i], st F1 H1 sub kp, by simp [h2]⟩
  · show xs.length ≤ ps.reverse.length
    rw [List.length_reverse, l.length]
    exact Nat.le_refl _
  · have h1 := rv_get e1
    obtain ⟨rfl, k1⟩ := y
    obtain ⟨w1, g1, g2⟩ := l.get h1
    have k1 := k1 xs (st F1 _ sub kp)
    rw [l.length, g1] at k1
    cases k1
    exact ⟨F1, .refl hS, Rp.mono sub kp g2⟩
end
section
variable {X : Cx} {G : GC} {W : WX} {cf : CallF} {a : Expr} {ia : IE} {pos p1 : Pos} {tg : Expr}
theorem I_rvd (hK : G.K = X.K) (hg : Gl X "reversed") (hm : X.mg "reversed" = none) (ha : PE X a (rdE G W cf ia)) (hs : starEach [a] X.env = (false, eval a X.env) :: starEach [] X.env) :
    PI X tg (.Call (.Name "reversed" p1) [a] [] pos) (rdI G W cf (.rvd ia)) := by
  refine PImon (RT.pi_revA hg hm ha hs) ?_
  rintro t H Q ⟨F, loc, s, S, hS, hE, p⟩
  simp only [evE] at p
  unfold itO at p
  refine ⟨F, loc, s, S, hS, hE, ?_⟩
  cases q : evE cf ia s S with
  | err => rw [q] at p; exact False.elim p
  | exc c fs S1 => rw [q] at p; exact p
  | ok v S1 =>
    rw [q] at p
    simp only [Out.bind_ok] at p
    intro w F1 loc1 H1 n r
    cases v with
    | ref l => exact False.elim p
    | exn c fs => exact False.elim p
    | dat d =>
      cases d with
      | list ps =>
        have r : Rp G.K F1 H1 w (.list ps) := r
        cases r with
        | lst f e l => exact ⟨_, _, rfl, .inl ⟨.inl (.inl e), hK ▸ p _ F1 loc1 H1 n (wk_rvL f e l)⟩⟩
      | tuple ps =>
        have r : Rp G.K F1 H1 w (.tuple ps) := r
        obtain ⟨l, us, rfl, h1, _⟩ := look_tup (x := .dat (.tuple ps)) n.sim r rfl
        obtain ⟨xs, h2, wk⟩ := wk_rvT r
        exact ⟨_, xs, rfl, .inr ⟨hK ▸ h2, hK ▸ p _ F1 loc1 H1 n wk⟩⟩
      | _ => exact False.elim p
end

/-! ### targets of names -/
mutual
def gOf (K : PySem.W.Frag) : Pt → TG
  | .nm i => gName i
  | .tp ps => gTup K ps.length (gsOf K ps)
def gsOf (K : PySem.W.Frag) : List Pt → TGs
  | [] => gNil
  | p :: ps => gCons (gOf K p) (gsOf K ps)
end
mutual
def slots : Pt → List Nat
  | .nm i => [i]
  | .tp ps => slotss ps
def slotss : List Pt → List Nat
  | [] => []
  | p :: ps => slots p ++ slotss ps
end
theorem wipe_at (t : L2.St) : ∀ (vs : List Nat) (i : Nat), (wipe t vs)[i]? = if i ∈ vs then t[i]?.map (fun _ => none) else t[i]?
  | [], i => by simp [wipe]
  | v :: vs, i => by
    unfold wipe
    have ih := wipe_at t vs i
    by_cases h : v = i
    · subst h
      rw [if_pos (List.mem_cons_self)]
      by_cases hl : v < (wipe t vs).length
      · rw [List.getElem?_set_self hl]
        rw [wipe_length] at hl
        rw [List.getElem?_eq_getElem hl]
        rfl
      · rw [List.getElem?_eq_none (by rw [List.length_set]; omega)]
        rw [wipe_length] at hl
        rw [List.getElem?_eq_none (by omega)]
        rfl
    · rw [List.getElem?_set_ne h, ih]
      have : (i ∈ v :: vs) ↔ i ∈ vs := by
        rw [List.mem_cons]
        exact ⟨fun z => z.elim (fun z => absurd z.symm h) id, .inr⟩
      by_cases hm : i ∈ vs
      · rw [if_pos hm, if_pos (this.mpr hm)]
      · rw [if_neg hm, if_neg fun z => hm (this.mp z)]
theorem wipe_same {t t' : L2.St} {vs : List Nat} (hl : t'.length = t.length) (h : ∀ i, i ∉ vs → t'[i]? = t[i]?) : wipe t' vs = wipe t vs := by
  apply List.ext_getElem?
  intro i
  rw [wipe_at, wipe_at]
  by_cases hm : i ∈ vs
  · rw [if_pos hm, if_pos hm]
    by_cases hi : i < t.length
    · rw [List.getElem?_eq_getElem hi, List.getElem?_eq_getElem (by omega : i < t'.length)]
      rfl
    · rw [List.getElem?_eq_none (by omega), List.getElem?_eq_none (by omega)]
  · rw [if_neg hm, if_neg hm]
    exact h i hm
theorem wipe_wipe {t : L2.St} {vs : List Nat} : wipe (wipe t vs) vs = wipe t vs := by
  apply wipe_same (wipe_length t vs)
  intro i hi
  rw [wipe_at, if_neg hi]
section
variable {G : GC} {F : Addr → Prop} {loc : Nat → Addr} {S : Store} {H : Hp}
theorem SimE.set {s : Env} {t : L2.St} (e : SimE G F loc S H s t) {i : Nat} {v : Val} {w : V} (r : RV G F loc S H v w) : SimE G F loc S H (s.set i (some v)) (t.set i (some w)) := by
  refine ⟨by rw [List.length_set, List.length_set]; exact e.len, fun j u h => ?_⟩
  by_cases q : i = j
  · subst q
    by_cases hl : i < s.length
    · rw [List.getElem?_set_self hl] at h
      cases h
      exact ⟨w, by rw [List.getElem?_set_self (by rw [← e.len]; exact hl)], r⟩
    · rw [List.getElem?_eq_none (by rw [List.length_set]; omega)] at h
      cases h
  · rw [List.getElem?_set_ne q] at h ⊢
    exact e.at_ j u h
theorem SimE.unset {s : Env} {t : L2.St} (e : SimE G F loc S H s t) {i : Nat} : SimE G F loc S H (s.set i none) (t.set i none) := by
  refine ⟨by rw [List.length_set, List.length_set]; exact e.len, fun j u h => ?_⟩
  by_cases q : i = j
  · subst q
    by_cases hl : i < s.length
    · rw [List.getElem?_set_self hl] at h
      cases h
    · rw [List.getElem?_eq_none (by rw [List.length_set]; omega)] at h
      cases h
  · rw [List.getElem?_set_ne q] at h ⊢
    exact e.at_ j u h
theorem SimE.wipe {s : Env} {t : L2.St} (e : SimE G F loc S H s t) : ∀ vs : List Nat, SimE G F loc S H (wipeE s vs) (L2.wipe t vs)
  | [] => e
  | v :: vs => (SimE.wipe e vs).unset
mutual
theorem gOf_ok {W : WX} {Q : L2.St → Hp → Prop} : ∀ (p : Pt) {v : Val} {w : V} {s s' : Env} {t : L2.St}, SimE G F loc S H s t → SimS G F loc S H → RV G F loc S H v w → bindPt p v s = some s' →
    (∀ t', SimE G F loc S H s' t' → t'.length = t.length → (∀ i, i ∉ slots p → t'[i]? = t[i]?) → Q t' H) → gOf G.K p w t H Q
  | .nm i, v, w, s, s', t, hE, hS, r, e, k => by
    simp only [bindPt] at e
    split at e
    · cases e
      refine k _ (hE.set r) List.length_set fun j hj => ?_
      have : i ≠ j := fun z => hj (by unfold slots; rw [z]; exact List.mem_singleton.mpr rfl)
      rw [List.getElem?_set_ne this]
    · cases e
  | .tp ps, .dat (.tuple xs), w, s, s', t, hE, hS, r, e, k => by
    simp only [bindPt] at e
    obtain ⟨l, us, rfl, h1, h2⟩ := look_tup (x := .dat (.tuple xs)) hS r rfl
    have len : ps.length = xs.length := bindPts_len e
    exact ⟨l, us, rfl, h1, by rw [h2.length, len], gsOf_ok (W := W) ps hE hS h2 e k⟩
  | .tp ps, .dat .none, w, s, s', t, hE, hS, r, e, k => by simp only [bindPt] at e; cases e
  | .tp ps, .dat (.bool _), w, s, s', t, hE, hS, r, e, k => by simp only [bindPt] at e; cases e
  | .tp ps, .dat (.int _), w, s, s', t, hE, hS, r, e, k => by simp only [bindPt] at e; cases e
  | .tp ps, .dat (.str _), w, s, s', t, hE, hS, r, e, k => by simp only [bindPt] at e; cases e
  | .tp ps, .dat (.list _), w, s, s', t, hE, hS, r, e, k => by simp only [bindPt] at e; cases e
  | .tp ps, .dat (.dict _), w, s, s', t, hE, hS, r, e, k => by simp only [bindPt] at e; cases e
  | .tp ps, .ref _, w, s, s', t, hE, hS, r, e, k => by simp only [bindPt] at e; cases e
  | .tp ps, .exn _ _, w, s, s', t, hE, hS, r, e, k => by simp only [bindPt] at e; cases e
theorem gsOf_ok {W : WX} {Q : L2.St → Hp → Prop} : ∀ (ps : List Pt) {xs : List PyData} {us : List V} {s s' : Env} {t : L2.St}, SimE G F loc S H s t → SimS G F loc S H → RpL G.K F H us xs → bindPt.bindPts ps xs s = some s' →
    (∀ t', SimE G F loc S H s' t' → t'.length = t.length → (∀ i, i ∉ slotss ps → t'[i]? = t[i]?) → Q t' H) → gsOf G.K ps us t H Q
  | [], [], us, s, s', t, hE, hS, r, e, k => by
    cases r
    simp only [bindPt.bindPts] at e
    cases e
    exact ⟨rfl, k t hE rfl fun _ _ => rfl⟩
  | p :: ps, x :: xs, _, s, s', t, hE, hS, .cons (v := u) (vs := us) r l, e, k => by
    simp only [bindPt.bindPts] at e
    cases q : bindPt p (.dat x) s with
    | none => rw [q] at e; cases e
    | some s1 =>
      rw [q] at e
      refine ⟨u, us, rfl, gOf_ok (W := W) p hE hS (show RV G F loc S H (.dat x) u from r) q fun t1 hE1 hl1 h1 => ?_⟩
      refine gsOf_ok (W := W) ps hE1 hS l e fun t2 hE2 hl2 h2 => k t2 hE2 (hl2.trans hl1) fun i hi => ?_
      unfold slotss at hi
      rw [List.mem_append, not_or] at hi
      rw [h2 i hi.2, h1 i hi.1]
  | [], _ :: _, us, s, s', t, hE, hS, r, e, k => by simp only [bindPt.bindPts] at e; cases e
  | _ :: _, [], us, s, s', t, hE, hS, r, e, k => by simp only [bindPt.bindPts] at e; cases e
theorem bindPts_len : ∀ {ps : List Pt} {xs : List PyData} {s s' : Env}, bindPt.bindPts ps xs s = some s' → ps.length = xs.length
  | [], [], _, _, _ => rfl
  | p :: ps, x :: xs, s, s', e => by
    simp only [bindPt.bindPts] at e
    cases q : bindPt p (.dat x) s with
    | none => rw [q] at e; cases e
    | some s1 =>
      rw [q] at e
      rw [List.length_cons, List.length_cons, bindPts_len e]
  | [], _ :: _, _, _, e => by simp only [bindPt.bindPts] at e; cases e
  | _ :: _, [], _, _, e => by simp only [bindPt.bindPts] at e; cases e
end
end
end IP
namespace IP
open PySem PySem.Spec PyProof.Rows L2

def W0 : WX := fun _ _ _ _ => False
def rdTs (G : GC) (W : WX) (cf : CallF) (es : List IE) : TT := fun t H Q => ∃ F loc s S, SimS G F loc S H ∧ SimE G F loc S H s t ∧ PostB G W t F loc S H (evAll cf es s S) Q
section
variable {X : Cx} {G : GC} {W : WX} {cf : CallF} {a b c e : Expr} {ia ib ic ie : IE} {pos tpos : Pos} {es : List Expr} {ies : List IE} {tg : Expr}
theorem T_nil : PTs X [] (rdTs G W cf []) := by
  refine ⟨fun pins s σ H Q I q => pts_nil.run pins s σ H Q I ?_⟩
  obtain ⟨F, loc, s, S, hS, hE, p⟩ := q
  simp only [evAll] at p
  exact p _ _ _ _ (.refl hS) rfl
theorem T_one (h : PT X c (rdT G W cf ic)) : PTs X [c] (rdTs G W cf [ic]) := by
  refine ⟨fun pins s σ H Q I q => (pts_one h).run pins s σ H Q I ?_⟩
  obtain ⟨F, loc, s, S, hS, hE, p⟩ := q
  refine ⟨F, loc, s, S, hS, hE, ?_⟩
  simp only [evAll] at p
  unfold evT
  cases q : evE cf ic s S with
  | err => rw [q] at p; exact p
  | exc c fs S1 => rw [q] at p; exact p
  | ok v S1 =>
    rw [q] at p
    simp only [Out.bind_ok] at p ⊢
    cases v with
    | dat d =>
      cases d with
      | bool k => cases k <;> exact p
      | _ => exact p
    | ref l => exact p
    | exn c fs => exact p
theorem compL_ok {f : PyData → Store → Out (Option PyData)} {x : PyData} {xs : List PyData} {S S1 : Store} {o : Option PyData} {B : Type} (k : List PyData → Store → Out B) (h : f x S = .ok o S1) :
    (compL f (x :: xs) S).bind k = (compL f xs S1).bind fun r S2 => k (consO o r) S2 := by
  simp only [compL, h, Out.bind_ok]
  cases compL f xs S1 <;> rfl
theorem compL_no {f : PyData → Store → Out (Option PyData)} {x : PyData} {xs : List PyData} {S : Store} {B : Type} (k : List PyData → Store → Out B) (h : f x S = .err) : (compL f (x :: xs) S).bind k = .err := by
  simp only [compL, h, Out.bind_err]
/-- one item of a comprehension -/
def compF (cf : CallF) (elt : IE) (pt : Pt) (ifs : List IE) (own : List Nat) (s : Env) (y : PyData) (S2 : Store) : Out (Option PyData) := Out.nox (match bindPt pt (.dat y) (wipeE s own) with
      | some s' => (evAll cf ifs s' S2).bind fun b S3 => if b = true then (evE cf elt s' S3).bind fun v S4 => match v with
        | .dat p => .ok (some p) S4
        | _ => .err else .ok none S3
      | none => .err)
theorem comp_rd {own : List (Str × Nat)} {it ielt : IE} {pt : Pt} {iifs : List IE} (hK : G.K = X.K) (hsl : ∀ i, i ∈ slots pt → i ∈ own.map (·.2)) : ∀ t H Q, rdF G W cf (.comp ielt pt it iifs (own.map (·.2))) t H Q → tLc (rdI G W cf it) (gOf X.K pt) (rdTs G W0 cf iifs) (rdE G W0 cf ielt) (own.map (·.2)) t H Q := by
  rintro t H Q ⟨F, loc, s, S, hS, hE, p⟩
  simp only [evE] at p
  refine ⟨F, loc, s, S, hS, hE, ?_⟩
  cases qi : itO (evE cf it s S) with
  | err => rw [qi] at p; exact p
  | exc c fs S1 => rw [qi] at p; exact p
  | ok xs S1 =>
  rw [qi] at p
  intro J F1 loc1 H1 n0 wk D hD
  simp only [Out.bind_ok] at p
  split at p
  rotate_left
  · exact False.elim p
  rename_i hz
  have p : Post G (fun F' loc' S' H' v w => FrR G H F' loc' S' H' v w) W t F1 loc1 S1 H1 ((compL (compF cf ielt pt iifs (own.map (·.2)) s) xs S1).bind fun ys S5 => .ok (.dat (.list ys)) S5) Q := Post.step n0 p
  have nlD : ∀ l o, S1[l]? = some o → alive o = true → loc1 l ≠ D := fun l o e al q => (n0.sim.ob l o e).there al (by rw [q]; exact hD)
  have nFD : ¬ F1 D := fun f => n0.sim.dom D f hD
  refine ⟨fun i m H' => m = xs.length - i ∧ i ≤ xs.length ∧ ∃ F2 loc2 S2 acc ys, Nxt G F1 loc1 S1 H1 F2 loc2 S2 H' ∧ H' D = some (.lst acc) ∧ RpL G.K F2 H' acc ys ∧ ¬ F2 D ∧ (∀ l o, S2[l]? = some o → alive o = true → loc2 l ≠ D) ∧ acc.length ≤ i ∧
    Post G (fun F' loc' S' H' v w => FrR G H F' loc' S' H' v w) W t F1 loc1 S1 H1 ((compL (compF cf ielt pt iifs (own.map (·.2)) s) (xs.drop i) S2).bind fun r S5 => .ok (.dat (.list (ys ++ r))) S5) Q,
    ⟨xs.length, by omega, Nat.zero_le _, F1, loc1, S1, [], [], Nxt.lay n0.sim hD, upd_same, .nil, nFD, nlD, Nat.le_refl _, p⟩, ?_⟩
  rintro i m H' ⟨rfl, hle, F2, loc2, S2, acc, ys, n1, eD, rl, nF2, nl2, hacc, p1⟩
  by_cases hlt : i < xs.length
  rotate_left
  · have ei : i = xs.length := by omega
    subst ei
    refine .inl ⟨wk.stop F2 loc2 S2 H' n1.sim n1.sub n1.keep, ?_⟩
    rw [List.drop_length] at p1
    simp only [compL, Out.bind_ok, List.append_nil] at p1
    exact p1 _ _ _ _ n1 ⟨ys, acc, D, rfl, rfl, eD, rl, nF2, nl2, n0.dom D hD⟩
  refine .inr ⟨wk.go i F2 loc2 S2 H' n1.sim n1.sub n1.keep hlt, fun H'' => ∃ F2 loc2 S2 acc ys, Nxt G F1 loc1 S1 H1 F2 loc2 S2 H'' ∧ H'' D = some (.lst acc) ∧ RpL G.K F2 H'' acc ys ∧ ¬ F2 D ∧ (∀ l o, S2[l]? = some o → alive o = true → loc2 l ≠ D) ∧ acc.length ≤ i + 1 ∧
    Post G (fun F' loc' S' H' v w => FrR G H F' loc' S' H' v w) W t F1 loc1 S1 H1 ((compL (compF cf ielt pt iifs (own.map (·.2)) s) (xs.drop (i + 1)) S2).bind fun r S5 => .ok (.dat (.list (ys ++ r))) S5) Q,
    fun H'' hN => ⟨xs.length - (i + 1), by omega, rfl, hlt, hN⟩, fun x H3 hy => ?_⟩
  have ex : xs[i]? = some xs[i] := List.getElem?_eq_getElem hlt
  rw [List.drop_eq_getElem_cons hlt] at p1
  obtain ⟨F3, n3, r3⟩ := wk.yld i F2 loc2 S2 H' x H3 _ n1.sim n1.sub n1.keep ex hy
  obtain ⟨eD3, nF3, nl3⟩ := n3.apart eD nF2 nl2
  generalize xs[i] = y at p1 r3
  -- the target
  cases hb : bindPt pt (.dat y) (wipeE s (own.map (·.2))) with
  | none =>
    rw [compL_no _ (by unfold compF; simp only [hb]; rfl)] at p1
    exact False.elim p1
  | some s' =>
  have hE3 : SimE G F3 loc2 S2 H3 s t := ((hE.next n0).next n1).next n3
  rw [← hK]
  refine gOf_ok (W := W) pt (hE3.wipe (own.map (·.2))) n3.sim (show RV G F3 loc2 S2 H3 (.dat y) x from r3) hb fun t' hE4 hl4 h4 => ?_
  refine ⟨?_, ?_⟩
  · rw [wipe_same (t := wipe t (own.map (·.2))) hl4 fun j hj => h4 j fun hm => hj (hsl j hm), wipe_wipe]
  -- the tests
  refine ⟨F3, loc2, s', S2, n3.sim, hE4, ?_⟩
  cases qt : evAll cf iifs s' S2 with
  | err =>
    rw [compL_no _ (by unfold compF; simp only [hb, qt, Out.bind_err, Out.bind_exc, Out.bind_ok, Bool.false_eq_true, ↓reduceIte]; rfl)] at p1
    exact False.elim p1
  | exc c fs S' =>
    rw [compL_no _ (by unfold compF; simp only [hb, qt, Out.bind_err, Out.bind_exc, Out.bind_ok, Bool.false_eq_true, ↓reduceIte]; rfl)] at p1
    exact False.elim p1
  | ok bt S3 =>
  intro bt' F4 loc4 H4 n4 ebt
  subst ebt
  obtain ⟨eD4, nF4, nl4⟩ := n4.apart eD3 nF3 nl3
  have n14 := (n1.trans n3).trans n4
  have rl4 : RpL G.K F4 H4 acc ys := (rl.mono n3.sub n3.keep).mono n4.sub n4.keep
  cases bt with
  | false =>
    rw [if_neg Bool.false_ne_true]
    rw [compL_ok (o := none) _ (by unfold compF; simp only [hb, qt, Out.bind_err, Out.bind_exc, Out.bind_ok, Bool.false_eq_true, ↓reduceIte]; rfl)] at p1
    exact ⟨F4, loc4, S3, acc, ys, n14, eD4, rl4, nF4, nl4, by omega, p1⟩
  | true =>
    rw [if_pos rfl]
    refine ⟨F4, loc4, s', S3, n4.sim, hE4.next n4, ?_⟩
    cases qe : evE cf ielt s' S3 with
    | err =>
      rw [compL_no _ (by unfold compF; simp only [hb, qt, qe, Out.bind_err, Out.bind_exc, Out.bind_ok, ↓reduceIte]; rfl)] at p1
      exact False.elim p1
    | exc c fs S' =>
      rw [compL_no _ (by unfold compF; simp only [hb, qt, qe, Out.bind_err, Out.bind_exc, Out.bind_ok, ↓reduceIte]; rfl)] at p1
      exact False.elim p1
    | ok v S4 =>
    intro w F5 loc5 H5 n5 r5
    obtain ⟨eD5, nF5, nl5⟩ := n5.apart eD4 nF4 nl4
    cases v with
    | ref l =>
      rw [compL_no _ (by unfold compF; simp only [hb, qt, qe, Out.bind_err, Out.bind_exc, Out.bind_ok, ↓reduceIte]; rfl)] at p1
      exact False.elim p1
    | exn c fs =>
      rw [compL_no _ (by unfold compF; simp only [hb, qt, qe, Out.bind_err, Out.bind_exc, Out.bind_ok, ↓reduceIte]; rfl)] at p1
      exact False.elim p1
    | dat d =>
    rw [compL_ok (o := some d) _ (by unfold compF; simp only [hb, qt, qe, Out.bind_err, Out.bind_exc, Out.bind_ok, ↓reduceIte]; rfl)] at p1
    have r5 : Rp G.K F5 H5 w d := r5
    have kD : ∀ b u, F5 b → H5 b = some u → upd H5 D (.lst (acc ++ [w])) b = some u := fun b u f e => by
      rw [upd_ne (fun z => nF5 (by rw [← z]; exact f))]
      exact e
    refine ⟨acc, eD5, by omega, F5, loc5, S4, acc ++ [w], ys ++ [d], Nxt.priv (n14.trans n5) hD nF5 nl5, upd_same, ?_, nF5, nl5, ?_, ?_⟩
    · exact ((rl4.mono n5.sub n5.keep).append (.cons r5 .nil)).mono (fun _ f => f) kD
    · rw [List.length_append, List.length_singleton]
      omega
    · have e : ∀ r : List PyData, (ys ++ [d]) ++ r = ys ++ consO (some d) r := fun r => by rw [List.append_assoc]; rfl
      simp only [e]
      exact p1
theorem F_comp {elt iter : Expr} {ifs : List Expr} {scope : Scope} {own : List (Str × Nat)} {it ielt : IE} {pt : Pt} {iifs : List IE} (hK : G.K = X.K) (hc : X.calm = true) (hN : X.N.Nodup) (hi : PI X tg iter (rdI G W cf it)) (ok : BlkOk X.N X.env.scope scope own)
    (hg : ∀ (s : Shared) (H : Hp) (C : Addr) (cl : List (Str × Addr)) (fp : List Addr), PG (X.blk s H scope (compEnvC scope cl C X.env) fp) tg (gOf X.K pt))
    (ht : ∀ (s : Shared) (H : Hp) (C : Addr) (cl : List (Str × Addr)) (fp : List Addr), PTs (X.blk s H scope (compEnvC scope cl C X.env) fp) ifs (rdTs G W0 cf iifs))
    (he : ∀ (s : Shared) (H : Hp) (C : Addr) (cl : List (Str × Addr)) (fp : List Addr), PE (X.blk s H scope (compEnvC scope cl C X.env) fp) elt (rdE G W0 cf ielt))
    (hs : ∀ x, foldedSetIterable iter X.env x = pure x) (hsl : ∀ i, i ∈ slots pt → i ∈ own.map (·.2)) : PE X (.ListComp elt [⟨tg, iter, ifs, 0⟩] scope pos) (rdF G W cf (.comp ielt pt it iifs (own.map (·.2)))) := by
  exact PEmon (pe_lc hc hN hi ok hg ht he hs) (comp_rd hK hsl)
end
end IP
namespace IP
open PySem PySem.Spec PyProof.Rows L2

/-! ### stores -/
abbrev PostA (G : GC) := Post (A := Env) (B := L2.St) G (fun F loc S H s t => SimE G F loc S H s t)
def rdG (G : GC) (W : WX) (cf : CallF) (T : Tg) : TG := fun v t H Q => ∃ F loc s S x, SimS G F loc S H ∧ SimE G F loc S H s t ∧ RV G F loc S H x v ∧ PostA G W t F loc S H (asT cf T x s S) Q
def rdGs (G : GC) (W : WX) (cf : CallF) (T : List Tg) : TGs := fun v t H Q => ∃ F loc s S x, SimS G F loc S H ∧ SimE G F loc S H s t ∧ RVs G F loc S H x v ∧ PostA G W t F loc S H (asTs cf T x s S) Q
def PostS (G : GC) (W : WX) (t : L2.St) (F : Addr → Prop) (loc : Nat → Addr) (S : Store) (H : Hp) (o : Out Fl) (D : Ends) : Prop := match o with
  | .ok (.nx s') S' => ∀ t' F' loc' H', Nxt G F loc S H F' loc' S' H' → SimE G F' loc' S' H' s' t' → D.nx t' H'
  | .ok (.rt v) S' => ∀ w F' loc' H', Nxt G F loc S H F' loc' S' H' → RV G F' loc' S' H' v w → D.rt w H'
  | .exc c fs S' => ∀ cv d F' loc' H', Nxt G F loc S H F' loc' S' H' → G.exr c fs cv d H' → W cv d t H'
  | .err => False
def rdS (G : GC) (W : WX) (M : Option Nat) (cf : CallF) (i : IS) : TS := fun D t H => ∃ F loc s S, SimS G F loc S H ∧ SimE G F loc S H s t ∧ PostS G W t F loc S H (evS M cf i s S) D
def rdSs (G : GC) (W : WX) (M : Option Nat) (cf : CallF) (i : List IS) : TS := fun D t H => ∃ F loc s S, SimS G F loc S H ∧ SimE G F loc S H s t ∧ PostS G W t F loc S H (evSs M cf i s S) D
section
variable {A B : Type} {G : GC} {R : (Addr → Prop) → (Nat → Addr) → Store → Hp → A → B → Prop} {W : WX} {t t' : L2.St} {F F1 : Addr → Prop} {loc loc1 : Nat → Addr} {S S1 : Store} {H H1 : Hp}
theorem PostS.step {o : Out Fl} {D : Ends} (n : Nxt G F loc S H F1 loc1 S1 H1) (p : PostS G W t F loc S H o D) : PostS G W t F1 loc1 S1 H1 o D := by
  cases o with
  | ok v S' =>
    cases v with
    | nx s' => exact fun t' F' loc' H' m r => p t' F' loc' H' (n.trans m) r
    | rt v => exact fun w F' loc' H' m r => p w F' loc' H' (n.trans m) r
  | exc c fs S' => exact fun cv d F' loc' H' m r => p cv d F' loc' H' (n.trans m) r
  | err => exact p
theorem PostS.wi (hw : ∀ cv d t t' H, W cv d t H → W cv d t' H) {o : Out Fl} {D : Ends} (p : PostS G W t F loc S H o D) : PostS G W t' F loc S H o D := by
  cases o with
  | ok v S' => cases v <;> exact p
  | exc c fs S' => exact fun cv d F' loc' H' m r => hw _ _ _ _ _ (p cv d F' loc' H' m r)
  | err => exact p
/-- the wish behind an outcome, for the outcome -/
theorem PostS.bind {o : Out A} {f : A → Store → Out Fl} {D : Ends} {Q1 : B → Hp → Prop} (p : PostS G W t F loc S H (o.bind f) D)
    (k : ∀ v S1 w F1 loc1 H1, Nxt G F loc S H F1 loc1 S1 H1 → R F1 loc1 S1 H1 v w → PostS G W t F1 loc1 S1 H1 (f v S1) D → Q1 w H1) : Post G R W t F loc S H o Q1 := by
  cases o with
  | ok v S' => exact fun w F' loc' H' m r => k v S' w F' loc' H' m r (PostS.step m p)
  | exc c fs S' => exact p
  | err => exact p
end
section
variable {X : Cx} {G : GC} {W : WX} {M : Option Nat} {cf : CallF} {a b c e o : Expr} {ia ib ic ie io : IE} {pos tpos : Pos} {es : List Expr} {ies : List IE} {tg : Expr} {T : Tg} {Ts : List Tg} {st : Stmt} {sts : List Stmt} {i : IS} {is : List IS}
theorem PGmon {t t' : TG} (h : PG X tg t) (m : ∀ v s H Q, t' v s H Q → t v s H Q) : PG X tg t' := ⟨fun pins s σ H v u Q I r q => h.run pins s σ H v u Q I r (m _ _ _ _ q)⟩
theorem PGsmon {t t' : TGs} (h : PGs X es t) (m : ∀ v s H Q, t' v s H Q → t v s H Q) : PGs X es t' := ⟨fun pins s σ H v u Q I r q => h.run pins s σ H v u Q I r (m _ _ _ _ q)⟩
theorem PSmon {t t' : TS} (h : PS X st t) (m : ∀ D s H, t' D s H → t D s H) : PS X st t' := ⟨fun pins s σ H D I q => h.run pins s σ H D I (m _ _ _ q)⟩
theorem PSsmon {t t' : TS} (h : PSs X sts t) (m : ∀ D s H, t' D s H → t D s H) : PSs X sts t' := ⟨fun pins s σ H D I q => h.run pins s σ H D I (m _ _ _ q)⟩
theorem G_nm {j : Nat} {x : Str} (hN : X.N.Nodup) (hi : X.N[j]? = some x) (hx : Loc X.env.scope x) (hf : X.fn x = true ∨ X.env.scope.names.lookup x = some .local) : PG X (.Name x pos) (rdG G W cf (.nm j)) := by
  refine PGmon (pg_name hN hi hx hf) ?_
  rintro v t H Q ⟨F, loc, s, S, y, hS, hE, r, p⟩
  simp only [asT] at p
  split at p
  · exact p _ _ _ _ (.refl hS) (hE.set r)
  · exact False.elim p
/-- o.f = v, as a target -/
def gFld (K : PySem.W.Frag) (ta : TE) (f : Str) : TG := fun v t H Q => ta t H fun x H1 => ∃ a C dx fs, x = .ref a ∧ H1 a = some (.ins C dx fs) ∧ Cls K C ∧ NoAttr K C f ∧ fs.length < 1000 ∧ Q t (upd H1 a (.ins C dx (putF f v fs)))
theorem PG_fld {ta : TE} {f : Str} (ha : PE X o ta) : PG X (.Attribute o f pos) (gFld X.K ta f) := by
  refine ⟨fun pins s t H y u Q I ry h => ?_⟩
  have e : assign (.Attribute o f pos) X.env u = (do
      let ov ← holding [u] (eval o X.env)
      standAt pos.atName
      holding [u, ov] (setAttr ov f u)
      release [u, ov] []) := by rfl
  rw [e]
  refine wpAny_bind (wpAny_holding (thn (ha.run pins s t H _ I h) fun z s1 hz => ?_))
  obtain ⟨x, H1, I1, rx, a, C, dx, fs, rfl, ea, cl, na, hl, q⟩ := hz
  obtain rfl : z = Value.ref a := rx
  refine wpAny_bind (wpAny_standAt (wpAny_bind (wpAny_holding (setattr_ok I1 ea cl na hl ry fun s2 I2 => ?_))))
  exact wpAny_release ⟨t, _, I2, q⟩
theorem G_fld {f : Nat} {nm : Str} (hf : nm = G.fnm f) (inj : ∀ f g, G.fnm f = G.fnm g → f = g) (hc : ∀ c, G.cok c → Cls X.K (G.cls c)) (hn : ∀ c, G.cok c → NoAttr X.K (G.cls c) nm) (ha : PE X o (rdE G W cf io)) : PG X (.Attribute o nm pos) (rdG G W cf (.fld io f)) := by
  refine PGmon (PG_fld ha) ?_
  subst hf
  rintro y t H Q ⟨F, loc, s, S, x, hS, hE, r, p⟩
  simp only [asT] at p
  refine ⟨F, loc, s, S, hS, hE, Post.bind p fun v S1 w F1 loc1 H1 n r1 p1 => ?_⟩
  have r := r.next n
  split at p1
  · rename_i l
    obtain ⟨rfl, hl⟩ := r1
    split at p1
    · rename_i c fs hs
      split at p1
      · rename_i hlen
        obtain ⟨ok, dx, ws, e1, rf⟩ := n.sim.ob l _ hs
        refine ⟨_, _, dx, ws, rfl, e1, hc c ok, hn c ok, by rw [rf.length]; omega, ?_⟩
        have n2 := Nxt.put (u := .ins (G.cls c) dx (putF (G.fnm f) y ws)) n.sim hs rfl (o' := .ins c (putFd f x fs)) fun S' H' kp len e =>
          ⟨ok, dx, _, e, RFs.putF inj (RV.shift (fun _ f => f) kp (fun _ _ => rfl) (Nat.le_of_eq len.symm) r) (RFs.shift (fun _ f => f) kp (fun _ _ => rfl) (Nat.le_of_eq len.symm) rf)⟩
        exact p1 _ _ _ _ n2 ((hE.next n).next n2)
      · exact False.elim p1
    · exact False.elim p1
  · exact False.elim p1
theorem G_sub (ho : PE X o (rdE G W cf io)) (ha : PE X a (rdE G W cf ia)) (hh : ∀ v, assign (.Subscript o a pos) X.env v = (do
      let ov ← holding [v] (eval o X.env)
      let iv ← holding [v, ov] (eval a X.env)
      standAt pos
      holding [v, ov, iv] (setItem ov iv v)
      release [v, ov, iv] [])) : PG X (.Subscript o a pos) (rdG G W cf (.sub io ia)) := by
  refine PGmon (pg_sub ho ha set_list hh) ?_
  rintro y t H Q ⟨F, loc, s, S, x, hS, hE, r, p⟩
  simp only [asT] at p
  refine ⟨F, loc, s, S, hS, hE, Post.bind p fun v S1 w F1 loc1 H1 n r1 p1 => ⟨F1, loc1, s, S1, n.sim, hE.next n, Post.bind p1 fun v2 S2 w2 F2 loc2 H2 n2 r2 p2 => ?_⟩⟩
  split at p2
  · rename_i l k d
    obtain ⟨rfl, hl⟩ := r1.next n2
    have r2 : Rp G.K F2 H2 w2 (.int k) := r2
    cases r2
    have r : Rp G.K F2 H2 y d := RV.next (v := .dat d) (n.trans n2) r
    split at p2
    · rename_i xs hs
      split at p2
      · rename_i j hj
        obtain ⟨vs, e1, rl⟩ := n2.sim.ob l _ hs
        refine ⟨_, vs, k, j, rfl, rfl, e1, by rw [rl.length]; exact hj, ?_⟩
        have n3 := Nxt.put (u := .lst (vs.set j y)) n2.sim hs rfl (o' := .lst (xs.set j d)) fun S' H' kp len e =>
          ⟨_, e, RpL.set (r.mono (fun _ f => f) kp) j (rl.mono (fun _ f => f) kp)⟩
        exact p2 _ _ _ _ n3 (((hE.next n).next n2).next n3)
      · exact False.elim p2
    · exact False.elim p2
  · exact False.elim p2
theorem Gs_nil : PGs X [] (rdGs G W cf []) := by
  refine PGsmon pgs_nil ?_
  rintro v t H Q ⟨F, loc, s, S, x, hS, hE, r, p⟩
  cases r with
  | nil =>
    simp only [asTs] at p
    exact ⟨rfl, p _ _ _ _ (.refl hS) hE⟩
  | cons => simp only [asTs] at p; exact False.elim p
theorem Gs_cons (hw : ∀ cv d t t' H, W cv d t H → W cv d t' H) (h1 : PG X e (rdG G W cf T)) (h2 : PGs X es (rdGs G W cf Ts)) (hs : (assignEach (e :: es) X.env).map (·.2) = assign e X.env :: (assignEach es X.env).map (·.2)) : PGs X (e :: es) (rdGs G W cf (T :: Ts)) := by
  refine PGsmon (pgs_cons h1 h2 hs) ?_
  rintro v t H Q ⟨F, loc, s, S, x, hS, hE, r, p⟩
  cases r with
  | nil => simp only [asTs] at p; exact False.elim p
  | @cons y z ys zs r l =>
    simp only [asTs] at p
    refine ⟨z, zs, rfl, F, loc, s, S, y, hS, hE, r, Post.bind p fun s1 S1 t1 F1 loc1 H1 n hE1 p1 => ⟨F1, loc1, s1, S1, ys, n.sim, hE1, l.next n, ?_⟩⟩
    cases q : asTs cf Ts ys s1 S1 with
    | ok v S' => rw [q] at p1; exact p1
    | err => rw [q] at p1; exact p1
    | exc c fs S' =>
      rw [q] at p1
      exact fun cv d F' loc' H' m e => hw _ _ _ _ _ (p1 cv d F' loc' H' m e)
theorem RVs.of_rp {F : Addr → Prop} {loc : Nat → Addr} {S : Store} {H : Hp} : ∀ {us : List V} {xs : List PyData}, RpL G.K F H us xs → RVs G F loc S H (xs.map .dat) us
  | _, _, .nil => .nil
  | _, _, .cons r l => .cons r (RVs.of_rp l)
theorem asTs_len : ∀ {Ts : List Tg} {vs : List Val} {s s' : Env} {S S' : Store}, asTs cf Ts vs s S = .ok s' S' → Ts.length = vs.length
  | [], [], _, _, _, _, _ => rfl
  | T :: Ts, v :: vs, s, s', S, S', e => by
    simp only [asTs] at e
    cases q : asT cf T v s S with
    | err => rw [q] at e; cases e
    | exc c fs S1 => rw [q] at e; cases e
    | ok s1 S1 =>
      rw [q] at e
      rw [List.length_cons, List.length_cons, asTs_len e]
  | [], _ :: _, _, _, _, _, e => by simp only [asTs] at e; cases e
  | _ :: _, [], _, _, _, _, e => by simp only [asTs] at e; cases e
theorem G_tp {k : Nat} (hK : G.K = X.K) (hc : X.calm = true) (h : PGs X es (rdGs G W cf Ts)) (hl : es.length = Ts.length) (hn : (assignEach es X.env).length = es.length) (hst : (assignEach es X.env).findIdx? (·.1) = none) (hexc : ∀ xs s S c fs S', asTs cf Ts xs s S ≠ .exc c fs S') : PG X (.Tuple es k pos) (rdG G W cf (.tp Ts)) := by
  refine PGmon (pg_tup hc h (n := Ts.length) (hn.trans hl) hst) ?_
  rintro v t H Q ⟨F, loc, s, S, x, hS, hE, r, p⟩
  simp only [asT] at p
  split at p
  · rename_i xs
    obtain ⟨l, us, rfl, h1, h2⟩ := look_tup (x := .dat (.tuple xs)) hS r rfl
    have len : Ts.length = xs.length := by
      cases q : asTs cf Ts (xs.map .dat) s S with
      | err => rw [q] at p; exact False.elim p
      | exc c fs S1 => exact absurd q (hexc _ _ _ _ _ _)
      | ok s1 S1 => rw [asTs_len q, List.length_map]
    exact ⟨l, us, rfl, hK ▸ h1, by rw [h2.length, len], F, loc, s, S, _, hS, hE, RVs.of_rp h2, p⟩
  · exact False.elim p

/-! ### statements -/
theorem S_asg {te : TE} {g : TG} (h : PS X (.Assign [tg] e pos) (tAsg te g)) (hte : ∀ t H Q, rdE G W cf ie t H Q → te t H Q) (hg : ∀ v t H Q, rdG G W cf T v t H Q → g v t H Q) : PS X (.Assign [tg] e pos) (rdS G W M cf (.asg T ie)) := by
  refine PSmon h ?_
  rintro D t H ⟨F, loc, s, S, hS, hE, p⟩
  simp only [evS] at p
  refine hte _ _ _ ⟨F, loc, s, S, hS, hE, PostS.bind p fun v S1 w F1 loc1 H1 n r p1 => hg _ _ _ _ ⟨F1, loc1, s, S1, v, n.sim, hE.next n, r, PostS.bind p1 fun s2 S2 t2 F2 loc2 H2 n2 hE2 p2 => ?_⟩⟩
  exact p2 _ _ _ _ (.refl n2.sim) hE2
theorem S_exp (he : PE X e (rdE G W cf ie)) (hs : swapsWith e none pos.line X.env = pure false) : PS X (.Expr e pos) (rdS G W M cf (.exp ie)) := by
  refine PSmon (ps_expr he hs) ?_
  rintro D t H ⟨F, loc, s, S, hS, hE, p⟩
  simp only [evS] at p
  refine ⟨F, loc, s, S, hS, hE, PostS.bind p fun v S1 w F1 loc1 H1 n r p1 => p1 _ _ _ _ (.refl n.sim) (hE.next n)⟩
theorem S_doc {x j pos'} : PS X (.Expr (.Constant (.str x) j pos) pos') (rdS G W M cf .nop) := by
  refine PSmon ps_doc ?_
  rintro D t H ⟨F, loc, s, S, hS, hE, p⟩
  simp only [evS] at p
  exact p _ _ _ _ (.refl hS) hE
theorem S_pass : PS X (.Pass pos) (rdS G W M cf .nop) := by
  refine PSmon ps_pass ?_
  rintro D t H ⟨F, loc, s, S, hS, hE, p⟩
  simp only [evS] at p
  exact p _ _ _ _ (.refl hS) hE
theorem S_ret (he : PE X e (rdE G W cf ie)) : PS X (.Return (some e) pos) (rdS G W M cf (.ret ie)) := by
  refine PSmon (ps_ret he) ?_
  rintro D t H ⟨F, loc, s, S, hS, hE, p⟩
  simp only [evS] at p
  refine ⟨F, loc, s, S, hS, hE, PostS.bind p fun v S1 w F1 loc1 H1 n r p1 => p1 _ _ _ _ (.refl n.sim) r⟩
theorem S_rtn : PS X (.Return none pos) (rdS G W M cf .rtn) := by
  refine PSmon ps_retN ?_
  rintro D t H ⟨F, loc, s, S, hS, hE, p⟩
  simp only [evS] at p
  exact p _ _ _ _ (.refl hS) (show Rp _ _ _ _ _ from .non)
theorem S_ite {as bs : List Stmt} {ias ibs : List IS} (hc : PT X c (rdT G W cf ic)) (ha : PSs X as (rdSs G W M cf ias)) (hb : PSs X bs (rdSs G W M cf ibs)) : PS X (.If c as bs pos) (rdS G W M cf (.ite ic ias ibs)) := by
  refine PSmon (ps_if hc ha hb) ?_
  rintro D t H ⟨F, loc, s, S, hS, hE, p⟩
  simp only [evS] at p
  refine ⟨F, loc, s, S, hS, hE, PostS.bind p fun v S1 w F1 loc1 H1 n r p1 => ?_⟩
  subst r
  cases v with
  | true => rw [if_pos rfl] at p1 ⊢; exact ⟨F1, loc1, s, S1, n.sim, hE.next n, p1⟩
  | false => rw [if_neg Bool.false_ne_true] at p1 ⊢; exact ⟨F1, loc1, s, S1, n.sim, hE.next n, p1⟩
theorem Ss_nil : PSs X [] (rdSs G W M cf []) := by
  refine PSsmon pss_nil ?_
  rintro D t H ⟨F, loc, s, S, hS, hE, p⟩
  simp only [evSs] at p
  exact p _ _ _ _ (.refl hS) hE
theorem seq_post {o : Out Fl} {f : Fl → Store → Out Fl} {D : Ends} {t : L2.St} {F : Addr → Prop} {loc : Nat → Addr} {S : Store} {H : Hp} {u : TS} (p : PostS G W t F loc S H (o.bind f) D)
    (hr : ∀ v S', f (.rt v) S' = .ok (.rt v) S') (hn : ∀ s' S' t' F' loc' H', Nxt G F loc S H F' loc' S' H' → SimE G F' loc' S' H' s' t' → PostS G W t F' loc' S' H' (f (.nx s') S') D → u D t' H') : PostS G W t F loc S H o { D with nx := u D } := by
  cases o with
  | err => exact p
  | exc c fs S' => exact p
  | ok r S' =>
    rw [Out.bind_ok] at p
    cases r with
    | nx s' => exact fun t' F' loc' H' m e => hn s' S' t' F' loc' H' m e (PostS.step m p)
    | rt v => rw [hr] at p; exact p
theorem Ss_cons (hw : ∀ cv d t t' H, W cv d t H → W cv d t' H) (h1 : PS X st (rdS G W M cf i)) (h2 : PSs X sts (rdSs G W M cf is)) : PSs X (st :: sts) (rdSs G W M cf (i :: is)) := by
  refine PSsmon (pss_cons h1 h2) ?_
  rintro D t H ⟨F, loc, s, S, hS, hE, p⟩
  simp only [evSs] at p
  exact ⟨F, loc, s, S, hS, hE, seq_post p (fun _ _ => rfl) fun s' S' t' F' loc' H' m e p1 => ⟨F', loc', s', S', m.sim, e, PostS.wi hw p1⟩⟩
theorem Ss_one (h1 : PS X st (rdS G W M cf i)) : PSs X [st] (rdSs G W M cf [i]) := by
  refine PSsmon (pss_one h1) ?_
  rintro D t H ⟨F, loc, s, S, hS, hE, p⟩
  refine ⟨F, loc, s, S, hS, hE, ?_⟩
  simp only [evSs] at p
  cases q : evS M cf i s S with
  | err => rw [q] at p; exact p
  | exc c fs S' => rw [q] at p; exact p
  | ok r S' =>
    rw [q] at p
    cases r <;> exact p
theorem S_app {j : Nat} {x : Str} {p1 p2 p3 : Pos} (hK : G.K = X.K) (hN : X.N[j]? = some x) (hv : Vis X.env.scope x) (hd : (x == ("__debug__" : Str)) = false) (hcd : (x == ("__classdict__" : Str)) = false)
    (he : PE X e (rdE G W cf ie)) (hst : starEach [e] X.env = (false, eval e X.env) :: starEach [] X.env) (hb : ∀ {te : TE}, PE X e te → PE X (.Call (.Attribute (.Name x p1) "append" p2) [e] [] p3) (tBM X.K "list" rAppend (tVar j) (tCons te tNil))) (hs : swapsWith (.Call (.Attribute (.Name x p1) "append" p2) [e] [] p3) none pos.line X.env = pure false) :
    PS X (.Expr (.Call (.Attribute (.Name x p1) "append" p2) [e] [] p3) pos) (rdS G W M cf (.app j ie)) := by
  refine PSmon (ps_expr (hb he) hs) ?_
  rintro D t H ⟨F, loc, s, S, hS, hE, p⟩
  simp only [evS] at p
  split at p
  · rename_i l hi
    obtain ⟨w, h1, r⟩ := hE.at_ j _ hi
    have r0 := r
    obtain ⟨rfl, hl⟩ := r
    split at p
    · rename_i ys hy
      obtain ⟨vs, e1, _⟩ := hS.ob l _ hy
      refine ⟨_, h1, .inl ⟨rfl, vs, .inl (.inl e1)⟩, F, loc, s, S, hS, hE, PostS.bind p fun v S1 w F1 loc1 H1 n r p1 => ?_⟩
      obtain ⟨q1, _⟩ := r0.next n
      split at p1
      · rename_i d xs hx
        split at p1
        · rename_i hz
          obtain ⟨us, e2, rl⟩ := n.sim.ob l _ hx
          refine ⟨loc1 l, us, w, q1, rfl, e2, by rw [rl.length]; exact hz, ?_⟩
          have n2 := Nxt.put (u := .lst (us ++ [w])) n.sim hx rfl (o' := .lst (xs ++ [d])) fun S' H' kp len e =>
            ⟨_, e, (rl.mono (fun _ f => f) kp).append (.cons (Rp.mono (fun _ f => f) kp (show Rp G.K F1 H1 w d from r)) .nil)⟩
          exact p1 _ _ _ _ n2 ((hE.next n).next n2)
        · exact False.elim p1
      · exact False.elim p1
    · exact False.elim p
  · exact False.elim p
theorem S_ext {j : Nat} {x : Str} {p1 p2 p3 : Pos} (hK : G.K = X.K) (hN : X.N[j]? = some x) (hv : Vis X.env.scope x) (hd : (x == ("__debug__" : Str)) = false) (hcd : (x == ("__classdict__" : Str)) = false)
    (he : PE X e (rdE G W cf ie)) (hst : starEach [e] X.env = (false, eval e X.env) :: starEach [] X.env) (hb : ∀ {te : TE}, PE X e te → PE X (.Call (.Attribute (.Name x p1) "extend" p2) [e] [] p3) (tBM X.K "list" rExtend (tVar j) (tCons te tNil))) (hs : swapsWith (.Call (.Attribute (.Name x p1) "extend" p2) [e] [] p3) none pos.line X.env = pure false) :
    PS X (.Expr (.Call (.Attribute (.Name x p1) "extend" p2) [e] [] p3) pos) (rdS G W M cf (.ext j ie)) := by
  refine PSmon (ps_expr (hb he) hs) ?_
  rintro D t H ⟨F, loc, s, S, hS, hE, p⟩
  simp only [evS] at p
  split at p
  · rename_i l hi
    obtain ⟨w, h1, r⟩ := hE.at_ j _ hi
    have r0 := r
    obtain ⟨rfl, hl⟩ := r
    split at p
    · rename_i ys hy
      obtain ⟨vs, e1, _⟩ := hS.ob l _ hy
      refine ⟨_, h1, .inl ⟨rfl, vs, .inl (.inl e1)⟩, F, loc, s, S, hS, hE, PostS.bind p fun v S1 w F1 loc1 H1 n r p1 => ?_⟩
      obtain ⟨q1, _⟩ := r0.next n
      split at p1
      · rename_i ds xs hx
        split at p1
        · rename_i hz
          obtain ⟨us, e2, rl⟩ := n.sim.ob l _ hx
          have r : Rp G.K F1 H1 w (.list ds) := r
          cases r with
          | lst f e3 l3 =>
            rename_i b zs
            refine ⟨loc1 l, b, us, zs, q1, rfl, e2, e3, by rw [rl.length, l3.length]; exact hz, ?_⟩
            have n2 := Nxt.put (u := .lst (us ++ zs)) n.sim hx rfl (o' := .lst (xs ++ ds)) fun S' H' kp len e =>
              ⟨_, e, (rl.mono (fun _ f => f) kp).append (l3.mono (fun _ f => f) kp)⟩
            exact p1 _ _ _ _ n2 ((hE.next n).next n2)
        · exact False.elim p1
      · exact False.elim p1
    · exact False.elim p
  · exact False.elim p
theorem S_for {iter : Expr} {body : List Stmt} {it : IE} {pt : Pt} {ibody : List IS} (hK : G.K = X.K) (hw : ∀ cv d t t' H, W cv d t H → W cv d t' H) (hp : PassesOwn (model X.prog X.w) X.A X.env X.xe) (hc : X.calm = true) (hi : PI X tg iter (rdI G W cf it)) (hg : PG X tg (gOf X.K pt)) (hb : PSs X body (rdSs G W M cf ibody))
    (hs : ∀ x, foldedSetIterable iter X.env x = pure x) : PS X (.For tg iter body [] pos) (rdS G W M cf (.for_ pt it ibody)) := by
  refine PSmon (ps_for hp hc hi hg hb hs) ?_
  rintro D t H ⟨F, loc, s, S, hS, hE, p⟩
  simp only [evS] at p
  refine ⟨F, loc, s, S, hS, hE, PostS.bind p fun xs S1 J F1 loc1 H1 n0 wk p0 => ?_⟩
  generalize hf : (fun y s1 S2 => match bindPt pt (.dat y) s1 with
    | some s2 => evSs M cf ibody s2 S2
    | none => .err : PyData → Env → Store → Out Fl) = f at p0
  refine ⟨fun i m t' H' => m = xs.length - i ∧ i ≤ xs.length ∧ ∃ F2 loc2 s2 S2, Nxt G F1 loc1 S1 H1 F2 loc2 S2 H' ∧ SimE G F2 loc2 S2 H' s2 t' ∧ PostS G W t F2 loc2 S2 H' (forL f (xs.drop i) s2 S2) D,
    ⟨xs.length, by omega, Nat.zero_le _, F1, loc1, s, S1, .refl n0.sim, hE.next n0, p0⟩, ?_⟩
  rintro i m t' H' ⟨rfl, hle, F2, loc2, s2, S2, n1, hE1, p1⟩
  by_cases hlt : i < xs.length
  rotate_left
  · have ei : i = xs.length := by omega
    subst ei
    refine .inl ⟨wk.stop F2 loc2 S2 H' n1.sim n1.sub n1.keep, ?_⟩
    rw [List.drop_length] at p1
    exact p1 _ _ _ _ (.refl n1.sim) hE1
  refine .inr ⟨wk.go i F2 loc2 S2 H' n1.sim n1.sub n1.keep hlt, fun t' H' => ∃ F2 loc2 s2 S2, Nxt G F1 loc1 S1 H1 F2 loc2 S2 H' ∧ SimE G F2 loc2 S2 H' s2 t' ∧ PostS G W t F2 loc2 S2 H' (forL f (xs.drop (i + 1)) s2 S2) D,
    fun t'' H'' hN => ⟨xs.length - (i + 1), by omega, rfl, hlt, hN⟩, fun x H3 hy => ?_⟩
  have ex : xs[i]? = some xs[i] := List.getElem?_eq_getElem hlt
  rw [List.drop_eq_getElem_cons hlt] at p1
  obtain ⟨F3, n3, r3⟩ := wk.yld i F2 loc2 S2 H' x H3 _ n1.sim n1.sub n1.keep ex hy
  generalize xs[i] = y at p1 r3
  simp only [forL] at p1
  cases hb : bindPt pt (.dat y) s2 with
  | none =>
    rw [show f y s2 S2 = .err from by rw [← hf]; simp only [hb]] at p1
    exact False.elim p1
  | some s' =>
  rw [show f y s2 S2 = evSs M cf ibody s' S2 from by rw [← hf]; simp only [hb]] at p1
  rw [← hK]
  refine gOf_ok (W := W) pt (hE1.next n3) n3.sim (show RV G F3 loc2 S2 H3 (.dat y) x from r3) hb fun t4 hE4 hl4 h4 => ?_
  refine ⟨F3, loc2, s', S2, n3.sim, hE4, ?_⟩
  have p1 := PostS.wi (t' := t4) hw (PostS.step n3 p1)
  cases q : evSs M cf ibody s' S2 with
  | err => rw [q] at p1; exact p1
  | exc c fs S' => rw [q] at p1; exact p1
  | ok r S4 =>
    rw [q, Out.bind_ok] at p1
    cases r with
    | rt v => exact p1
    | nx s5 => exact fun t5 F5 loc5 H5 n5 hE5 => ⟨F5, loc5, s5, S4, (n1.trans n3).trans n5, hE5, PostS.wi hw (PostS.step n5 p1)⟩
theorem whl_n {c : Env → Store → Out Bool} {b : Env → Store → Out Fl} {s : Env} {S : Store} (h : whl M c b s S ≠ .err) : ∃ n, whlN c b n s S = whl M c b s S := by
  cases M with
  | some n => exact ⟨n, rfl⟩
  | none =>
    have h : whlC c b s S ≠ .err := h
    show ∃ n, whlN c b n s S = whlC c b s S
    unfold whlC at h ⊢
    by_cases hh : ∃ n, whlN c b n s S ≠ .err
    · rw [dif_pos hh]
      exact ⟨_, rfl⟩
    · rw [dif_neg hh] at h
      exact absurd rfl h
theorem S_whl {body : List Stmt} {ibody : List IS} (hw : ∀ cv d t t' H, W cv d t H → W cv d t' H) (hp : PassesOwn (model X.prog X.w) X.A X.env X.xe) (hc : PT X c (rdT G W cf ic)) (hb : PSs X body (rdSs G W M cf ibody)) : PS X (.While c body [] pos) (rdS G W M cf (.whl ic ibody)) := by
  refine PSmon (ps_while hp hc hb) ?_
  rintro D t H ⟨F, loc, s, S, hS, hE, p⟩
  simp only [evS] at p
  have hne : whl M (evT cf ic) (evSs M cf ibody) s S ≠ .err := fun e => by rw [e] at p; exact p
  obtain ⟨n, hn⟩ := whl_n hne
  rw [← hn] at p
  refine ⟨fun m t' H' => ∃ F2 loc2 s2 S2, SimS G F2 loc2 S2 H' ∧ SimE G F2 loc2 S2 H' s2 t' ∧ PostS G W t F2 loc2 S2 H' (whlN (evT cf ic) (evSs M cf ibody) m s2 S2) D, ⟨n, F, loc, s, S, hS, hE, p⟩, ?_⟩
  rintro m t' H' ⟨F2, loc2, s2, S2, hS2, hE2, p2⟩
  cases m with
  | zero => exact False.elim p2
  | succ m =>
    simp only [whlN] at p2
    refine ⟨F2, loc2, s2, S2, hS2, hE2, PostS.bind (PostS.wi (t' := t') hw p2) fun k S3 k' F3 loc3 H3 n3 r p3 => ?_⟩
    subst r
    cases k with
    | false => rw [if_neg Bool.false_ne_true] at p3 ⊢; exact p3 _ _ _ _ (.refl n3.sim) (hE2.next n3)
    | true =>
      rw [if_pos rfl] at p3 ⊢
      refine ⟨fun t' H' => ∃ F2 loc2 s2 S2, SimS G F2 loc2 S2 H' ∧ SimE G F2 loc2 S2 H' s2 t' ∧ PostS G W t F2 loc2 S2 H' (whlN (evT cf ic) (evSs M cf ibody) m s2 S2) D, fun t'' H'' hN => ⟨m, Nat.lt_succ_self m, hN⟩, F3, loc3, s2, S3, n3.sim, hE2.next n3, ?_⟩
      cases q : evSs M cf ibody s2 S3 with
      | err => rw [q] at p3; exact p3
      | exc c fs S' => rw [q] at p3; exact p3
      | ok r S4 =>
        rw [q, Out.bind_ok] at p3
        cases r with
        | rt v => exact p3
        | nx s5 => exact fun t5 F5 loc5 H5 n5 hE5 => ⟨F5, loc5, s5, S4, n5.sim, hE5, PostS.wi hw (PostS.step n5 p3)⟩
end
end IP
namespace IP
open PySem PySem.Spec PyProof.Rows L2

/-! ### a def's promise where nothing is being shown around it (repr asks for it) -/
structure FnG (P : Program) (w : World) (K : PySem.W.Frag) (mg : Str → Option Value) (base : Heap) (CX : CXT) (k : Nat) (f : Addr) (fd : FuncData) (n : Nat) (ps : List Str) (sp : Sp) : Prop where
  num : ps.length = n
  len : ∀ vs H Q E, sp vs H Q E → vs.length = n
  go : ∀ (A : Around) (outer : List PySem.Env) (s : Shared) (H : Hp) (ar : Args) (us : List Value) (vs : List V) (Q : VK) (E : XK), A.guards = some [] → Room k A → Env0 P w K mg base A outer s H → BindsTo s fd ar (ps.zip us) → Vals vs us → sp vs H Q E →
    codeAny (model P w) A (.call (.ref f) ar) (CR CX outer P w H s Q E) s
section
variable {X : Cx} {CX : CXT} {k n : Nat} {f C : Addr} {fd : FuncData} {ps ks : List Str} {sp : Sp} {dvs : List V} {ds : List Value} {E : XK} {x m : Str} {p pos apos : Pos} {e o : Expr} {es : List Expr} {ta : TE} {t tk : TA} {kws : List Keyword}
/-- it runs, and this body goes on -/
theorem FnG.from (F : FnG X.prog X.w X.K X.mg X.base CX k f fd n ps sp) (hr : Room k X.A) (hu : X.A.guards = some []) (hx : Passes CX X E) {pins : List (Addr × Obj)} {σ : L2.St} {H : Hp} {s : Shared} (I : Inv X pins σ H s) {Q : VK} {ar : Args} {us : List Value} {vs : List V}
    (hb : BindsTo s fd ar (ps.zip us)) (r : Vals vs us) (h : sp vs H Q E) : codeAny (model X.prog X.w) X.A (.call (.ref f) ar) (fun r s' => match r with | .ok (.ret v) => EP X pins σ Q v s' | .ok _ => False | .error e => X.xe e s') s := by
  refine codeAny_mono (F.go X.A X.stack s H ar us vs Q E hu hr I.env0 hb r h) ?_
  rintro (e | fl) s' hq
  · exact hx pins σ H s e s' I hq
  · cases fl <;> first | exact I.after hq | exact hq.elim
theorem FnG.runs (F : FnG X.prog X.w X.K X.mg X.base CX k f fd n ps sp) (hr : Room k X.A) (hu : X.A.guards = some []) (hb : Binds X.K fd ps ds) (hd : Vals dvs ds) (hx : Passes CX X E) {pins : List (Addr × Obj)} {σ : L2.St} {H : Hp} {s : Shared} {Q : VK} {us : List Value} {vs : List V}
    (I : Inv X pins σ H s) (r : Vals vs us) (h : sp (vs ++ dvs) H Q E) : wpAny (model X.prog X.w) X.A (call (.ref f) us) (EP X pins σ Q) X.xe s := by
  have both := r.append hd
  refine wpAny_call (F.from hr hu hx I (hb s us I.kIn ?_) both h)
  rw [← both.length, F.len _ _ _ _ h, F.num]
theorem FnG.runsK {g : List Value → List Value → List Value} {gV : List V → List V → List V} (F : FnG X.prog X.w X.K X.mg X.base CX k f fd n ps sp) (hr : Room k X.A) (hu : X.A.guards = some []) (hb : KBinds X.K fd ps ks g gV) (hx : Passes CX X E) {pins : List (Addr × Obj)} {σ : L2.St} {H : Hp} {s : Shared} {Q : VK}
    {us ws : List Value} {vs zs : List V} (I : Inv X pins σ H s) (r : Vals vs us) (rz : Vals zs ws) (h : sp (gV vs zs) H Q E) : wpAny (model X.prog X.w) X.A (call (.ref f) us (ks.zip ws)) (EP X pins σ Q) X.xe s := by
  have both := hb.rel r rz
  refine wpAny_call (F.from hr hu hx I (hb.to s us ws I.kIn ?_) both h)
  rw [← both.length, F.len _ _ _ _ h, F.num]
theorem call_g (F : FnG X.prog X.w X.K X.mg X.base CX k f fd n ps sp) (hr : Room k X.A) (hu : X.A.guards = some []) (hg : Gl X x) (hm : X.mg x = some (.ref f)) (hk : PySem.W.keepIn X.K (.ref f) = true) (hb : Binds X.K fd ps ds) (hd : Vals dvs ds) (hx : Passes CX X E)
    (ha : PA X (e :: es) t) (hdb : (x == ("__debug__" : Str)) = false) (he : starEach (e :: es) X.env = (false, eval e X.env) :: starEach es X.env) (hpl : (backTo pos (starEach es X.env)).any (·.1) = false) :
    PE X (.Call (.Name x p) (e :: es) [] pos) (tCall sp dvs E t) :=
  ⟨fun pins s σ H Q I h => wpAny_Call_Name_kw (ld_glob I hg hm (PySem.W.callWith_K (h₀ := X.base) I.ok.mod.kin hk (thn (ha.run pos pins s σ H _ I h) fun us s1 ⟨vs, H1, J, r, q⟩ => ⟨J.kIn, F.runs hr hu hb hd hx J r q⟩) he hpl) hdb)⟩
theorem call_g0 (F : FnG X.prog X.w X.K X.mg X.base CX k f fd n ps sp) (hr : Room k X.A) (hu : X.A.guards = some []) (hg : Gl X x) (hm : X.mg x = some (.ref f)) (hk : PySem.W.keepIn X.K (.ref f) = true) (hb : Binds X.K fd ps ds) (hd : Vals dvs ds) (hx : Passes CX X E)
    (hdb : (x == ("__debug__" : Str)) = false) : PE X (.Call (.Name x p) [] [] pos) (tCall sp dvs E tNil) :=
  ⟨fun pins s σ H Q I h => wpAny_Call_Name_kw (ld_glob I hg hm (PySem.W.callWith_K0 I.kIn hk (F.runs (us := []) hr hu hb hd hx I .nil h)) hdb)⟩
theorem meth_g {pl : Sem Bool} (ho : PE X o ta) (c : Cls X.K C) (hm : Meth X.K C m f) (F : FnG X.prog X.w X.K X.mg X.base CX k f fd n ps sp) (hr : Room k X.A) (hu : X.A.guards = some []) (hb : Binds X.K fd ps ds) (hd : Vals dvs ds) (hx : Passes CX X E) (ha : PA X (e :: es) t)
    (hst : starEach (e :: es) X.env = (false, eval e X.env) :: starEach es X.env) (hpl : (backTo pos (starEach es X.env)).any (·.1) = false)
    (ht : eval (.Call (.Attribute o m apos) (e :: es) [] pos) X.env = (do
      let ov ← eval o X.env
      standAt apos.atName
      let (f, first) ← holding [ov] (getMethod ov m pl)
      callWith pos f first (backTo pos (starEach (e :: es) X.env)) (backToKw pos (keywordEach [] X.env)))) :
    PE X (.Call (.Attribute o m apos) (e :: es) [] pos) (tMeth C m sp dvs E ta t) := by
  refine ⟨fun pins s σ H Q I h => PySem.W.methodCall_KW (pl := pl) (thn (ho.run pins s σ H _ I h) ?_) ht⟩
  rintro u s1 ⟨_, H1, J, ru, a, dx, fs, rfl, ea, no, q⟩
  cases show u = Value.ref a from ru
  refine getmeth_ok J ea c hm no (PySem.W.callWith_K (first := [.ref a]) (h₀ := X.base) I.ok.mod.kin hm.kp (thn (ha.run pos pins s1 σ H1 _ J q) fun us s2 ⟨vs, H2, J2, r, q2⟩ => ⟨J2.kIn, ?_⟩) hst hpl)
  exact F.runs (us := .ref a :: us) (vs := .ref a :: vs) hr hu hb hd hx J2 (.cons rfl r) q2
theorem meth_g0 {pl : Sem Bool} (ho : PE X o ta) (c : Cls X.K C) (hm : Meth X.K C m f) (F : FnG X.prog X.w X.K X.mg X.base CX k f fd n ps sp) (hr : Room k X.A) (hu : X.A.guards = some []) (hb : Binds X.K fd ps ds) (hd : Vals dvs ds) (hx : Passes CX X E)
    (ht : eval (.Call (.Attribute o m apos) [] [] pos) X.env = (do
      let ov ← eval o X.env
      standAt apos.atName
      let (f, first) ← holding [ov] (getMethod ov m pl)
      callWith pos f first (backTo pos (starEach [] X.env)) (backToKw pos (keywordEach [] X.env)))) :
    PE X (.Call (.Attribute o m apos) [] [] pos) (tMeth C m sp dvs E ta tNil) := by
  refine ⟨fun pins s σ H Q I h => PySem.W.methodCall_KW (pl := pl) (thn (ho.run pins s σ H _ I h) ?_) ht⟩
  rintro u s1 ⟨_, H1, J, ru, a, dx, fs, rfl, ea, no, q⟩
  cases show u = Value.ref a from ru
  exact getmeth_ok J ea c hm no (PySem.W.callWith_K0 (first := [.ref a]) J.kIn hm.kp (F.runs (us := [.ref a]) (vs := [.ref a]) hr hu hb hd hx J (.cons rfl .nil) q))
theorem make_hush {A : Around} (h : A.guards = some []) (us : List Value) (kw : List (Str × Value)) : (A.under (.builtin "type.__call__" ⟨.ref C :: us, kw⟩)).guards = some [] := by
  simp [Around.under, pushGuards, h, Code.guards, Code.isGuard, guardIds]
theorem FnG.made (M : Mk X.K C f) (F : FnG X.prog X.w X.K X.mg X.base CX k f fd n ps sp) (hr : Room (k + 1) X.A) (hu : X.A.guards = some []) (hb : Binds X.K fd ps ds) (hd : Vals dvs ds)
    (hx : Passes CX X E) {pins : List (Addr × Obj)} {σ : L2.St} {H : Hp} {s : Shared} {Q : VK} {us : List Value} {vs : List V} (I : Inv X pins σ H s) (r : Vals vs us)
    (h : ∀ y d, H y = none → H d = none → d ≠ y → sp (.ref y :: (vs ++ dvs)) (upd (upd H d (.own y)) y (.ins C d [])) (fun v H2 => v = .non ∧ Q (.ref y) H2) E) :
    wpAny (model X.prog X.w) X.A (call (.ref C) us) (EP X pins σ Q) X.xe s := by
  have wish := h _ _ (I.hok.fresh (Nat.le_succ s.heap.objs.size)) (I.hok.fresh (Nat.le_refl s.heap.objs.size)) (Nat.ne_of_lt (Nat.lt_succ_self _))
  have J := Inv.made (C := C) I
  have all : Vals (V.ref (s.heap.objs.size + 1) :: (vs ++ dvs)) (Value.ref (s.heap.objs.size + 1) :: (us ++ ds)) := .cons rfl (r.append hd)
  refine wpAny_call (make_map (f := f) I.kIn M.makes M.init (beq_iff_eq.mp M.fn) (codeAny_mono (F.go _ X.stack _ _ ⟨Value.ref (s.heap.objs.size + 1) :: us, []⟩ _ _ _ E (make_hush hu us []) (hr.make C us []) (J.env0.make C us []) (hb _ (Value.ref (s.heap.objs.size + 1) :: us) J.kIn ?_) all wish) ?_))
  · have e := all.length
    rw [F.len _ _ _ _ wish] at e
    exact (F.num.trans e).symm
  · rintro (e | fl) s' hq
    · exact hx pins σ _ _ e s' J hq
    · cases fl with
      | ret u =>
        obtain ⟨v, H', J', rv, rfl, q⟩ := J.after hq
        exact ⟨rv, V.ref (s.heap.objs.size + 1), H', J', rfl, q⟩
      | next => exact hq.elim
      | brk => exact hq.elim
      | cont => exact hq.elim
theorem mk_g (M : Mk X.K C f) (F : FnG X.prog X.w X.K X.mg X.base CX k f fd n ps sp) (hr : Room (k + 1) X.A) (hu : X.A.guards = some []) (hg : Gl X x) (hm : X.mg x = some (.ref C)) (hb : Binds X.K fd ps ds) (hd : Vals dvs ds) (hx : Passes CX X E)
    (ha : PA X (e :: es) t) (hdb : (x == ("__debug__" : Str)) = false) (he : starEach (e :: es) X.env = (false, eval e X.env) :: starEach es X.env) (hpl : (backTo pos (starEach es X.env)).any (·.1) = false) :
    PE X (.Call (.Name x p) (e :: es) [] pos) (tMake C sp dvs E t) :=
  ⟨fun pins s σ H Q I h => wpAny_Call_Name_kw (ld_glob I hg hm (PySem.W.callWith_K (h₀ := X.base) I.ok.mod.kin M.kp (thn (ha.run pos pins s σ H _ I h) fun us s1 ⟨vs, H1, J, r, q⟩ => ⟨J.kIn, F.made M hr hu hb hd hx J r q⟩) he hpl) hdb)⟩
theorem mk_g0 (M : Mk X.K C f) (F : FnG X.prog X.w X.K X.mg X.base CX k f fd n ps sp) (hr : Room (k + 1) X.A) (hu : X.A.guards = some []) (hg : Gl X x) (hm : X.mg x = some (.ref C)) (hb : Binds X.K fd ps ds) (hd : Vals dvs ds) (hx : Passes CX X E)
    (hdb : (x == ("__debug__" : Str)) = false) : PE X (.Call (.Name x p) [] [] pos) (tMake C sp dvs E tNil) :=
  ⟨fun pins s σ H Q I h => wpAny_Call_Name_kw (ld_glob I hg hm (PySem.W.callWith_K0 I.kIn M.kp (F.made (us := []) M hr hu hb hd hx I .nil h)) hdb)⟩
end
/-- a def of the text by its body -/
theorem FnG.of {CX : CXT} {P : Program} {w : World} {K : PySem.W.Frag} {mg : Str → Option Value} {base : Heap} {k n : Nat} {f : Addr} {name qual : Str} {pa : Arguments} {body : List Stmt} {sc : Scope} {dV kV doc pm cdv ct oc : Value} {an od : Option Addr}
    {osl : Array (Option Value)} {N ps : List Str} {sp : Sp} (lk : K.lookup f = some ⟨oc, od, .func (PySem.W.fnOf name qual pa body sc dV kV doc pm an cdv ct), osl⟩) (hcd : PySem.W.codeIn K cdv qual = true) (S : FnScope N ps sc) (num : ps.length = n)
    (len : ∀ vs H Q E, sp vs H Q E → vs.length = n)
    (hbody : ∀ (A : Around) (outer : List PySem.Env) (s : Shared) (H : Hp) (vs : List V) (Q : VK) (E : XK), A.guards = some [] → Room k (A.deeper (envOfC qual sc s.heap.objs.size f cdv)) → sp vs H Q E →
      ∃ t, PSs (cxOf CX P w K mg base N qual sc f cdv A outer s H E) body t ∧ t { nx := fun _ H' => Q .non H', rt := Q } (start N vs) H) :
    FnG P w K mg base CX (k + 1) f (PySem.W.fnOf name qual pa body sc dV kV doc pm an cdv ct) n ps sp := by
  refine ⟨num, len, fun A outer s H ar us vs Q E hu hr e0 hb r wish => ?_⟩
  have stays := fun b o e => (e0.bs b o e).1
  have inH : K.In s.heap := e0.mod.kin.keeps stays
  have free : s.heap.NoLimit := e0.mod.nolimit.keeps stays
  refine codeAny_call_function hr.depth (inH _ _ lk) rfl S.co S.gen rfl (PySem.W.codeRec_of inH hcd) (hb _ _ _ _ (wpAny_newFunctionEnv_cells S.kind ?_ fun env he s1 x => ?_))
  · rintro ⟨y, v⟩ hy
    exact (S.par y (List.of_mem_zip hy).1).elim .inl fun q => .inr ⟨q, PySem.W.cellsFrom_some _ _ _ (.inl q)⟩
  subst he
  refine ⟨free.keeps x.toInCall.keep, codeAny_func ?_⟩
  obtain ⟨t, ht, hq⟩ := hbody A outer s H vs Q E hu (hr.deeper _) wish
  have I := inv_start (CX := CX) (E := E) S hr.hd e0 ((len _ _ _ _ wish).trans num.symm) r x
  refine wpAny_mono (ht.run [] s1 (start N vs) H _ I hq) ?_ fun e s' hs => hs
  rintro fl s' hs
  cases fl with
  | ret u =>
    obtain ⟨v, _, H', J, rv, q⟩ := hs
    exact ⟨v, H', J.os, J.bare, J.base, J.hok, rv, q⟩
  | next =>
    obtain ⟨_, H', J, q⟩ := hs
    exact ⟨V.non, H', J.os, J.bare, J.base, J.hok, rfl, q⟩
  | brk =>
    obtain ⟨_, _, _, q⟩ := hs
    exact q.elim
  | cont =>
    obtain ⟨_, _, _, q⟩ := hs
    exact q.elim
end IP
namespace IP
open PySem PySem.Spec PyProof.Rows L2

/-! ### built-in functions -/
def bfO (b : BF) (vs : List Val) (S : Store) : Out Val := match vs with
    | [x] => match lookF S x with
      | some p => optD (bfP b [p]) S
      | none => .err
    | [.dat p, .dat q] => optD (bfP b [p, q]) S
    | _ => .err
theorem evE_bf {cf : CallF} {b : BF} {es : List IE} {s : Env} {S : Store} : evE cf (.bf b es) s S = (evL cf es s S).bind (bfO b) := by
  simp only [evE]
  rfl
theorem CRmon {X : Cx} {f : Value} {r r' : List V → Hp → VK → Prop} (h : CallR X f r) (m : ∀ vs H Q, r' vs H Q → r vs H Q) : CallR X f r' := fun pins s σ H xs us Q I r q => h pins s σ H xs us Q I r (m _ _ _ q)
theorem CRor {X : Cx} {f : Value} {r r' : List V → Hp → VK → Prop} (h : CallR X f r) (h' : CallR X f r') : CallR X f (fun vs H Q => r vs H Q ∨ r' vs H Q) := fun pins s σ H xs us Q I rv q => q.elim (fun q => h pins s σ H xs us Q I rv q) fun q => h' pins s σ H xs us Q I rv q
/-- what a built-in function computes -/
def rB (G : GC) (b : BF) : List V → Hp → VK → Prop := fun vs H Q => ∃ F loc S args, SimS G F loc S H ∧ RVs G F loc S H args vs ∧ PostV G W0 [] F loc S H (bfO b args S) Q
theorem rB_of {G : GC} {b : BF} {r : List V → Hp → VK → Prop} (two : ∀ p q, bfP b [p, q] = none)
    (one : ∀ F loc S H x w p d Q, SimS G F loc S H → RV G F loc S H x w → lookF S x = some p → bfP b [p] = some d → (∀ w' F' loc' H', Nxt G F loc S H F' loc' S H' → Rp G.K F' H' w' d → Q w' H') → r [w] H Q) : ∀ vs H Q, rB G b vs H Q → r vs H Q := by
  rintro vs H Q ⟨F, loc, S, args, hS, rv, p⟩
  unfold bfO at p
  split at p
  · rename_i x
    cases rv with
    | cons r0 l =>
      cases l
      split at p
      · rename_i d hd
        cases q : bfP b [d] with
        | none => rw [q] at p; exact False.elim p
        | some e =>
          rw [q] at p
          exact one F loc S H x _ d e Q hS r0 hd q fun w' F' loc' H' n rr => p w' F' loc' H' n (show RV G F' loc' S H' (.dat e) w' from rr)
      · exact False.elim p
  · rw [two] at p
    exact False.elim p
  · exact False.elim p
section
variable {X : Cx} {G : GC} {W : WX} {cf : CallF} {b : BF} {e : Expr} {es : List Expr} {ie : IE} {ies : List IE} {pos p : Pos} {x : Str} {id T : String}
theorem bfO_nox {vs : List Val} {S : Store} {c : Nat} {fs : List PyData} {S' : Store} : bfO b vs S ≠ .exc c fs S' := by
  unfold bfO
  split
  · split
    · rename_i q _
      cases bfP b [q] <;> exact fun z => by cases z
    · exact fun z => by cases z
  · rename_i p q
    cases bfP b [p, q] <;> exact fun z => by cases z
  · exact fun z => by cases z
theorem bf_rd {ies : List IE} : ∀ t H Q, rdE G W cf (.bf b ies) t H Q → tCB (rB G b) (rdL G W cf ies) t H Q := by
  rintro t H Q ⟨F, loc, s, S, hS, hE, p⟩
  rw [evE_bf] at p
  refine ⟨F, loc, s, S, hS, hE, Post.bind p fun vs S1 ws F1 loc1 H1 n r p1 => ⟨F1, loc1, S1, vs, n.sim, r, ?_⟩⟩
  cases q : bfO b vs S1 with
  | ok v S' => rw [q] at p1; exact p1
  | err => rw [q] at p1; exact p1
  | exc c fs S' => exact absurd q bfO_nox
theorem E_bf (hc : CallR X (.builtin id) (rB G b)) (hg : Gl X x) (hm : X.mg x = none) (hv : bootBuiltins x = some (.builtin id)) (ha : PA X (e :: es) (rdL G W cf ies)) (hn : x ≠ "__name__") (hdb : (x == ("__debug__" : Str)) = false)
    (he : starEach (e :: es) X.env = (false, eval e X.env) :: starEach es X.env) (hpl : (backTo pos (starEach es X.env)).any (·.1) = false) : PE X (.Call (.Name x p) (e :: es) [] pos) (rdE G W cf (.bf b ies)) :=
  PEmon (pe_callB hc hg hm hv ha hn hdb he hpl) bf_rd
theorem E_bfT (hc : CallR X (.type T) (rB G b)) (hg : Gl X x) (hm : X.mg x = none) (hv : bootBuiltins x = some (.type T)) (ha : PA X (e :: es) (rdL G W cf ies)) (hn : x ≠ "__name__") (hdb : (x == ("__debug__" : Str)) = false)
    (he : starEach (e :: es) X.env = (false, eval e X.env) :: starEach es X.env) (hpl : (backTo pos (starEach es X.env)).any (·.1) = false) : PE X (.Call (.Name x p) (e :: es) [] pos) (rdE G W cf (.bf b ies)) :=
  PEmon (pe_callTy hc hg hm hv ha hn hdb he hpl) bf_rd
/-- a new list of one argument -/
def rN (G : GC) (b : BF) : List V → Hp → VK → Prop := fun vs H Q => ∃ F loc S x w p ps, vs = [w] ∧ SimS G F loc S H ∧ RV G F loc S H x w ∧ lookF S x = some p ∧ bfP b [p] = some (.list ps) ∧
  ∀ xs y, RpL G.K F H xs ps → H y = none → Q (.ref y) (upd H y (.lst xs))
theorem nw_rd (hl : ∀ p d, bfP b [p] = some d → ∃ ps, d = .list ps) : ∀ t H Q, rdF G W cf (.bf b [ie]) t H Q → tCB (rN G b) (rdL G W cf [ie]) t H Q := by
  rintro t H Q ⟨F, loc, s, S, hS, hE, p⟩
  rw [evE_bf] at p
  refine ⟨F, loc, s, S, hS, hE, ?_⟩
  cases q0 : evL cf [ie] s S with
  | err => rw [q0] at p; exact p
  | exc c fs S' => rw [q0] at p; exact p
  | ok vs S1 =>
  have ln := evL_len _ _ _ _ _ q0
  rw [q0, Out.bind_ok] at p
  intro ws F1 loc1 H1 n r
  have p1 := Post.step n p
  cases r with
  | nil => cases ln
  | @cons x w us zs r0 l =>
  cases l with
  | cons => cases ln
  | nil =>
  unfold bfO at p
  dsimp only at p
  split at p
  · rename_i d hd
    cases q : bfP b [d] with
    | none => rw [q] at p; exact False.elim p
    | some e =>
      obtain ⟨ps, rfl⟩ := hl _ _ q
      rw [q] at p
      exact ⟨F1, loc1, S1, _, _, d, ps, rfl, n.sim, r0, hd, q, fun xs y rl hy => p _ _ _ _ (n.trans (Nxt.lay n.sim hy)) (FrR.new n.sim rl hy (n.dom _ hy))⟩
  · exact False.elim p
theorem F_bf (hl : ∀ p d, bfP b [p] = some d → ∃ ps, d = .list ps) (hc : CallR X (.builtin id) (rN G b)) (hg : Gl X x) (hm : X.mg x = none) (hv : bootBuiltins x = some (.builtin id)) (ha : PA X [e] (rdL G W cf [ie])) (hn : x ≠ "__name__") (hdb : (x == ("__debug__" : Str)) = false)
    (he : starEach [e] X.env = (false, eval e X.env) :: starEach [] X.env) (hpl : (backTo pos (starEach [] X.env)).any (·.1) = false) : PE X (.Call (.Name x p) [e] [] pos) (rdF G W cf (.bf b [ie])) :=
  PEmon (pe_callB hc hg hm hv ha hn hdb he hpl) (nw_rd hl)
theorem F_bfT (hl : ∀ p d, bfP b [p] = some d → ∃ ps, d = .list ps) (hc : CallR X (.type T) (rN G b)) (hg : Gl X x) (hm : X.mg x = none) (hv : bootBuiltins x = some (.type T)) (ha : PA X [e] (rdL G W cf [ie])) (hn : x ≠ "__name__") (hdb : (x == ("__debug__" : Str)) = false)
    (he : starEach [e] X.env = (false, eval e X.env) :: starEach [] X.env) (hpl : (backTo pos (starEach [] X.env)).any (·.1) = false) : PE X (.Call (.Name x p) [e] [] pos) (rdF G W cf (.bf b [ie])) :=
  PEmon (pe_callTy hc hg hm hv ha hn hdb he hpl) (nw_rd hl)
/-! the functions -/
theorem rd_sql {K : PySem.W.Frag} {H : Hp} {a : Addr} {xs : List V} (h : Rd H a (.lst xs)) : SqL K H a xs := .inl h
theorem b_len (hK : G.K = X.K) : CallR X (.builtin "len") (rB G .len) := by
  refine CRmon (CRor call_len_seq call_len_str) (rB_of (fun p q => by cases p <;> rfl) fun F loc S H x w p d Q hS r hp hd k => ?_)
  cases p with
  | list xs =>
    cases hd
    obtain ⟨a, vs, rfl, h1, h2⟩ := look_list hS r hp
    exact .inl ⟨a, vs, rfl, .inl (rd_sql h1), k _ _ _ _ (.refl hS) (by rw [h2.length]; exact .int _)⟩
  | tuple xs =>
    cases hd
    obtain ⟨a, vs, rfl, h1, h2⟩ := look_tup hS r hp
    exact .inl ⟨a, vs, rfl, .inr (hK ▸ h1), k _ _ _ _ (.refl hS) (by rw [h2.length]; exact .int _)⟩
  | str s =>
    simp only [bfP] at hd
    split at hd
    · rename_i hz
      cases hd
      cases look_str r hp
      exact .inr ⟨s, rfl, hz, k _ _ _ _ (.refl hS) (.int _)⟩
    · cases hd
  | _ => cases hd
theorem b_abs : CallR X (.builtin "abs") (rB G .abs) := by
  refine CRmon call_abs (rB_of (fun p q => by cases p <;> rfl) fun F loc S H x w p d Q hS r hp hd k => ?_)
  cases p with
  | int i =>
    cases hd
    cases look_int r hp
    exact ⟨i, rfl, k _ _ _ _ (.refl hS) (.int _)⟩
  | _ => cases hd
theorem b_int : CallR X (.type "int") (rB G .int) := by
  refine CRmon call_int1 (rB_of (fun p q => by cases p <;> rfl) fun F loc S H x w p d Q hS r hp hd k => ?_)
  cases p with
  | int i =>
    cases hd
    cases look_int r hp
    exact .inl ⟨i, rfl, k _ _ _ _ (.refl hS) (.int _)⟩
  | bool i =>
    cases hd
    cases look_bool r hp
    exact .inr ⟨i, rfl, k _ _ _ _ (.refl hS) (.int _)⟩
  | _ => cases hd
theorem b_str : CallR X (.type "str") (rB G .str) := by
  refine CRmon (CRor call_str_int SkE.call_str_str) (rB_of (fun p q => by cases p <;> rfl) fun F loc S H x w p d Q hS r hp hd k => ?_)
  cases p with
  | int i =>
    simp only [bfP] at hd
    split at hd
    · rename_i hz
      cases hd
      cases look_int r hp
      exact .inl ⟨i, rfl, hz, k _ _ _ _ (.refl hS) (.str _)⟩
    · cases hd
  | str i =>
    cases hd
    cases look_str r hp
    exact .inr ⟨i, rfl, k _ _ _ _ (.refl hS) (.str _)⟩
  | _ => cases hd
theorem b_tuple (hK : G.K = X.K) : CallR X (.type "tuple") (rB G .tuple) := by
  refine CRmon call_tuple_of (rB_of (fun p q => by cases p <;> rfl) fun F loc S H x w p d Q hS r hp hd k => ?_)
  cases p with
  | list xs =>
    cases hd
    obtain ⟨a, vs, rfl, h1, h2⟩ := look_list hS r hp
    exact ⟨a, vs, rfl, .inl ⟨rd_sql h1, fun l hl => new_tup hS h2 k hl⟩⟩
  | tuple xs =>
    cases hd
    have whole := look_tupR hS r hp
    obtain ⟨a, vs, rfl, h1, h2⟩ := look_tup hS r hp
    exact ⟨a, vs, rfl, .inr ⟨hK ▸ h1, k _ _ _ _ (.refl hS) whole⟩⟩
  | _ => cases hd
theorem b_list (hK : G.K = X.K) : CallR X (.type "list") (rN G .list) := by
  refine CRmon call_list_of ?_
  rintro vs H Q ⟨F, loc, S, x, w, p, ps, rfl, hS, r, hp, hd, k⟩
  cases p with
  | list xs =>
    cases hd
    obtain ⟨a, vs, rfl, h1, h2⟩ := look_list hS r hp
    exact ⟨a, vs, rfl, .inl (rd_sql h1), fun l hl => k _ _ h2 hl⟩
  | tuple xs =>
    cases hd
    obtain ⟨a, vs, rfl, h1, h2⟩ := look_tup hS r hp
    exact ⟨a, vs, rfl, .inr (hK ▸ h1), fun l hl => k _ _ h2 hl⟩
  | _ => cases hd
theorem bools_rp {K : PySem.W.Frag} {F : Addr → Prop} {H : Hp} : ∀ {ps : List PyData} {vs : List V} {bs : List Bool}, RpL K F H vs ps → boolsOf ps = some bs → vs = bs.map V.bl
  | [], _, _, .nil, e => by cases e; rfl
  | .bool b :: r, _, _, .cons h l, e => by
    simp only [boolsOf, Option.map_eq_some_iff] at e
    obtain ⟨bs, e, rfl⟩ := e
    cases h
    rw [bools_rp l e]
    rfl
  | .none :: _, _, _, _, e => by cases e
  | .int _ :: _, _, _, _, e => by cases e
  | .str _ :: _, _, _, _, e => by cases e
  | .list _ :: _, _, _, _, e => by cases e
  | .tuple _ :: _, _, _, _, e => by cases e
  | .dict _ :: _, _, _, _, e => by cases e
theorem intsOf_eq : ∀ {ps : List PyData} {ns : List Int}, intsOf ps = some ns → ps = ns.map PyData.int
  | [], _, e => by cases e; rfl
  | .int b :: r, _, e => by
    simp only [intsOf, Option.map_eq_some_iff] at e
    obtain ⟨bs, e, rfl⟩ := e
    rw [intsOf_eq e]
    rfl
  | .none :: _, _, e => by cases e
  | .bool _ :: _, _, e => by cases e
  | .str _ :: _, _, e => by cases e
  | .list _ :: _, _, e => by cases e
  | .tuple _ :: _, _, e => by cases e
  | .dict _ :: _, _, e => by cases e
theorem ints_rp {K : PySem.W.Frag} {F : Addr → Prop} {H : Hp} {ps : List PyData} {vs : List V} {ns : List Int} (r : RpL K F H vs ps) (e : intsOf ps = some ns) : vs = ns.map V.int := by
  rw [intsOf_eq e] at r
  exact r.of_ints
theorem b_all (hc : X.calm = true) : CallR X (.builtin "all") (rB G .all) := by
  refine CRmon (cr_all hc) (rB_of (fun p q => by cases p <;> rfl) fun F loc S H x w p d Q hS r hp hd k => ?_)
  cases p with
  | list xs =>
    simp only [bfP, Option.map_eq_some_iff] at hd
    obtain ⟨bs, hb, rfl⟩ := hd
    obtain ⟨a, vs, rfl, h1, h2⟩ := look_list hS r hp
    cases bools_rp h2 hb
    exact ⟨a, bs, rfl, rd_sql h1, k _ _ _ _ (.refl hS) (.bl _)⟩
  | _ => cases hd
theorem b_any (hc : X.calm = true) : CallR X (.builtin "any") (rB G .any) := by
  refine CRmon (cr_any hc) (rB_of (fun p q => by cases p <;> rfl) fun F loc S H x w p d Q hS r hp hd k => ?_)
  cases p with
  | list xs =>
    simp only [bfP, Option.map_eq_some_iff] at hd
    obtain ⟨bs, hb, rfl⟩ := hd
    obtain ⟨a, vs, rfl, h1, h2⟩ := look_list hS r hp
    cases bools_rp h2 hb
    exact ⟨a, bs, rfl, rd_sql h1, k _ _ _ _ (.refl hS) (.bl _)⟩
  | _ => cases hd
theorem b_sum (hc : X.calm = true) : CallR X (.builtin "sum") (rB G .sum) := by
  refine CRmon (cr_sum hc) (rB_of (fun p q => by cases p <;> rfl) fun F loc S H x w p d Q hS r hp hd k => ?_)
  cases p with
  | list xs =>
    simp only [bfP, Option.map_eq_some_iff] at hd
    obtain ⟨bs, hb, rfl⟩ := hd
    obtain ⟨a, vs, rfl, h1, h2⟩ := look_list hS r hp
    cases ints_rp h2 hb
    exact ⟨a, bs, rfl, rd_sql h1, k _ _ _ _ (.refl hS) (.int _)⟩
  | _ => cases hd
theorem rB_two {b : BF} {r : List V → Hp → VK → Prop} (one : ∀ p, bfP b [p] = none)
    (two : ∀ F loc S H w w' p q d Q, SimS G F loc S H → Rp G.K F H w p → Rp G.K F H w' q → bfP b [p, q] = some d → (∀ w' F' loc' H', Nxt G F loc S H F' loc' S H' → Rp G.K F' H' w' d → Q w' H') → r [w, w'] H Q) : ∀ vs H Q, rB G b vs H Q → r vs H Q := by
  rintro vs H Q ⟨F, loc, S, args, hS, rv, p⟩
  unfold bfO at p
  split at p
  · split at p
    · rw [one] at p; exact False.elim p
    · exact False.elim p
  · rename_i p1 p2
    cases rv with
    | cons r0 l => cases l with
    | cons r1 l =>
      cases l
      cases q : bfP b [p1, p2] with
      | none => rw [q] at p; exact False.elim p
      | some e =>
        rw [q] at p
        exact two F loc S H _ _ p1 p2 e Q hS r0 r1 q fun w' F' loc' H' n rr => p w' F' loc' H' n (show RV G F' loc' S H' (.dat e) w' from rr)
  · exact False.elim p
theorem b_min2 (hc : X.calm = true) : CallR X (.builtin "min") (rB G .min2) := by
  refine CRmon (call_min2 hc) (rB_two (fun p => by cases p <;> rfl) fun F loc S H w w' p q d Q hS r r' hd k => ?_)
  cases p <;> try (cases hd)
  cases q <;> try (cases hd)
  cases r
  cases r'
  exact ⟨_, _, rfl, k _ _ _ _ (.refl hS) (.int _)⟩
theorem b_max2 (hc : X.calm = true) : CallR X (.builtin "max") (rB G .max2) := by
  refine CRmon (call_max2 hc) (rB_two (fun p => by cases p <;> rfl) fun F loc S H w w' p q d Q hS r r' hd k => ?_)
  cases p <;> try (cases hd)
  cases q <;> try (cases hd)
  cases r
  cases r'
  exact ⟨_, _, rfl, k _ _ _ _ (.refl hS) (.int _)⟩
end
end IP
namespace IP
open PySem PySem.Spec PyProof.Rows L2

/-! ### isinstance -/
def tyN : PyData → String
  | .none => "NoneType"
  | .bool _ => "bool"
  | .int _ => "int"
  | .str _ => "str"
  | .list _ => "list"
  | .tuple _ => "tuple"
  | .dict _ => "dict"
def tkN : TK → String
  | .int => "int"
  | .bool => "bool"
  | .tuple => "tuple"
  | .str => "str"
theorem ty_of {G : GC} {F : Addr → Prop} {loc : Nat → Addr} {S : Store} {H : Hp} {x : Val} {w : V} {p : PyData} (hS : SimS G F loc S H) (r : RV G F loc S H x w) (e : lookF S x = some p) : TyX G.K H w (.type (tyN p)) := by
  cases x with
  | exn c fs => cases e
  | dat q =>
    cases e
    have r : Rp G.K F H w p := r
    cases r with
    | non => exact .base .non
    | bl b => exact .base (.bl b)
    | int i => exact .base (.int i)
    | str i => exact .base (.str i)
    | lst f e l => exact .base (.lst e)
    | tup f e l => exact .base (.tup e)
    | tuw f l =>
      obtain ⟨o, its, n, h1, h2, _⟩ := f
      exact .kTuple h1 h2
    | dic f e l => exact .base (.dK e)
    | dit f e l => exact .base (.dT e)
  | ref l =>
    obtain ⟨rfl, hl⟩ := r
    rcases look_ref e with ⟨xs, h, rfl⟩ | ⟨xs, h, rfl⟩ | ⟨xs, h, rfl⟩
    · obtain ⟨vs, e1, _⟩ := hS.ob l _ h
      exact .base (.lst e1)
    · rcases hS.ob l _ h with ⟨vs, e1, _⟩ | ⟨vs, e1, _⟩
      · exact .base (.dK e1)
      · exact .base (.dT e1)
    · obtain ⟨o, vs, e1, _⟩ := hS.ob l _ h
      exact .base (.frz e1)
theorem isTy_kit {K : PySem.W.Frag} (t : TK) (p : PyData) : PySem.W.kitOne K (.type (tyN p)) (.type (tkN t)) = some (isTy t p) := by
  refine kit_ty ?_
  cases p <;> cases t <;> (dsimp only [tyN, tkN, isTy]; decide +kernel)
section
variable {X : Cx} {G : GC} {W : WX} {cf : CallF} {b : BF} {e : Expr} {es : List Expr} {ie : IE} {ies : List IE} {pos p p2 : Pos} {x : Str} {id T : String}
theorem E_isi {t : TK} {nm : Str} (hK : G.K = X.K) (hg : Gl X "isinstance") (hm : X.mg "isinstance" = none) (hgT : Gl X nm) (hmT : X.mg nm = none) (hvT : bootBuiltins nm = some (.type (tkN t))) (hnT : nm ≠ "__name__") (hdT : (nm == ("__debug__" : Str)) = false) (ha : PE X e (rdE G W cf ie))
    (he : starEach [e, .Name nm p2] X.env = (false, eval e X.env) :: starEach [.Name nm p2] X.env) (he2 : starEach [.Name nm p2] X.env = (false, eval (.Name nm p2) X.env) :: starEach [] X.env) (hpl : (backTo pos (starEach [.Name nm p2] X.env)).any (·.1) = false) :
    PE X (.Call (.Name "isinstance" p) [e, .Name nm p2] [] pos) (rdE G W cf (.bf (.isi t) [ie])) := by
  refine PEmon (pe_callB call_isi hg hm (by rfl) (pa_cons ha (pa_cons (pe_bltn (v := .ty (tkN t)) hgT hmT hvT rfl hnT hdT) pa_nil he2) he) (by decide) (by decide) he hpl) ?_
  rintro t' H Q ⟨F, loc, s, S, hS, hE, p⟩
  rw [evE_bf] at p
  simp only [evL] at p
  refine ⟨F, loc, s, S, hS, hE, ?_⟩
  cases q : evE cf ie s S with
  | err => rw [q] at p; exact p
  | exc c fs S' => rw [q] at p; exact p
  | ok v S1 =>
    rw [q] at p
    simp only [Out.bind_ok, bfO] at p
    intro w F1 loc1 H1 n r
    split at p
    · rename_i d hd
      have p : PostV G W t' F loc S H (.ok (.dat (.bool (isTy t d))) S1) Q := p
      exact ⟨w, .ty (tkN t), _, _, _, rfl, .ty _, hK ▸ ty_of n.sim r hd, isTy_kit t d, p _ _ _ _ n (show Rp _ _ _ _ _ from .bl _)⟩
    · exact False.elim p
end
/-! ### what is read, dicts too -/
def Sys (h : Heap) : Prop := ∃ o, h.get? sysModules = some o
theorem no_sys {X : Cx} {pins : List (Addr × Obj)} {σ : L2.St} {H : Hp} {s : Shared} (hs : Sys X.base) (I : Inv X pins σ H s) : ∀ a o, H a = some o → a ≠ sysModules := fun a o e z => by
  obtain ⟨o1, h1⟩ := hs
  have := (I.bs _ _ h1).2
  rw [z, this] at e
  cases e
section
variable {X : Cx} {pins : List (Addr × Obj)} {σ : L2.St} {H : Hp} {s : Shared} {F : Addr → Prop}
theorem rd_key {k : Key} {v : Value} (h : keyIs k v = true) : Reads s.heap v (keyD k) [] := by
  rcases keyIs_shape h with ⟨i, t, rfl, rfl⟩ | ⟨x, t, rfl, rfl⟩
  · exact .int i t
  · exact .str x t
theorem rd_keys : ∀ {es : List DictEntry} {kvs : List (Key × Value)} {prog : Program} {w : World}, Pairs (mixKind prog w) es kvs → ReadsAll s.heap (es.map (·.key)) (kvs.map fun kv => keyD kv.1) [] ∧ es.map (·.val) = kvs.map (·.2)
  | _, _, _, _, .nil => ⟨.nil, rfl⟩
  | _, _, _, _, .cons h1 h2 r => by
    obtain ⟨q1, q2⟩ := rd_keys r
    exact ⟨.cons (as := []) (bs := []) (rd_key h1) q1, by rw [List.map_cons, List.map_cons, h2, q2]⟩
theorem rd_tkeys (I : Inv X pins σ H s) {k : List Key} {a : Addr} (h : H a = some (.tup (k.map kV))) : Reads s.heap (.ref a) (.tuple (k.map keyD)) [] := by
  obtain ⟨its, rv, ⟨o, ho, hc, n, hd⟩, _⟩ := I.tuple (.inl (.inl h))
  have : ∀ {k : List Key} {us : List Value}, Vals (k.map kV) us → ReadsAll s.heap us (k.map keyD) [] := by
    intro k
    induction k with
    | nil => intro us r; cases r; exact .nil
    | cons x k ih =>
      intro us r
      cases r with
      | cons r1 r2 =>
        refine .cons (as := []) (bs := []) ?_ (ih r2)
        cases x with
        | inl i => obtain ⟨t, rfl⟩ := r1; exact .int i t
        | inr i => obtain ⟨t, rfl⟩ := r1; exact .str i t
  exact Reads.tuple ho hc hd (this rv)
mutual
theorem Rp.reads (Z : ∀ a o, H a = some o → a ≠ sysModules) (I : Inv X pins σ H s) : ∀ {d : PyData} {v : V} {u : Value}, Rp X.K F H v d → RelV v u → ∃ as, Reads s.heap u d as ∧ sysModules ∉ as
  | _, _, _, .non, r => by cases r; exact ⟨_, Reads.none, by simp⟩
  | _, _, _, .bl b, r => by cases r; exact ⟨_, Reads.bool b, by simp⟩
  | _, _, _, .int i, r => by obtain ⟨t, rfl⟩ := r; exact ⟨_, Reads.int i t, by simp⟩
  | _, _, _, .str x, r => by obtain ⟨t, rfl⟩ := r; exact ⟨_, Reads.str x t, by simp⟩
  | _, _, _, .lst f e l, r => by
    cases r
    obtain ⟨its, rv, ⟨o, n, ho, hc, _, hd⟩, _⟩ := I.list (.inl (.inl e))
    obtain ⟨as, hr, hn⟩ := RpL.reads Z I l rv
    exact ⟨_, Reads.list ho hc hd hr, by rw [List.mem_cons, not_or]; exact ⟨Ne.symm (Z _ _ e), hn⟩⟩
  | _, _, _, .tup f e l, r => by
    cases r
    obtain ⟨its, rv, ⟨o, ho, hc, n, hd⟩, _⟩ := I.tuple (.inl (.inl e))
    obtain ⟨as, hr, hn⟩ := RpL.reads Z I l rv
    exact ⟨_, Reads.tuple ho hc hd hr, hn⟩
  | _, _, _, .tuw f l, r => by
    cases r
    obtain ⟨its, rv, ⟨o, ho, hc, n, hd⟩, _⟩ := I.tuple (.inr f)
    obtain ⟨as, hr, hn⟩ := RpL.reads Z I l rv
    exact ⟨_, Reads.tuple ho hc hd hr, hn⟩
  | _, _, _, .dic (kvs := kvs) f e l, r => by
    cases r
    obtain ⟨_, hs, vs, hv, o, es, ep, ho, hx, hd, _, hp, _⟩ := I.hok _ _ e
    obtain ⟨k1, k2⟩ := rd_keys (s := s) hp
    obtain ⟨bs, hr, hn, hk⟩ := RpD.reads Z I l hv
    rw [← hk] at k1
    rw [← k2] at hr
    refine ⟨_, Reads.dict ho hx.1 hd k1 hr, ?_⟩
    simp only [List.append_nil, List.cons_append, List.nil_append, List.mem_cons, not_or]
    exact ⟨Ne.symm (Z _ _ e), hn⟩
  | _, _, _, .dit (kvs := kvs) f e l, r => by
    cases r
    obtain ⟨_, hs, xs, hv, o, es, ep, ho, hx, hd, he, _⟩ := I.hok _ _ e
    obtain ⟨bs, hr, hn, hk⟩ := RpT.reads Z I l hv
    have e1 : es.toList.map (·.key) = xs.map fun x => .ref x.2.1 := by rw [he, List.map_map]; rfl
    have e2 : es.toList.map (·.val) = xs.map fun x => x.2.2 := by rw [he, List.map_map]; rfl
    rw [← e1] at hk
    rw [← e2] at hr
    refine ⟨_, Reads.dict ho hx.1 hd hk hr, ?_⟩
    simp only [List.append_nil, List.cons_append, List.nil_append, List.mem_cons, not_or]
    exact ⟨Ne.symm (Z _ _ e), hn⟩
theorem RpL.reads (Z : ∀ a o, H a = some o → a ≠ sysModules) (I : Inv X pins σ H s) : ∀ {ds : List PyData} {vs : List V} {us : List Value}, RpL X.K F H vs ds → Vals vs us → ∃ as, ReadsAll s.heap us ds as ∧ sysModules ∉ as
  | _, _, _, .nil, r => by cases r; exact ⟨_, ReadsAll.nil, by simp⟩
  | _, _, _, .cons r1 l, r => by
    cases r with
    | cons q1 q2 =>
      obtain ⟨as, h1, n1⟩ := Rp.reads Z I r1 q1
      obtain ⟨bs, h2, n2⟩ := RpL.reads Z I l q2
      exact ⟨_, ReadsAll.cons h1 h2, by rw [List.mem_append, not_or]; exact ⟨n1, n2⟩⟩
theorem RpD.reads (Z : ∀ a o, H a = some o → a ≠ sysModules) (I : Inv X pins σ H s) : ∀ {ds : List (PyData × PyData)} {kvs : List (Key × V)} {vs : List (Key × Value)}, RpD X.K F H kvs ds → KV kvs vs → ∃ as, ReadsAll s.heap (vs.map (·.2)) (ds.map (·.2)) as ∧ sysModules ∉ as ∧ ds.map (·.1) = vs.map fun kv => keyD kv.1
  | _, _, _, .nil, r => by cases r; exact ⟨_, ReadsAll.nil, by simp, rfl⟩
  | _, _, _, .cons r1 l, r => by
    cases r with
    | cons q1 q2 =>
      obtain ⟨as, h1, n1⟩ := Rp.reads Z I r1 q1.2
      obtain ⟨bs, h2, n2, e2⟩ := RpD.reads Z I l q2
      exact ⟨_, ReadsAll.cons h1 h2, by rw [List.mem_append, not_or]; exact ⟨n1, n2⟩, by rw [List.map_cons, List.map_cons, e2, ← q1.1]⟩
theorem RpT.reads (Z : ∀ a o, H a = some o → a ≠ sysModules) (I : Inv X pins σ H s) : ∀ {ds : List (PyData × PyData)} {kvs : List (List Key × V)} {xs : List (List Key × Addr × Value)}, RpT X.K F H kvs ds → Paired (fun (p : List Key × V) (q : List Key × Addr × Value) => p.1 = q.1 ∧ H q.2.1 = some (.tup (p.1.map kV)) ∧ RelV p.2 q.2.2) kvs xs →
    ∃ as, ReadsAll s.heap (xs.map fun x => x.2.2) (ds.map (·.2)) as ∧ sysModules ∉ as ∧ ReadsAll s.heap (xs.map fun x => Value.ref x.2.1) (ds.map (·.1)) []
  | _, _, _, .nil, r => by cases r; exact ⟨_, ReadsAll.nil, by simp, ReadsAll.nil⟩
  | _, _, _, .cons r1 l, r => by
    cases r with
    | cons q1 q2 =>
      obtain ⟨as, h1, n1⟩ := Rp.reads Z I r1 q1.2.2
      obtain ⟨bs, h2, n2, e2⟩ := RpT.reads Z I l q2
      exact ⟨_, ReadsAll.cons h1 h2, by rw [List.mem_append, not_or]; exact ⟨n1, n2⟩, ReadsAll.cons (as := []) (bs := []) (rd_tkeys I q1.2.1) e2⟩
end
theorem look_reads (Z : ∀ a o, H a = some o → a ≠ sysModules) {G : GC} {loc : Nat → Addr} {S : Store} {x : Val} {v : V} {u : Value} {p : PyData} (hK : G.K = X.K) (hS : SimS G F loc S H) (r : RV G F loc S H x v) (e : lookF S x = some p) (I : Inv X pins σ H s) (ru : RelV v u) : ∃ as, Reads s.heap u p as ∧ sysModules ∉ as := by
  cases x with
  | dat q =>
    cases e
    exact Rp.reads Z I (hK ▸ show Rp G.K F H v p from r) ru
  | ref l =>
    obtain ⟨rfl, hl⟩ := r
    cases ru
    rcases look_ref e with ⟨xs, h1, h2⟩ | ⟨xs, h1, h2⟩ | ⟨xs, h1, h2⟩
    · subst h2
      obtain ⟨vs, h3, h4⟩ := hS.ob l _ h1
      rw [hK] at h4
      obtain ⟨its, rv, ⟨o, n, ho, hc, _, hd⟩, _⟩ := I.list (.inl (.inl h3))
      obtain ⟨as, hr, hn⟩ := RpL.reads Z I h4 rv
      exact ⟨_, Reads.list ho hc hd hr, by rw [List.mem_cons, not_or]; exact ⟨Ne.symm (Z _ _ h3), hn⟩⟩
    · subst h2
      rcases hS.ob l _ h1 with ⟨kvs, h3, h4⟩ | ⟨kvs, h3, h4⟩
      · rw [hK] at h4
        exact Rp.reads (F := fun b => F b ∨ b = loc l) Z I (.dic (.inr rfl) h3 (RpD.mono (fun _ f => .inl f) (fun _ _ _ e => e) h4)) rfl
      · rw [hK] at h4
        exact Rp.reads (F := fun b => F b ∨ b = loc l) Z I (.dit (.inr rfl) h3 (RpT.mono (fun _ f => .inl f) (fun _ _ _ e => e) h4)) rfl
    · subst h2
      obtain ⟨o, vs, h3, h4⟩ := hS.ob l _ h1
      rw [hK] at h4
      obtain ⟨its, rv, ⟨o, n, ho, hc, _, hd⟩, _⟩ := I.list (.inl (.inr ⟨_, h3⟩))
      obtain ⟨as, hr, hn⟩ := RpL.reads Z I h4 rv
      exact ⟨_, Reads.list ho hc hd hr, by rw [List.mem_cons, not_or]; exact ⟨Ne.symm (Z _ _ h3), hn⟩⟩
  | exn c fs => cases e
end
section
variable {X : Cx} {G : GC} {W : WX} {cf : CallF} {b : BF} {e : Expr} {es : List Expr} {ie : IE} {ies : List IE} {pos p p2 : Pos} {x : Str} {id T : String}
/-! ### repr -/
theorem b_repr (hsys : Sys X.base) (hK : G.K = X.K) (hu : X.A.guards = some []) (hr : X.A.units + 200 < cLine) : CallR X (.builtin "repr") (rB G .repr) := by
  intro pins s σ H vs us Q I rv h
  refine rB_of (b := .repr) (r := fun vs H Q => Vals vs us → Inv X pins σ H s → wpAny (model X.prog X.w) X.A (call (.builtin "repr") us) (EP X pins σ Q) X.xe s) (fun p q => by cases p <;> rfl) ?_ vs H Q h rv I
  clear h rv I
  intro F loc S H x w p d Q hS r hp hd k rv I
  obtain ⟨u, rfl, ru⟩ := vals1 rv
  simp only [bfP] at hd
  split at hd
  rotate_left
  · cases hd
  rename_i hok
  cases hd
  simp only [repOk, Bool.and_eq_true, decide_eq_true_eq] at hok
  obtain ⟨⟨h1, h3⟩, h4⟩ := hok
  have q := k _ _ _ _ (.refl hS) (.str p.shown)
  obtain ⟨as, rd, hn⟩ := look_reads (no_sys hsys I) hK hS r hp I ru
  have fin : ∀ tk, EP X pins σ Q (.str p.shown tk) { s with toks := tk + 1 } → True := fun _ _ => True.intro
  cases rd with
  | none => exact PySem.P.repr_of_none ⟨.str _, H, I.tok _, ⟨_, rfl⟩, q⟩
  | bool b => exact PySem.P.repr_of_bool ⟨.str _, H, I.tok _, ⟨_, rfl⟩, by cases b <;> exact q⟩
  | int i t => exact PySem.P.repr_of_int (by simpa [PyData.showable] using h1) ⟨.str _, H, I.tok _, ⟨_, rfl⟩, q⟩
  | str y t => exact PySem.P.repr_of_str ⟨.str _, H, I.tok _, ⟨_, rfl⟩, q⟩ h4
  | list a1 a2 a3 a4 => exact repr_of_reads' (.list a1 a2 a3 a4) h1 (fun _ => hn) hu (by omega) (fun _ _ e => e) (fun h' u tk hk => ⟨.str _, H, I.kept hk, ⟨_, rfl⟩, q⟩) h4
  | tuple a1 a2 a3 a4 => exact repr_of_reads' (.tuple a1 a2 a3 a4) h1 (fun _ => hn) hu (by omega) (fun _ _ e => e) (fun h' u tk hk => ⟨.str _, H, I.kept hk, ⟨_, rfl⟩, q⟩) h4
  | dict a1 a2 a3 a4 a5 => exact repr_of_reads' (.dict a1 a2 a3 a4 a5) h1 (fun _ => hn) hu (by omega) (fun _ _ e => e) (fun h' u tk hk => ⟨.str _, H, I.kept hk, ⟨_, rfl⟩, q⟩) h4
end
/-! ### rows of ints in order -/
def encR (r : List Int) : PyData := .tuple (r.map .int)
theorem rows_eq : ∀ {ps : List PyData} {rs : List (List Int)}, rowsInt ps = some rs → ps = rs.map encR
  | [], _, e => by cases e; rfl
  | .tuple xs :: r, rs, e => by
    simp only [rowsInt] at e
    split at e
    · rename_i ns rs' h1 h2
      cases e
      rw [rows_eq h2, intsOf_eq h1]
      rfl
    · cases e
  | .none :: _, _, e => by cases e
  | .bool _ :: _, _, e => by cases e
  | .int _ :: _, _, e => by cases e
  | .str _ :: _, _, e => by cases e
  | .list _ :: _, _, e => by cases e
  | .dict _ :: _, _, e => by cases e
theorem lex_iff : ∀ a b : List Int, HT.lexLt a b = decide (a < b)
  | [], [] => by simp [HT.lexLt]
  | [], _ :: _ => by simp [HT.lexLt]
  | _ :: _, [] => by simp [HT.lexLt]
  | x :: xs, y :: ys => by
    rw [HT.lexLt_cons, lex_iff xs ys]
    by_cases h : x = y
    · subst h
      rw [if_pos rfl]
      simp [List.cons_lt_cons_iff]
    · rw [if_neg h]
      simp [List.cons_lt_cons_iff, h]
theorem lt_enc (a b : List Int) : PySem.W.dataLt (encR a) (encR b) = HT.lexLt a b := by
  unfold encR
  rw [PySem.W.dataLt_tuple, lex_iff]
  exact PySem.W.dataLt_ints a b
theorem alike_rows : ∀ a b : List Int, PySem.W.alikeAll (a.map .int) (b.map .int) = true
  | [], _ => by cases ‹List Int› <;> rfl
  | _ :: _, [] => rfl
  | x :: xs, y :: ys => by
    show (PySem.W.alike (.int x) (.int y) && PySem.W.alikeAll (xs.map .int) (ys.map .int)) = true
    rw [alike_rows xs ys]
    rfl
theorem alike_enc (a b : List Int) : PySem.W.alike (encR a) (encR b) = true := by
  unfold encR
  show PySem.W.alikeAll (a.map .int) (b.map .int) = true
  exact alike_rows a b
theorem ins_perm {A : Type} (lt : A → A → Bool) (x : A) : ∀ l : List A, (insBy lt x l).Perm (x :: l)
  | [] => .refl _
  | y :: r => by
    unfold insBy
    split
    · exact .refl _
    · exact ((ins_perm lt x r).cons y).trans (.swap x y r)
theorem sort_perm {A : Type} (lt : A → A → Bool) : ∀ l : List A, (sortBy lt l).Perm l
  | [] => .refl _
  | x :: r => (ins_perm lt x _).trans ((sort_perm lt r).cons x)
def leL (a b : List Int) : Prop := HT.lexLt b a = false
theorem leL_trans {a b c : List Int} (h1 : leL a b) (h2 : leL b c) : leL a c := by
  unfold leL at *
  rw [lex_iff, decide_eq_false_iff_not] at *
  exact List.not_lt.mpr (List.le_trans (List.not_lt.mp h1) (List.not_lt.mp h2))
theorem leL_of_lt {a b : List Int} (h : HT.lexLt a b = true) : leL a b := by
  unfold leL
  rw [lex_iff, decide_eq_false_iff_not]
  rw [lex_iff, decide_eq_true_eq] at h
  exact List.not_lt.mpr (List.le_of_lt h)
theorem leL_anti {a b : List Int} (h1 : leL a b) (h2 : leL b a) : a = b := by
  unfold leL at *
  rw [lex_iff, decide_eq_false_iff_not] at *
  exact List.le_antisymm (List.not_lt.mp h1) (List.not_lt.mp h2)
theorem ins_sorted (x : List Int) : ∀ l : List (List Int), l.Pairwise leL → (insBy HT.lexLt x l).Pairwise leL
  | [], _ => List.pairwise_singleton _ _
  | y :: r, h => by
    unfold insBy
    split
    · rename_i hx
      refine List.pairwise_cons.mpr ⟨fun z hz => ?_, h⟩
      rcases List.mem_cons.mp hz with e | hz
      · rw [e]; exact leL_of_lt hx
      · exact leL_trans (leL_of_lt hx) ((List.pairwise_cons.mp h).1 z hz)
    · rename_i hx
      refine List.pairwise_cons.mpr ⟨fun z hz => ?_, ins_sorted x r (List.pairwise_cons.mp h).2⟩
      rcases List.mem_cons.mp ((ins_perm HT.lexLt x r).mem_iff.mp hz) with e | hz
      · rw [e]
        unfold leL
        simpa using hx
      · exact (List.pairwise_cons.mp h).1 z hz
theorem sort_sorted : ∀ l : List (List Int), (sortBy HT.lexLt l).Pairwise leL
  | [] => .nil
  | x :: r => ins_sorted x _ (sort_sorted r)
theorem dle_enc (a b : List Int) : PySem.W.dataLe false encR a b = !HT.lexLt b a := by
  rw [PySem.W.dataLe_eq]
  show (!PySem.W.dataLt (encR b) (encR a)) = _
  rw [lt_enc]
theorem merge_sort (l : List (List Int)) : l.mergeSort (PySem.W.dataLe false encR) = sortBy HT.lexLt l := by
  have h1 := List.pairwise_mergeSort (le := PySem.W.dataLe false encR) (fun a b c h1 h2 => by
    rw [dle_enc] at *
    have h1 : leL a b := by simpa [leL] using h1
    have h2 : leL b c := by simpa [leL] using h2
    have h3 : HT.lexLt c a = false := leL_trans h1 h2
    rw [h3]; rfl) (fun a b => by
    rw [dle_enc, dle_enc]
    cases h : HT.lexLt a b with
    | false => simp
    | true =>
      have h3 : HT.lexLt b a = false := leL_of_lt h
      rw [h3]; rfl) l
  refine List.Perm.eq_of_pairwise (le := leL) (fun a b _ _ h1 h2 => leL_anti h1 h2) (h1.imp fun {a b} h => ?_) (sort_sorted l) ((List.mergeSort_perm l _).trans (sort_perm HT.lexLt l).symm)
  rw [dle_enc] at h
  show HT.lexLt b a = false
  simpa using h
section
variable {X : Cx} {G : GC}
theorem vals_getV : ∀ {xs : List V} {us : List Value} {i : Nat} {u : Value}, Vals xs us → us[i]? = some u → ∃ x, xs[i]? = some x ∧ RelV x u := fun {xs us i u} r e => by
  have hi : i < xs.length := by rw [r.length]; exact (List.getElem?_eq_some_iff.mp e).1
  obtain ⟨u', h1, h2⟩ := r.get (List.getElem?_eq_getElem hi)
  rw [e] at h1
  cases h1
  exact ⟨_, List.getElem?_eq_getElem hi, h2⟩
theorem rows_each {K : PySem.W.Frag} {F : Addr → Prop} {H : Hp} : ∀ {rs : List (List Int)} {vs : List V} {us : List Value}, RpL K F H vs (rs.map encR) → Vals vs us → PySem.W.EachIs (fun u r => ∃ w, RelV w u ∧ Rp K F H w (encR r)) us rs
  | [], _, _, .nil, .nil => .nil
  | _ :: _, _, _, .cons r l, .cons q k => .cons ⟨_, q, r⟩ (rows_each l k)
theorem each_rows {K : PySem.W.Frag} {F : Addr → Prop} {H : Hp} : ∀ {rs : List (List Int)} {us : List Value}, PySem.W.EachIs (fun u r => ∃ w, RelV w u ∧ Rp K F H w (encR r)) us rs → ∃ vs, RpL K F H vs (rs.map encR) ∧ Vals vs us
  | _, _, .nil => ⟨[], .nil, .nil⟩
  | _, _, .cons ⟨w, r, q⟩ k => by
    obtain ⟨vs, h1, h2⟩ := each_rows k
    exact ⟨w :: vs, .cons q h1, .cons r h2⟩
theorem noD : ∀ ns : List Int, PyData.hasDictAll (ns.map .int) = false
  | [] => rfl
  | n :: ns => by
    show (PyData.hasDict (.int n) || PyData.hasDictAll (ns.map .int)) = false
    rw [noD ns]
    rfl
theorem dep0 : ∀ ns : List Int, PyData.depthAll (ns.map .int) ≤ 1
  | [] => by simp [PyData.depthAll]
  | n :: ns => by
    have := dep0 ns
    simp only [List.map_cons, PyData.depthAll, PyData.depth]
    omega
theorem depR (r : List Int) : (encR r).depth ≤ 3 := by
  have := dep0 r
  unfold encR
  simp only [PyData.depth]
  omega
theorem depRs : ∀ rs : List (List Int), PyData.depthAll (rs.map encR) ≤ 3
  | [] => by simp [PyData.depthAll]
  | r :: rs => by
    have := depRs rs
    have := depR r
    simp only [List.map_cons, PyData.depthAll]
    omega
theorem b_sorted (hK : G.K = X.K) (hr : X.A.units + 200 < cLine) : CallR X (.builtin "sorted") (rN G .sorted) := by
  intro pins s σ H vs us Q I rv h
  obtain ⟨F, loc, S, x, w, p, ps, rfl, hS, r, hp, hd, k⟩ := h
  cases p <;> try (cases hd)
  rename_i xs
  simp only [bfP, Option.bind_eq_some_iff] at hd
  obtain ⟨rs, h1, h2⟩ := hd
  split at h2
  rotate_left
  · cases h2
  rename_i hne
  cases h2
  cases rows_eq h1
  obtain ⟨a, vs, rfl, e1, l⟩ := look_list hS r hp
  obtain ⟨u, rfl, ru⟩ := vals1 rv
  cases (show u = Value.ref a from ru)
  obtain ⟨its, rv, hl, hz⟩ := I.list (rd_sql e1)
  have ee := rows_each l rv
  have er : PySem.W.EachIs (fun v b => ∃ as, Reads s.heap v (encR b) as) its rs := ee.mono fun u b ⟨w, q, rr⟩ => Dp.reads I _ _ _ (by rw [← hK]; exact rr.dp (noD b)) q
  have hal : PySem.W.AllAlike (rs.map encR) := by
    intro d hd d' hd'
    obtain ⟨b, _, rfl⟩ := List.mem_map.mp hd
    obtain ⟨b', _, rfl⟩ := List.mem_map.mp hd'
    exact alike_enc b b'
  have hso : PySem.W.Sortable (rs.map encR) := by
    refine .inl fun d hd => ?_
    obtain ⟨b, hb, rfl⟩ := List.mem_map.mp hd
    have := List.all_eq_true.mp hne b hb
    cases b with
    | nil => cases this
    | cons y z => exact ⟨_, _, rfl⟩
  refine PySem.W.sorted_data (enc := encR) hl.isList ee er hal hso (by rw [l.length, List.length_map] at hz; exact hz) (fun b _ => by have := depR b; omega) fun out ho eo => ?_
  · rw [merge_sort] at eo
    obtain ⟨ws, q1, q2⟩ := each_rows eo
    obtain ⟨ep, he'⟩ := PyProof.Rows.sortedAll_at s.heap its out.toArray
    have hlen : ws.length ≤ sizeLine := by
      rw [l.length, List.length_map] at hz
      rw [q1.length, List.length_map, (sort_perm HT.lexLt rs).length_eq]
      exact hz
    exact ⟨.ref _, upd H (s.heap.objs.size + 1) (.lst ws), I.laid (t' := s.toks) (fun _ _ => PyProof.Rows.sortedAll_old) (Nat.le_succ _) ⟨hlen, out, ep, q2, he'⟩, rfl, k _ _ q1 (I.hok.fresh (Nat.le_succ _))⟩
theorem least_eq (x : List Int) : ∀ rs : List (List Int), PySem.W.minD (encR x) (rs.map encR) = encR (leastBy HT.lexLt x rs) := by
  intro rs
  unfold PySem.W.minD
  induction rs generalizing x with
  | nil => rfl
  | cons y r ih =>
    rw [List.map_cons, List.foldl_cons, lt_enc]
    unfold leastBy
    split
    · exact ih y
    · exact ih x
theorem b_min (hK : G.K = X.K) (hr : X.A.units + 200 < cLine) (hc : X.calm = true) : CallR X (.builtin "min") (rB G .min) := by
  intro pins s σ H vs us Q I rv h
  refine rB_of (b := .min) (r := fun vs H Q => Vals vs us → Inv X pins σ H s → wpAny (model X.prog X.w) X.A (call (.builtin "min") us) (EP X pins σ Q) X.xe s) (fun p q => by cases p <;> rfl) ?_ vs H Q h rv I
  clear h rv I
  intro F loc S H x w p d Q hS r hp hd k rv I
  cases p <;> try (cases hd)
  rename_i xs
  simp only [bfP] at hd
  split at hd
  rotate_left
  · cases hd
  rename_i b rs h1
  cases hd
  cases rows_eq h1
  obtain ⟨a, vs, rfl, e1, l⟩ := look_list hS r hp
  obtain ⟨u, rfl, ru⟩ := vals1 rv
  cases (show u = Value.ref a from ru)
  obtain ⟨its, rv, hl, hz⟩ := I.list (rd_sql e1)
  have dpA : DpAll X.K H vs ((b :: rs).map encR) := by
    rw [← hK]
    refine RpL.dp l ?_
    generalize (b :: rs) = ys
    induction ys with
    | nil => rfl
    | cons y ys ih =>
      show (PyData.hasDict (encR y) || PyData.hasDictAll (ys.map encR)) = false
      rw [ih, show PyData.hasDict (encR y) = false from noD y]
      rfl
  obtain ⟨as, rd⟩ := Dp.readsAll I _ _ _ dpA rv
  have rd : ReadsAll s.heap its.toArray.toList (encR b :: rs.map encR) as := rd
  refine PySem.W.min_list_data (I.ok.hd hc) hl.isList rd ⟨fun y hy z hz => ?_, fun y hy => ?_⟩ (by have := depRs (b :: rs); rw [List.map_cons] at this; omega) fun i v h' tk bs hi rv' hk => ?_
  · obtain ⟨b1, _, rfl⟩ := List.mem_map.mp (show y ∈ (b :: rs).map encR from hy)
    obtain ⟨b2, _, rfl⟩ := List.mem_map.mp (show z ∈ (b :: rs).map encR from hz)
    exact alike_enc b1 b2
  · obtain ⟨b1, _, rfl⟩ := List.mem_map.mp (show y ∈ (b :: rs).map encR from hy)
    exact fun z => by cases z
  · rw [List.getElem?_toArray] at hi
    obtain ⟨w, hw, rw'⟩ := vals_getV rv hi
    obtain ⟨d, hd, rp⟩ := l.getV hw
    rw [least_eq] at rv'
    rw [List.getElem?_map] at hd
    obtain ⟨row, _, rfl⟩ : ∃ row, (b :: rs)[i]? = some row ∧ encR row = d := by simpa using hd
    have J := I.kept (t' := tk) hk
    obtain ⟨as2, rd2⟩ := Dp.reads J _ _ _ (by rw [← hK]; exact rp.dp (noD row)) rw'
    have e := PySem.W.alike_unique _ _ _ _ _ (alike_enc row _) rd2 rv'
    rw [e] at rp
    exact ⟨w, H, J, rw', k _ _ _ _ (.refl hS) rp⟩
end
end IP
namespace IP
open PySem PySem.Spec PyProof.Rows L2

section
variable {X : Cx} {G : GC} {W : WX} {cf : CallF} {a b c e : Expr} {ia ib ic ie : IE} {pos : Pos} {es rest : List Expr} {ies : List IE} {op op' : CK} {o o' : CmpOp}
/-! ### what is not run -/
theorem E_bad : PE X e (rdE G W cf .bad) := ⟨fun pins s σ H Q I ⟨F, loc, s', S, _, _, p⟩ => by
  simp only [evE] at p
  exact p.elim⟩
/-! ### tests -/
theorem rd_cmp (hK : G.K = X.K) {t : L2.St} {H : Hp} {Q : VK} (h : rdE G W cf (.cmp op ia ib) t H Q) : tOp (rCmp X.K (cmpP op)) (rdE G W cf ia) (rdE G W cf ib) t H Q := by
  obtain ⟨F, loc, s, S, hS, hE, p⟩ := h
  simp only [evE] at p
  exact ⟨F, loc, s, S, hS, hE, Post.bind p fun v S1 w F1 loc1 H1 n r p1 => ⟨F1, loc1, s, S1, n.sim, hE.next n, Post.bind p1 fun v2 S2 w2 F2 loc2 H2 n2 r2 p2 => cmp_post hK n2.sim (r.next n2) r2 p2⟩⟩
theorem T_cmp (ho : OpR X (compareOp o) (rCmp X.K (cmpP op))) (hK : G.K = X.K) (ha : PE X a (rdE G W cf ia)) (hb : PE X b (rdE G W cf ib)) (hm : behindInMarks o b = false) : PT X (.Compare a [o] [b] pos) (rdT G W cf (.cmp op ia ib)) :=
  PTmon (pt_cmpR ho ha hb hm) fun t H Q h => rd_cmp hK (rdT_of h)
theorem rd_isn {n : Bool} {t : L2.St} {H : Hp} {Q : VK} (h : rdE G W cf (.isc n ia .none) t H Q) : rdE G W cf ia t H fun x H1 => Q (.bl (if n = true then !decide (x = .non) else decide (x = .non))) H1 := by
  obtain ⟨F, loc, s, S, hS, hE, p⟩ := h
  simp only [evE] at p
  refine ⟨F, loc, s, S, hS, hE, Post.bind p fun v S1 w F1 loc1 H1 m r p1 => ?_⟩
  have q : ∀ k : Bool, PostV G W t F1 loc1 S1 H1 (.ok (.dat (.bool k)) S1) Q → Q (.bl k) H1 := fun k p => p _ _ _ _ (.refl m.sim) (show Rp _ _ _ _ _ from .bl k)
  have ne : w ≠ .non → (if n = true then !decide (w = .non) else decide (w = .non)) = n := fun h => by
    cases n <;> simp [h]
  cases v with
  | dat d =>
    have r : Rp G.K F1 H1 w d := r
    cases d with
    | none =>
      cases r
      have := q _ p1
      cases n <;> simpa using this
    | bool k => cases r; rw [ne (fun z => by cases z)]; exact q _ p1
    | int k => cases r; rw [ne (fun z => by cases z)]; exact q _ p1
    | str k => cases r; rw [ne (fun z => by cases z)]; exact q _ p1
    | list k => cases r; rw [ne (fun z => by cases z)]; exact q _ p1
    | tuple k => cases r <;> (rw [ne (fun z => by cases z)]; exact q _ p1)
    | dict k => cases r <;> (rw [ne (fun z => by cases z)]; exact q _ p1)
  | ref l =>
    obtain ⟨rfl, _⟩ := r
    rw [ne (fun z => by cases z)]
    exact q _ p1
  | exn c fs => exact False.elim p1
theorem T_isN {n : Bool} {j pos'} (ho : o = if n = true then .IsNot else .Is) (ha : PE X a (rdE G W cf ia)) : PT X (.Compare a [o] [.Constant .none j pos'] pos) (rdT G W cf (.isc n ia .none)) := by
  cases n with
  | true =>
    rw [if_pos rfl] at ho
    subst ho
    refine PTmon (pt_cmp (pc_notN ha)) fun t H Q h => ?_
    have := rd_isn (rdT_of h)
    simp only [if_pos] at this
    exact this
  | false =>
    rw [if_neg Bool.false_ne_true] at ho
    subst ho
    refine PTmon (pt_cmp (pc_isN ha)) fun t H Q h => ?_
    have := rd_isn (rdT_of h)
    simp only [if_neg Bool.false_ne_true] at this
    exact this
theorem rd_isb {n k : Bool} {t : L2.St} {H : Hp} {Q : VK} (h : rdE G W cf (.isc n ia (.bool k)) t H Q) : rdE G W cf ia t H fun x H1 => ∃ d : Bool, x = .bl d ∧ Q (.bl (if n = true then !decide (d = k) else decide (d = k))) H1 := by
  obtain ⟨F, loc, s, S, hS, hE, p⟩ := h
  simp only [evE] at p
  refine ⟨F, loc, s, S, hS, hE, Post.bind p fun v S1 w F1 loc1 H1 m r p1 => ?_⟩
  cases v with
  | dat d =>
    have r : Rp G.K F1 H1 w d := r
    cases d with
    | bool k' =>
      cases r
      exact ⟨k', rfl, p1 _ _ _ _ (.refl m.sim) (show Rp _ _ _ _ _ from .bl _)⟩
    | _ => exact False.elim p1
  | ref l => exact False.elim p1
  | exn c fs => exact False.elim p1
theorem T_isB {n k : Bool} {j pos'} (ho : o = if n = true then .IsNot else .Is) (ha : PE X a (rdE G W cf ia)) : PT X (.Compare a [o] [.Constant (.bool k) j pos'] pos) (rdT G W cf (.isc n ia (.bool k))) := by
  cases n with
  | true =>
    rw [if_pos rfl] at ho
    subst ho
    refine PTmon (pt_cmpR op_notBl ha pe_bl rfl) fun t H Q h => ?_
    obtain ⟨F, loc, s, S, hS, hE, p⟩ := rd_isb (rdT_of h)
    refine ⟨F, loc, s, S, hS, hE, Post.weak p ?_⟩
    rintro w H1 ⟨d, rfl, q⟩
    exact ⟨d, k, rfl, rfl, q⟩
  | false =>
    rw [if_neg Bool.false_ne_true] at ho
    subst ho
    refine PTmon (pt_cmpR op_isBl ha pe_bl rfl) fun t H Q h => ?_
    obtain ⟨F, loc, s, S, hS, hE, p⟩ := rd_isb (rdT_of h)
    refine ⟨F, loc, s, S, hS, hE, Post.weak p ?_⟩
    rintro w H1 ⟨d, rfl, q⟩
    exact ⟨d, k, rfl, rfl, q⟩
theorem rd_chn (hK : G.K = X.K) {t : L2.St} {H : Hp} {Q : VK} (h : rdE G W cf (.chn op op' ia ib ic) t H Q) : tChain (rCmp X.K (cmpP op)) (rCmp X.K (cmpP op')) (rdE G W cf ia) (rdE G W cf ib) (rdE G W cf ic) t H Q := by
  obtain ⟨F, loc, s, S, hS, hE, p⟩ := h
  simp only [evE] at p
  refine ⟨F, loc, s, S, hS, hE, Post.bind p fun v S1 w F1 loc1 H1 n r p1 => ⟨F1, loc1, s, S1, n.sim, hE.next n, Post.bind p1 fun v2 S2 w2 F2 loc2 H2 n2 r2 p2 => ?_⟩⟩
  split at p2
  · rename_i x y
    have r : Rp G.K F2 H2 w x := RV.next (v := .dat x) n2 r
    have r2 : Rp G.K F2 H2 w2 y := r2
    split at p2
    · rename_i e
      refine rCmp_of hK n2.sim r r2 e ⟨true, rfl, ?_⟩
      rw [if_pos rfl]
      refine ⟨F2, loc2, s, S2, n2.sim, (hE.next n).next n2, Post.bind p2 fun v3 S3 w3 F3 loc3 H3 n3 r3 p3 => ?_⟩
      split at p3
      · rename_i z
        cases q : cmpP op' y z with
        | none => rw [q] at p3; exact False.elim p3
        | some k =>
          rw [q] at p3
          exact rCmp_of hK n3.sim (RV.next (v := .dat y) n3 r2) r3 q (p3 _ _ _ _ (.refl n3.sim) (show Rp _ _ _ _ _ from .bl k))
      · exact False.elim p3
    · rename_i e
      refine rCmp_of hK n2.sim r r2 e ⟨false, rfl, ?_⟩
      rw [if_neg Bool.false_ne_true]
      exact p2 _ _ _ _ (.refl n2.sim) (show Rp _ _ _ _ _ from .bl false)
    · exact False.elim p2
  · exact False.elim p2
theorem T_chn (ho : OpR X (compareOp o) (rCmp X.K (cmpP op))) (ho' : OpR X (compareOp o') (rCmp X.K (cmpP op'))) (hK : G.K = X.K) (ha : PE X a (rdE G W cf ia)) (hb : PE X b (rdE G W cf ib)) (hc : PE X c (rdE G W cf ic))
    (hm : lastMarks [o, o'] [b, c] = false) : PT X (.Compare a [o, o'] [b, c] pos) (rdT G W cf (.chn op op' ia ib ic)) := PTmon (pt_chain ho ho' ha hb hc hm) fun t H Q h => rd_chn hK (rdT_of h)
theorem C_chn (ho : OpR X (compareOp o) (rCmp X.K (cmpP op))) (ho' : OpR X (compareOp o') (rCmp X.K (cmpP op'))) (hK : G.K = X.K) (ha : PE X a (rdE G W cf ia)) (hb : PE X b (rdE G W cf ib)) (hc : PE X c (rdE G W cf ic))
    (hm : lastMarks [o, o'] [b, c] = false) : PE X (.Compare a [o, o'] [b, c] pos) (rdE G W cf (.chn op op' ia ib ic)) := PEmon (pe_chain ho ho' ha hb hc hm) fun t H Q h => rd_chn hK h
theorem T_val (ha : PE X a (rdE G W cf ia)) (he : ∀ whole, isTrue a X.env whole = (do let v ← whole; standAt a.pos; holding [v] (truthy v))) : PT X a (rdT G W cf ia) :=
  PTmon (pt_val ha he) fun t H Q h => rdT_of h
/-- the wish for a test, from that for a value -/
theorem rdT_dat {t : L2.St} {F : Addr → Prop} {loc : Nat → Addr} {S : Store} {H : Hp} {s : Env} {Q : Bool → Hp → Prop} {i : IE} (hS : SimS G F loc S H) (hE : SimE G F loc S H s t) (p : PostB G W t F loc S H (evT cf i s S) Q) : rdT G W cf i t H Q := ⟨F, loc, s, S, hS, hE, p⟩
theorem T_not (ha : PT X a (rdT G W cf ia)) : PT X (.UnaryOp .Not a pos) (rdT G W cf (.not ia)) := by
  refine PTmon (L2.pt_not ha) ?_
  rintro t H Q ⟨F, loc, s, S, hS, hE, p⟩
  refine ⟨F, loc, s, S, hS, hE, ?_⟩
  unfold evT at p ⊢
  simp only [evE] at p
  cases q : evE cf ia s S with
  | err => rw [q] at p; exact p
  | exc c fs S' => rw [q] at p; exact p
  | ok v S1 =>
    rw [q] at p
    simp only [Out.bind_ok] at p ⊢
    cases v with
    | dat d =>
      cases d with
      | bool k =>
        intro w F1 loc1 H1 n r
        subst r
        exact p _ _ _ _ n rfl
      | _ => exact p
    | ref l => exact p
    | exn c fs => exact p
theorem T_and (ha : PT X a (rdT G W cf ia)) (hb : PW X (.BoolOp .And (b :: rest) pos) (rdT G W cf ib)) : PW X (.BoolOp .And (a :: b :: rest) pos) (rdT G W cf (.and ia ib)) := by
  refine PWmon (pw_and ha hb) ?_
  rintro t H Q ⟨F, loc, s, S, hS, hE, p⟩
  refine ⟨F, loc, s, S, hS, hE, ?_⟩
  unfold evT at p ⊢
  simp only [evE] at p
  cases q : evE cf ia s S with
  | err => rw [q] at p; exact p
  | exc c fs S' => rw [q] at p; exact p
  | ok v S1 =>
    rw [q] at p
    simp only [Out.bind_ok] at p ⊢
    cases v with
    | dat d =>
      cases d with
      | bool k =>
        intro w F1 loc1 H1 n r
        subst r
        cases k with
        | true =>
          rw [if_pos rfl]
          exact ⟨F1, loc1, s, S1, n.sim, hE.next n, Post.step n p⟩
        | false =>
          rw [if_neg Bool.false_ne_true]
          exact p _ _ _ _ n rfl
      | _ => exact p.elim
    | ref l => exact p.elim
    | exn c fs => exact p.elim
theorem T_or (ha : PT X a (rdT G W cf ia)) (hb : PW X (.BoolOp .Or (b :: rest) pos) (rdT G W cf ib)) : PW X (.BoolOp .Or (a :: b :: rest) pos) (rdT G W cf (.or ia ib)) := by
  refine PWmon (pw_or ha hb) ?_
  rintro t H Q ⟨F, loc, s, S, hS, hE, p⟩
  refine ⟨F, loc, s, S, hS, hE, ?_⟩
  unfold evT at p ⊢
  simp only [evE] at p
  cases q : evE cf ia s S with
  | err => rw [q] at p; exact p
  | exc c fs S' => rw [q] at p; exact p
  | ok v S1 =>
    rw [q] at p
    simp only [Out.bind_ok] at p ⊢
    cases v with
    | dat d =>
      cases d with
      | bool k =>
        intro w F1 loc1 H1 n r
        subst r
        cases k with
        | true =>
          rw [if_pos rfl]
          exact p _ _ _ _ n rfl
        | false =>
          rw [if_neg Bool.false_ne_true]
          exact ⟨F1, loc1, s, S1, n.sim, hE.next n, Post.step n p⟩
      | _ => exact p.elim
    | ref l => exact p.elim
    | exn c fs => exact p.elim
end
end IP
namespace IP
open PySem PySem.Spec PyProof.Rows L2

/-! ### t[::-1] of a tuple -/
section
variable {prog : Program} {w : World} {A : Around} {E : Value → Shared → Prop} {s : Shared}
theorem back_applied {sl : Addr} {vl vu vs : Value} {n : Nat} {Q : Int × Int × Nat → Shared → Prop} (hs : s.heap.IsSliceOf sl vl vu vs) (pl : IsPart vl none) (pu : IsPart vu none) (ps : IsPart vs (some (-1)))
    (h : Q ((n : Int) - 1, -1, n) s) : wpAny (model prog w) A (Builtin.Slice.sliceApplied (.ref sl) (pure (n : Int))) Q E s := by
  obtain ⟨o, ho, hc, hd⟩ := id hs
  unfold Builtin.Slice.sliceApplied Builtin.Slice.sliceFields
  refine wpAny_bind (wpAny_bind (wpAny_field ho hd (x := vl) rfl (wpAny_bind (wpAny_field ho hd (x := vu) rfl (wpAny_bind (wpAny_field ho hd (x := vs) rfl (wpAny_pure ?_)))))))
  refine wpAny_bind (HT.slicePart_ ps ?_)
  show wpAny _ _ (if ((-1 : Int) == 0) = true then _ else _) _ _ s
  rw [if_neg (by decide)]
  refine wpAny_bind (HT.slicePart_ pl (wpAny_bind (HT.slicePart_ pu (wpAny_bind (wpAny_pure ?_)))))
  have e1 : Builtin.Slice.sliceAdjust none none (-1) (n : Int) = ((n : Int) - 1, -1) := by
    unfold Builtin.Slice.sliceAdjust
    simp
  have e2 : Builtin.Slice.slicePlaces ((n : Int) - 1) (-1) (-1) = n := by
    unfold Builtin.Slice.slicePlaces
    simp
    omega
  show wpAny _ _ (match Builtin.Slice.sliceAdjust none none (-1) (n : Int) with | (lo, hi) => pure (lo, (-1 : Int), Builtin.Slice.slicePlaces lo hi (-1))) _ _ s
  rw [e1]
  show wpAny _ _ (pure ((n : Int) - 1, (-1 : Int), Builtin.Slice.slicePlaces ((n : Int) - 1) (-1) (-1))) _ _ s
  rw [e2]
  exact wpAny_pure h
theorem fm_congr {A B : Type} {f g : A → Option B} : ∀ {l : List A}, (∀ x ∈ l, f x = g x) → l.filterMap f = l.filterMap g
  | [], _ => rfl
  | x :: l, h => by
    rw [List.filterMap_cons, List.filterMap_cons, h x List.mem_cons_self, fm_congr fun y hy => h y (List.mem_cons_of_mem _ hy)]
theorem back_pick (xs : Array Value) : ((List.range xs.size).filterMap fun (k : Nat) => xs[(((xs.size : Nat) : Int) - 1 + (k : Int) * (-1)).toNat]?).toArray = xs.toList.reverse.toArray := by
  congr 1
  rw [← PySem.W.krv_all xs, ← List.filterMap_reverse, ← PySem.W.krv_range, List.filterMap_map]
  refine fm_congr fun k hk => ?_
  have hk := List.mem_range.mp hk
  show xs[_]? = xs[xs.size - 1 - k]?
  congr 1
  omega
theorem back_tuple {t sl : Addr} {items : Array Value} {vl vu vs : Value} {Q : Value → Shared → Prop} (ht : IsTup s.heap t items) (hs : s.heap.IsSliceOf sl vl vu vs) (pl : IsPart vl none) (pu : IsPart vu none) (ps : IsPart vs (some (-1))) (hz : items.size ≤ sizeLine)
    (h : Q (.ref s.heap.objs.size) { s with heap := s.heap.push { cls := .type "tuple", data := .seq items.toList.reverse.toArray } }) : wpAny (model prog w) A (getItem (.ref t) (.ref sl)) Q E s := by
  have fits : sizeOk (.seq items.toList.reverse.toArray) := by
    show items.toList.reverse.toArray.size ≤ sizeLine
    simpa using hz
  obtain ⟨o, ho, hc, _⟩ := id hs
  have tys : s.TypeIs (.ref sl) "slice" := ⟨o, ho, hc⟩
  unfold getItem
  try with_reducible refine wpAny_holding ?_
  first | refine wpAny_bind (wpAny_pure ?_) | skip
  refine wpAny_bind (wpAny_sequenceKey ht.typeIs (by decide) (wpAny_bind (wpAny_callSpecial?_slot (name := Str.ofString "__getitem__") ht.typeIs PyProof.Rows.slot_tuple_getitem (wpAny_call_entry PyProof.Rows.slot_tuple_getitem ht.typeIs PyProof.Rows.entry_tuple_getitem ?_ (PyProof.Rows.args_tuple_getitem _ _)))))
  show wpAny _ _ (Builtin.Tuple.tupleItemsOf (.ref t) >>= _) _ _ s
  refine wpAny_bind (PyProof.Rows.tupleItemsOf_ ht (wpAny_bind (wpAny_typeOf tys ?_)))
  rw [if_pos (by decide)]
  refine wpAny_bind (back_applied hs pl pu ps ?_)
  show wpAny _ _ (if (((items.size : Nat) : Int) - 1 == 0 && (-1 : Int) == 1 && items.size == items.size) = true then _ else _) _ _ s
  rw [if_neg (by simp), back_pick]
  first
    | exact wpAny_bind (m := Builtin.Tuple.tupleExact _) (wpAny_newObj_type (wpAny_pure ⟨_, rfl, wpAny_pure h⟩) fits)
    | exact wpAny_bind (m := Builtin.Tuple.tupleExact _) (wpAny_newObj_type (wpAny_bind (wpAny_pure (wpAny_pure ⟨_, rfl, wpAny_pure h⟩))) fits)
    | exact wpAny_bind (wpAny_bind (m := Builtin.Tuple.tupleExact _) (wpAny_newObj_type (wpAny_pure (wpAny_pure ⟨_, rfl, wpAny_pure h⟩)) fits))
    | exact wpAny_bind (wpAny_bind (m := Builtin.Tuple.tupleExact _) (wpAny_newObj_type (wpAny_pure ⟨_, rfl, wpAny_pure h⟩) fits))
end
def tRevS (K : PySem.W.Frag) (te : TE) : TE := fun σ H Q => te σ H fun x H1 => ∃ a xs, x = .ref a ∧ ((SqL K H1 a xs ∧ ∀ p, H1 p = none → Q (.ref p) (upd H1 p (.lst xs.reverse))) ∨ (SqT K H1 a xs ∧ ∀ p, H1 p = none → Q (.ref p) (upd H1 p (.tup xs.reverse))))
theorem pe_revS {X : Cx} {e : Expr} {te : TE} {k : Nat} {p1 p2 p3 pos : Pos} (he : PE X e te) : PE X (.Subscript e (.Slice none none (some (.UnaryOp .USub (.Constant (.int 1) k p1) p2)) p3) pos) (tRevS X.K te) := by
  refine ⟨fun pins s σ H Q I h => Subscript_ (thn (he.run pins s σ H _ I h) ?_)⟩
  rintro v s1 ⟨x, H1, I1, r1, a, xs, rfl, q⟩
  cases r1
  have hst : PO X (some (.UnaryOp .USub (.Constant (.int 1) k p1) p2)) (tPart (tUn (rU fun i => .int (-i)) (tC (.int 1)))) := po_some (pe_un un_neg pe_int)
  refine wpAny_Slice (thn (po_none.run pins s1 σ H1 (fun o H2 => o = none ∧ H2 = H1) I1 ⟨rfl, rfl⟩) ?_)
  rintro vl s2 ⟨_, _, I2, pl, rfl, rfl⟩
  refine thn (po_none.run pins s2 σ _ (fun o H3 => o = none ∧ H3 = _) I2 ⟨rfl, rfl⟩) ?_
  rintro vu s3 ⟨_, _, I3, pu, rfl, rfl⟩
  refine thn (hst.run pins s3 σ _ (fun o H4 => o = some (-1) ∧ H4 = _) I3 ⟨1, rfl, -1, rfl, rfl, rfl⟩) ?_
  rintro vs s4 ⟨_, H4, I4, ps, rfl, rfl⟩
  have I5 : Inv X pins σ H4 { s4 with heap := s4.heap.push { cls := .type "slice", data := .fields #[vl, vu, vs] } } := I4.kept (t' := s4.toks) fun b ob q => Heap.get?_push_of_some _ q
  show wpAny (model X.prog X.w) X.A (subscriptTail e (.Slice none none (some (.UnaryOp .USub (.Constant (.int 1) k p1) p2)) p3) (.ref a) (.ref s4.heap.objs.size)) (EP X pins σ Q) X.xe { s4 with heap := s4.heap.push { cls := .type "slice", data := .fields #[vl, vu, vs] } }
  rcases q with ⟨hx, q⟩ | ⟨hx, q⟩
  · obtain ⟨its, r, ht, hz⟩ := I5.list hx
    have hlen := r.length
    refine tail_any (ops := [.ref a, .ref s4.heap.objs.size]) ht.isList.typeIs (PySem.slot_list_getitem.lookup) ?_ (by with_unfolding_all rfl)
    refine wpAny_getItem_list_slice ht.isList (Heap.IsSliceOf.new _ vl vu vs) pl pu ps (by decide) ?_ (by rw [List.size_toArray]; omega)
    rw [PySem.W.krv_pick]
    exact ⟨.ref _, _, I5.laid (t' := s4.toks) (o := .lst xs.reverse) (fun b ob q => Heap.get?_push_of_some _ q) (Nat.le_refl _) ⟨by rw [List.length_reverse]; exact hz, _, 0, r.reverse, Heap.get?_push_size _ rfl⟩, rfl, q _ (I5.hok.fresh (Nat.le_refl _))⟩
  · obtain ⟨its, r, ht, hz⟩ := I5.tuple hx
    have hlen := r.length
    refine tail_any (ops := [.ref a, .ref s4.heap.objs.size]) ht.typeIs (PyProof.Rows.slot_tuple_getitem.lookup) ?_ (by with_unfolding_all rfl)
    refine back_tuple ht (Heap.IsSliceOf.new _ vl vu vs) pl pu ps (by rw [List.size_toArray]; omega) ?_
    exact ⟨.ref _, _, I5.laid (t' := s4.toks) (o := .tup xs.reverse) (fun b ob q => Heap.get?_push_of_some _ q) (Nat.le_refl _) ⟨by rw [List.length_reverse]; exact hz, _, r.reverse, IsTup.new _ _⟩, rfl, q _ (I5.hok.fresh (Nat.le_refl _))⟩
end IP
namespace IP
open PySem PySem.Spec PyProof.Rows L2

section
variable {X : Cx} {G : GC} {W : WX} {cf : CallF} {a b c e o : Expr} {ia ib ic ie io : IE} {pos p apos : Pos} {es rest : List Expr} {ies kies : List IE} {x m : Str} {CXT : CXT} {k f n ci : Nat} {fa : Addr} {fd : FuncData} {ps ks : List Str} {ds : List Int} {us : List Value}
/-! ### constants of the module -/
theorem E_gcs {g : Nat} {d : PyData} {v : V} {u : Value} (hg : Gl X x) (hm : X.mg x = some u) (r : RelV v u) (hd : (x == ("__debug__" : Str)) = false) (rp : ∀ F H, Rp G.K F H v d) : PE X (.Name x pos) (rdE G W cf (.gcs g d)) := by
  refine PEmon (pe_glob hg hm r hd) ?_
  rintro t H Q ⟨F, loc, s, S, hS, hE, p⟩
  simp only [evE] at p
  exact p v F loc H (.refl hS) (rp F H)
/-! ### xs[::-1] -/
theorem E_rev {kk : Nat} {p1 p2 p3 : Pos} (hK : G.K = X.K) (ha : PE X a (rdE G W cf ia)) : PE X (.Subscript a (.Slice none none (some (.UnaryOp .USub (.Constant (.int 1) kk p1) p2)) p3) pos) (rdE G W cf (.rev ia)) := by
  refine PEmon (pe_revS ha) ?_
  rintro t H Q ⟨F, loc, s, S, hS, hE, p⟩
  simp only [evE] at p
  refine ⟨F, loc, s, S, hS, hE, ?_⟩
  cases q : evE cf ia s S with
  | err => rw [q] at p; exact p
  | exc c fs S' => rw [q] at p; exact p
  | ok v S1 =>
  rw [q, Out.bind_ok] at p
  intro w F1 loc1 H1 n r
  split at p
  · rename_i d hd
    have p := Post.step n p
    cases d with
    | list xs =>
      obtain ⟨l, vs, rfl, h1, h2⟩ := look_list n.sim r hd
      exact ⟨l, vs, rfl, .inl ⟨hK ▸ rd_sql h1, fun q hq => new_lst n.sim h2.reverse p hq⟩⟩
    | tuple xs =>
      obtain ⟨l, vs, rfl, h1, h2⟩ := look_tup n.sim r hd
      exact ⟨l, vs, rfl, .inr ⟨hK ▸ h1, fun q hq => new_tup n.sim h2.reverse p hq⟩⟩
    | _ => exact p.elim
  · exact p.elim

/-! ### xs.pop(i) -/
theorem RpL.erase {K : PySem.W.Frag} {F : Addr → Prop} {H : Hp} {v : List V} {p : List PyData} (i : Nat) (r : RpL K F H v p) : RpL K F H (v.eraseIdx i) (p.eraseIdx i) := by
  rw [List.eraseIdx_eq_take_drop_succ, List.eraseIdx_eq_take_drop_succ]
  exact (r.take i).append (r.drop (i + 1))
theorem E_pop {j : Nat} {p1 p2 p3 : Pos} {e : Expr} (hN : X.N[j]? = some x) (he : PE X e (rdE G W cf ie)) (hb : ∀ {te : TE}, PE X e te → PE X (.Call (.Attribute (.Name x p1) "pop" p2) [e] [] p3) (tBM X.K "list" rPopAt (tVar j) (tCons te tNil))) :
    PE X (.Call (.Attribute (.Name x p1) "pop" p2) [e] [] p3) (rdE G W cf (.pop j ie)) := by
  refine PEmon (hb he) ?_
  rintro t H Q ⟨F, loc, s, S, hS, hE, p⟩
  simp only [evE] at p
  split at p
  · rename_i l hi
    obtain ⟨w, h1, r⟩ := hE.at_ j _ hi
    have r0 := r
    obtain ⟨rfl, hl⟩ := r
    split at p
    · rename_i ys hy
      obtain ⟨vs, e1, _⟩ := hS.ob l _ hy
      refine ⟨_, h1, .inl ⟨rfl, vs, .inl (.inl e1)⟩, F, loc, s, S, hS, hE, Post.bind p fun v S1 w F1 loc1 H1 n r p1 => ?_⟩
      obtain ⟨q1, _⟩ := r0.next n
      split at p1
      · rename_i k xs hx
        split at p1
        · rename_i hz
          split at p1
          · rename_i jj hj
            split at p1
            · rename_i d hd
              obtain ⟨us, e2, rl⟩ := n.sim.ob l _ hx
              have r : Rp G.K F1 H1 w (.int k) := r
              cases r
              obtain ⟨y, hy2, ry⟩ := rl.get hd
              obtain ⟨g1, g2, g3, g4⟩ := ixN_seq hj
              rw [← rl.length] at g1
              refine ⟨loc1 l, us, k, jj, y, q1, rfl, e2, by omega, by omega, g1, hy2, ?_⟩
              have n2 := Nxt.put (u := .lst (us.eraseIdx jj)) n.sim hx rfl (o' := .lst (xs.eraseIdx jj)) fun S' H' kp len e =>
                ⟨_, e, RpL.erase jj (rl.mono (fun _ f => f) kp)⟩
              exact p1 _ _ _ _ n2 (Rp.mono n2.sub n2.keep ry)
            · exact False.elim p1
          · exact False.elim p1
        · exact False.elim p1
      · exact False.elim p1
    · exact False.elim p
  · exact False.elim p
/-! ### list(range(..)), tuple(range(..)) -/
theorem rg_ok {i j : Int} (h : rgOk i j = true) : RgOk i j := by
  simp only [rgOk, Bool.and_eq_true, decide_eq_true_eq] at h
  exact ⟨(small_lt h.1.1).2, (small_lt h.1.1).1, (small_lt h.1.2).2, (small_lt h.1.2).1, h.2⟩
theorem rp_rg {K : PySem.W.Frag} {F : Addr → Prop} {H : Hp} (i j : Int) : RpL K F H (rgV i j) (intRange i j) := by
  unfold rgV intRange
  generalize List.range (j - i).toNat = l
  induction l with
  | nil => exact .nil
  | cons n l ih => exact .cons (.int _) ih
theorem F_lr1 {p1 p2 : Pos} (hc : X.calm = true) (hg : Gl X "list") (hm : X.mg "list" = none) (hgr : Gl X "range") (hmr : X.mg "range" = none) (ha : PE X a (rdE G W cf ia)) (na : starEach [a] X.env = (false, eval a X.env) :: starEach [] X.env) :
    PE X (.Call (.Name "list" p) [.Call (.Name "range" p1) [a] [] p2] [] pos) (rdF G W cf (.lr1 false ia)) := by
  refine PEmon (pe_listRg hc hg hm (prg_1 hgr hmr ha na)) ?_
  rintro t H Q ⟨F, loc, s, S, hS, hE, p⟩
  simp only [evE] at p
  refine ⟨F, loc, s, S, hS, hE, ?_⟩
  cases q : evE cf ia s S with
  | err => rw [q] at p; exact p
  | exc c fs S' => rw [q] at p; exact p
  | ok v S1 =>
    rw [q, Out.bind_ok] at p
    intro w F1 loc1 H1 n r
    split at p
    · rename_i j
      split at p
      · rename_i hok
        cases (show Rp G.K F1 H1 w (.int j) from r)
        exact ⟨j, rfl, rg_ok hok, fun q hq => p _ _ _ _ (n.trans (Nxt.lay n.sim hq)) (FrR.new n.sim (rp_rg 0 j) hq (n.dom _ hq))⟩
      · exact p.elim
    · exact p.elim
theorem E_lr1 {p1 p2 : Pos} (hc : X.calm = true) (hg : Gl X "tuple") (hm : X.mg "tuple" = none) (hgr : Gl X "range") (hmr : X.mg "range" = none) (ha : PE X a (rdE G W cf ia)) (na : starEach [a] X.env = (false, eval a X.env) :: starEach [] X.env) :
    PE X (.Call (.Name "tuple" p) [.Call (.Name "range" p1) [a] [] p2] [] pos) (rdE G W cf (.lr1 true ia)) := by
  refine PEmon (pe_tupRg hc hg hm (prg_1 hgr hmr ha na)) ?_
  rintro t H Q ⟨F, loc, s, S, hS, hE, p⟩
  simp only [evE] at p
  refine ⟨F, loc, s, S, hS, hE, Post.bind p fun v S1 w F1 loc1 H1 n r p1 => ?_⟩
  split at p1
  · rename_i j
    split at p1
    · rename_i hok
      cases (show Rp G.K F1 H1 w (.int j) from r)
      exact ⟨j, rfl, rg_ok hok, fun q hq => new_tup n.sim (rp_rg 0 j) p1 hq⟩
    · exact p1.elim
  · exact p1.elim
theorem F_lr2 {p1 p2 : Pos} (hc : X.calm = true) (hg : Gl X "list") (hm : X.mg "list" = none) (hgr : Gl X "range") (hmr : X.mg "range" = none) (ha : PE X a (rdE G W cf ia)) (hb : PE X b (rdE G W cf ib)) (na : starEach [a, b] X.env = (false, eval a X.env) :: starEach [b] X.env) (nb : starEach [b] X.env = (false, eval b X.env) :: starEach [] X.env) :
    PE X (.Call (.Name "list" p) [.Call (.Name "range" p1) [a, b] [] p2] [] pos) (rdF G W cf (.lr2 false ia ib)) := by
  refine PEmon (pe_listRg hc hg hm (prg_2 hgr hmr ha hb na nb (by rw [nb]; rfl))) ?_
  rintro t H Q ⟨F, loc, s, S, hS, hE, p⟩
  simp only [evE] at p
  refine ⟨F, loc, s, S, hS, hE, ?_⟩
  cases q : evE cf ia s S with
  | err => rw [q] at p; exact p
  | exc c fs S' => rw [q] at p; exact p
  | ok v S1 =>
  rw [q, Out.bind_ok] at p
  intro w F1 loc1 H1 n r
  refine ⟨F1, loc1, s, S1, n.sim, hE.next n, ?_⟩
  replace p := Post.step n p
  cases q2 : evE cf ib s S1 with
  | err => rw [q2] at p; exact p
  | exc c fs S' => rw [q2] at p; exact p
  | ok v2 S2 =>
  rw [q2, Out.bind_ok] at p
  intro w2 F2 loc2 H2 n2 r2
  split at p
  · rename_i i j
    split at p
    · rename_i hok
      cases (show Rp G.K F1 H1 w (.int i) from r)
      cases (show Rp G.K F2 H2 w2 (.int j) from r2)
      exact ⟨i, j, rfl, rfl, rg_ok hok, fun q hq => p _ _ _ _ (n2.trans (Nxt.lay n2.sim hq)) (let ⟨ps, xs, a, e1, e2, e3, e4, e5, e6, e7⟩ := FrR.new (H0 := H) n2.sim (rp_rg i j) hq (n.dom _ (n2.dom _ hq)); ⟨ps, xs, a, e1, e2, e3, e4, e5, e6, e7⟩)⟩
    · exact p.elim
  · exact p.elim
theorem E_lr2 {p1 p2 : Pos} (hc : X.calm = true) (hg : Gl X "tuple") (hm : X.mg "tuple" = none) (hgr : Gl X "range") (hmr : X.mg "range" = none) (ha : PE X a (rdE G W cf ia)) (hb : PE X b (rdE G W cf ib)) (na : starEach [a, b] X.env = (false, eval a X.env) :: starEach [b] X.env) (nb : starEach [b] X.env = (false, eval b X.env) :: starEach [] X.env) :
    PE X (.Call (.Name "tuple" p) [.Call (.Name "range" p1) [a, b] [] p2] [] pos) (rdE G W cf (.lr2 true ia ib)) := by
  refine PEmon (pe_tupRg hc hg hm (prg_2 hgr hmr ha hb na nb (by rw [nb]; rfl))) ?_
  rintro t H Q ⟨F, loc, s, S, hS, hE, p⟩
  simp only [evE] at p
  refine ⟨F, loc, s, S, hS, hE, Post.bind p fun v S1 w F1 loc1 H1 n r p1 => ⟨F1, loc1, s, S1, n.sim, hE.next n, Post.bind p1 fun v2 S2 w2 F2 loc2 H2 n2 r2 p2 => ?_⟩⟩
  split at p2
  · rename_i i j
    split at p2
    · rename_i hok
      cases (show Rp G.K F1 H1 w (.int i) from r)
      cases (show Rp G.K F2 H2 w2 (.int j) from r2)
      exact ⟨i, j, rfl, rfl, rg_ok hok, fun q hq => new_tup n2.sim (rp_rg i j) p2 hq⟩
    · exact p2.elim
  · exact p2.elim

/-! ### calls -/
theorem spG_of {t : L2.St} {F : Addr → Prop} {loc : Nat → Addr} {S : Store} {H : Hp} {args : List Val} {vs : List V} {Q : VK} {g : List Val → Store → Out Val} (hw : ∀ cv d t t' H, W cv d t H → W cv d t' H) (hS : SimS G F loc S H) (r : RVs G F loc S H args vs) (hn : args.length = n) (p : PostV G W t F loc S H (g args S) Q) :
    spC G n g vs H Q (WE W []) := spC_of hS r hn (post_w hw p)
theorem dfl_len (ds : List Int) : (dfl ds).length = ds.length := by
  unfold dfl
  rw [List.length_map]
theorem C_call (hF : FnG X.prog X.w X.K X.mg X.base CXT k fa fd n ps (spC G n (cf f))) (hr : Room k X.A) (hu : X.A.guards = some []) (hg : Gl X x) (hm : X.mg x = some (.ref fa)) (hk : PySem.W.keepIn X.K (.ref fa) = true) (hb : Binds X.K fd ps us) (hd : Vals (dflV ds) us)
    (hx : Passes CXT X (WE W [])) (hw : ∀ cv d t t' H, W cv d t H → W cv d t' H) (ha : PA X (e :: es) (rdL G W cf ies)) (hl : ies.length + ds.length = n) (hdb : (x == ("__debug__" : Str)) = false) (he : starEach (e :: es) X.env = (false, eval e X.env) :: starEach es X.env) (hpl : (backTo pos (starEach es X.env)).any (·.1) = false) :
    PE X (.Call (.Name x p) (e :: es) [] pos) (rdE G W cf (.call f ies ds)) := by
  refine PEmon (call_g hF hr hu hg hm hk hb hd hx ha hdb he hpl) ?_
  rintro t H Q ⟨F, loc, s, S, hS, hE, p⟩
  simp only [evE] at p
  refine ⟨F, loc, s, S, hS, hE, ?_⟩
  cases q : evL cf ies s S with
  | err => rw [q] at p; exact p
  | exc c fs S' => rw [q] at p; exact p
  | ok vs S1 =>
    rw [q] at p
    have ln := evL_len _ _ _ _ _ q
    intro w F1 loc1 H1 n1 r
    refine spG_of hw n1.sim (r.app (.dfl ds)) ?_ (Post.step n1 p)
    rw [List.length_append, ln, dfl_len]
    exact hl
theorem C_call0 (hF : FnG X.prog X.w X.K X.mg X.base CXT k fa fd n ps (spC G n (cf f))) (hr : Room k X.A) (hu : X.A.guards = some []) (hg : Gl X x) (hm : X.mg x = some (.ref fa)) (hk : PySem.W.keepIn X.K (.ref fa) = true) (hb : Binds X.K fd ps us) (hd : Vals (dflV ds) us)
    (hx : Passes CXT X (WE W [])) (hw : ∀ cv d t t' H, W cv d t H → W cv d t' H) (hl : ds.length = n) (hdb : (x == ("__debug__" : Str)) = false) : PE X (.Call (.Name x p) [] [] pos) (rdE G W cf (.call f [] ds)) := by
  refine PEmon (call_g0 hF hr hu hg hm hk hb hd hx hdb) ?_
  rintro t H Q ⟨F, loc, s, S, hS, hE, p⟩
  simp only [evE, evL, Out.bind_ok] at p
  refine spG_of hw hS (RVs.app .nil (.dfl ds)) ?_ p
  rw [List.length_append, dfl_len]
  simpa using hl
theorem C_mth {pl : Sem Bool} (ho : PE X o (rdE G W cf io)) (hc : Cls X.K (G.cls ci)) (hM : Meth X.K (G.cls ci) m fa) (hnf : ∀ f, G.fnm f ≠ m) (hF : FnG X.prog X.w X.K X.mg X.base CXT k fa fd n ps (spC G n (cf f))) (hr : Room k X.A) (hu : X.A.guards = some []) (hb : Binds X.K fd ps us) (hd : Vals (dflV ds) us)
    (hx : Passes CXT X (WE W [])) (hw : ∀ cv d t t' H, W cv d t H → W cv d t' H) (ha : PA X (e :: es) (rdL G W cf ies)) (hl : ies.length + ds.length + 1 = n)
    (hst : starEach (e :: es) X.env = (false, eval e X.env) :: starEach es X.env) (hpl : (backTo pos (starEach es X.env)).any (·.1) = false)
    (ht : eval (.Call (.Attribute o m apos) (e :: es) [] pos) X.env = (do
      let ov ← eval o X.env
      standAt apos.atName
      let (f, first) ← holding [ov] (getMethod ov m pl)
      callWith pos f first (backTo pos (starEach (e :: es) X.env)) (backToKw pos (keywordEach [] X.env)))) :
    PE X (.Call (.Attribute o m apos) (e :: es) [] pos) (rdE G W cf (.mth ci f io ies ds)) := by
  refine PEmon (meth_g ho hc hM hF hr hu hb hd hx ha hst hpl ht) ?_
  rintro t H Q ⟨F, loc, s, S, hS, hE, p⟩
  simp only [evE] at p
  refine ⟨F, loc, s, S, hS, hE, Post.bind p fun v S1 w F1 loc1 H1 n1 r p1 => ?_⟩
  split at p1
  · rename_i l
    have r' := r
    obtain ⟨rfl, hll⟩ := r
    split at p1
    · rename_i c' fs hs
      split at p1
      · rename_i hcc
        subst hcc
        obtain ⟨ok, dx, ws, e1, r1⟩ := n1.sim.ob l _ hs
        refine ⟨_, dx, ws, rfl, e1, r1.no hnf, F1, loc1, s, S1, n1.sim, hE.next n1, ?_⟩
        cases q : evL cf ies s S1 with
        | err => rw [q] at p1; exact p1
        | exc c fs S' => rw [q] at p1; exact p1
        | ok vs S2 =>
          rw [q] at p1
          have ln := evL_len _ _ _ _ _ q
          intro w2 F2 loc2 H2 n2 r2
          refine spG_of hw n2.sim (.cons (r'.next n2) (r2.app (.dfl ds))) ?_ (Post.step n2 p1)
          rw [List.length_cons, List.length_append, ln, dfl_len]
          exact hl
      · exact False.elim p1
    · exact False.elim p1
  · exact False.elim p1
theorem C_mth0 {pl : Sem Bool} (ho : PE X o (rdE G W cf io)) (hc : Cls X.K (G.cls ci)) (hM : Meth X.K (G.cls ci) m fa) (hnf : ∀ f, G.fnm f ≠ m) (hF : FnG X.prog X.w X.K X.mg X.base CXT k fa fd n ps (spC G n (cf f))) (hr : Room k X.A) (hu : X.A.guards = some []) (hb : Binds X.K fd ps us) (hd : Vals (dflV ds) us)
    (hx : Passes CXT X (WE W [])) (hw : ∀ cv d t t' H, W cv d t H → W cv d t' H) (hl : ds.length + 1 = n)
    (ht : eval (.Call (.Attribute o m apos) [] [] pos) X.env = (do
      let ov ← eval o X.env
      standAt apos.atName
      let (f, first) ← holding [ov] (getMethod ov m pl)
      callWith pos f first (backTo pos (starEach [] X.env)) (backToKw pos (keywordEach [] X.env)))) :
    PE X (.Call (.Attribute o m apos) [] [] pos) (rdE G W cf (.mth ci f io [] ds)) := by
  refine PEmon (meth_g0 ho hc hM hF hr hu hb hd hx ht) ?_
  rintro t H Q ⟨F, loc, s, S, hS, hE, p⟩
  simp only [evE] at p
  refine ⟨F, loc, s, S, hS, hE, Post.bind p fun v S1 w F1 loc1 H1 n1 r p1 => ?_⟩
  split at p1
  · rename_i l
    have r' := r
    obtain ⟨rfl, hll⟩ := r
    split at p1
    · rename_i c' fs hs
      split at p1
      · rename_i hcc
        subst hcc
        obtain ⟨ok, dx, ws, e1, r1⟩ := n1.sim.ob l _ hs
        refine ⟨_, dx, ws, rfl, e1, r1.no hnf, ?_⟩
        simp only [evL, Out.bind_ok] at p1
        refine spG_of hw n1.sim (.cons r' (RVs.app .nil (.dfl ds))) ?_ p1
        rw [List.length_cons, List.length_append, dfl_len]
        simpa using hl
      · exact False.elim p1
    · exact False.elim p1
  · exact False.elim p1
theorem C_mk (ok : G.cok ci) (M : Mk X.K (G.cls ci) fa) (hF : FnG X.prog X.w X.K X.mg X.base CXT k fa fd n ps (spC G n (cf f))) (hr : Room (k + 1) X.A) (hu : X.A.guards = some []) (hg : Gl X x) (hm : X.mg x = some (.ref (G.cls ci))) (hb : Binds X.K fd ps [])
    (hx : Passes CXT X (WE W [])) (hw : ∀ cv d t t' H, W cv d t H → W cv d t' H) (ha : PA X (e :: es) (rdL G W cf ies)) (hl : ies.length + 1 = n) (hdb : (x == ("__debug__" : Str)) = false) (he : starEach (e :: es) X.env = (false, eval e X.env) :: starEach es X.env) (hpl : (backTo pos (starEach es X.env)).any (·.1) = false) :
    PE X (.Call (.Name x p) (e :: es) [] pos) (rdE G W cf (.mk ci f ies)) := by
  refine PEmon (mk_g M hF hr hu hg hm hb .nil hx ha hdb he hpl) ?_
  rintro t H Q ⟨F, loc, s, S, hS, hE, p⟩
  simp only [evE] at p
  refine ⟨F, loc, s, S, hS, hE, ?_⟩
  cases q : evL cf ies s S with
  | err => rw [q] at p; exact p
  | exc c fs S' => rw [q] at p; exact p
  | ok vs S1 =>
    rw [q] at p
    have ln := evL_len _ _ _ _ _ q
    intro w F1 loc1 H1 n1 r
    have p1 := post_w (t' := []) hw (Post.step n1 p)
    have := mk_of (n := n) (t := []) ok n1.sim r (by rw [ln]; exact hl) p1
    rw [List.append_nil]
    exact this
theorem C_mk0 (ok : G.cok ci) (M : Mk X.K (G.cls ci) fa) (hF : FnG X.prog X.w X.K X.mg X.base CXT k fa fd n ps (spC G n (cf f))) (hr : Room (k + 1) X.A) (hu : X.A.guards = some []) (hg : Gl X x) (hm : X.mg x = some (.ref (G.cls ci))) (hb : Binds X.K fd ps [])
    (hx : Passes CXT X (WE W [])) (hw : ∀ cv d t t' H, W cv d t H → W cv d t' H) (hl : 1 = n) (hdb : (x == ("__debug__" : Str)) = false) : PE X (.Call (.Name x p) [] [] pos) (rdE G W cf (.mk ci f [])) := by
  refine PEmon (mk_g0 M hF hr hu hg hm hb .nil hx hdb) ?_
  rintro t H Q ⟨F, loc, s, S, hS, hE, p⟩
  simp only [evE, evL, Out.bind_ok] at p
  have p1 := post_w (t' := []) hw p
  exact mk_of (t := []) (args := []) (vs := []) ok hS .nil hl p1

/-! ### keywords -/
/-- how a call with keywords binds: the positional values and the keywords' ones, put in the parameters' order -/
def KB (K : PySem.W.Frag) (fd : FuncData) (ps : List Str) (np : Nat) (ks : List Str) (perm : List Nat) : Prop :=
  ∀ (s : Shared) (us ws zs : List Value), K.In s.heap → us.length = np → ws.length = ks.length → permute perm (us ++ ws) = some zs → BindsTo s fd ⟨us, ks.zip ws⟩ (ps.zip zs)
theorem permute_vals {vs : List V} {us : List Value} (r : Vals vs us) : ∀ {perm : List Nat} {xs : List V}, permute perm vs = some xs → ∃ ys, permute perm us = some ys ∧ Vals xs ys
  | [], _, e => by cases e; exact ⟨[], rfl, .nil⟩
  | i :: perm, xs, e => by
    simp only [permute] at e
    split at e
    · rename_i v vs' h1 h2
      cases e
      obtain ⟨ys, q1, q2⟩ := permute_vals r h2
      obtain ⟨u, q3, q4⟩ := r.get h1
      exact ⟨u :: ys, by simp only [permute, q3, q1], .cons q4 q2⟩
    · cases e
theorem RVs.getI {F : Addr → Prop} {loc : Nat → Addr} {S : Store} {H : Hp} : ∀ {vs : List Val} {ws : List V} {i : Nat} {v : Val}, RVs G F loc S H vs ws → vs[i]? = some v → ∃ w, ws[i]? = some w ∧ RV G F loc S H v w
  | _, _, _, _, .nil, e => by simp at e
  | _, _, 0, _, .cons r _, e => by
    simp at e
    subst e
    exact ⟨_, rfl, r⟩
  | _, _, i + 1, v, .cons _ l, e => by
    obtain ⟨w, h1, h2⟩ := RVs.getI (i := i) (v := v) l (by simpa using e)
    exact ⟨w, by simpa using h1, h2⟩
theorem permute_rvs {F : Addr → Prop} {loc : Nat → Addr} {S : Store} {H : Hp} {vs : List Val} {us : List V} (r : RVs G F loc S H vs us) : ∀ {perm : List Nat} {xs : List Val}, permute perm vs = some xs → ∃ ys, permute perm us = some ys ∧ RVs G F loc S H xs ys
  | [], _, e => by cases e; exact ⟨[], rfl, .nil⟩
  | i :: perm, xs, e => by
    simp only [permute] at e
    split at e
    · rename_i v vs' h1 h2
      cases e
      obtain ⟨ys, q1, q2⟩ := permute_rvs r h2
      obtain ⟨u, q3, q4⟩ := r.getI h1
      exact ⟨u :: ys, by simp only [permute, q3, q1], .cons q4 q2⟩
    · cases e
theorem permute_len {A : Type} {vs : List A} : ∀ {perm : List Nat} {xs : List A}, permute perm vs = some xs → xs.length = perm.length
  | [], _, e => by cases e; rfl
  | i :: perm, xs, e => by
    simp only [permute] at e
    split at e
    · rename_i v vs' h1 h2
      cases e
      rw [List.length_cons, List.length_cons, permute_len h2]
    · cases e
def tCallP (sp : Sp) (np : Nat) (ks : List Str) (perm : List Nat) (E : XK) (t tk : TA) : TE := fun σ H Q => t σ H fun vs H1 => tk σ H1 fun zs H2 => vs.length = np ∧ zs.length = ks.length ∧ ∃ xs, permute perm (vs ++ zs) = some xs ∧ sp xs H2 Q E
theorem FnG.runP {sp : Sp} {E : XK} {np : Nat} {perm : List Nat} (hF : FnG X.prog X.w X.K X.mg X.base CXT k fa fd n ps sp) (hr : Room k X.A) (hu : X.A.guards = some []) (hb : KB X.K fd ps np ks perm) (hx : Passes CXT X E) {pins : List (Addr × Obj)} {σ : L2.St} {H : Hp} {s : Shared} {Q : VK}
    {us ws : List Value} {vs zs xs : List V} (I : Inv X pins σ H s) (r : Vals vs us) (rz : Vals zs ws) (h1 : vs.length = np) (h2 : zs.length = ks.length) (h3 : permute perm (vs ++ zs) = some xs) (h : sp xs H Q E) : wpAny (model X.prog X.w) X.A (call (.ref fa) us (ks.zip ws)) (EP X pins σ Q) X.xe s := by
  obtain ⟨ys, q1, q2⟩ := permute_vals (r.append rz) h3
  exact wpAny_call (hF.from hr hu hx I (hb s us ws ys I.kIn (r.length.symm.trans h1) (rz.length.symm.trans h2) q1) q2 h)
theorem call_p {sp : Sp} {E : XK} {np : Nat} {perm : List Nat} {t tk : TA} {kws : List Keyword} (hF : FnG X.prog X.w X.K X.mg X.base CXT k fa fd n ps sp) (hr : Room k X.A) (hu : X.A.guards = some []) (hg : Gl X x) (hm : X.mg x = some (.ref fa)) (hk : PySem.W.keepIn X.K (.ref fa) = true) (hb : KB X.K fd ps np ks perm) (hx : Passes CXT X E)
    (ha : PA X (e :: es) t) (hkw : PK X kws tk) (hall : (backToKw pos (keywordEach kws X.env)).all (·.1.isSome) = true) (hks : (backToKw pos (keywordEach kws X.env)).filterMap (·.1) = ks)
    (hdb : (x == ("__debug__" : Str)) = false) (he : starEach (e :: es) X.env = (false, eval e X.env) :: starEach es X.env)
    (hpl : ((backTo pos (starEach (e :: es) X.env)).any (·.1) || (backToKw pos (keywordEach kws X.env)).any (·.1.isNone)) = false) :
    PE X (.Call (.Name x p) (e :: es) kws pos) (tCallP sp np ks perm E t tk) := by
  refine ⟨fun pins s σ H Q I h => wpAny_Call_Name_kw (ld_glob I hg hm (PySem.W.callWith_KW (h₀ := X.base) I.ok.mod.kin hk hall (thn (ha.run pos pins s σ H _ I h) fun us s1 ⟨vs, H1, I1, r, q⟩ => ?_) hpl he) hdb)⟩
  refine thn (hkw.run pos pins s1 σ H1 _ I1 q) fun ws s2 ⟨zs, H2, I2, rz, h1, h2, xs, h3, q2⟩ => ⟨I2.kIn, ?_⟩
  rw [hks]
  exact hF.runP hr hu hb hx I2 r rz h1 h2 h3 q2
theorem call_p0 {sp : Sp} {E : XK} {perm : List Nat} {tk : TA} {kws : List Keyword} (hF : FnG X.prog X.w X.K X.mg X.base CXT k fa fd n ps sp) (hr : Room k X.A) (hu : X.A.guards = some []) (hg : Gl X x) (hm : X.mg x = some (.ref fa)) (hk : PySem.W.keepIn X.K (.ref fa) = true) (hb : KB X.K fd ps 0 ks perm) (hx : Passes CXT X E)
    (hkw : PK X kws tk) (hall : (backToKw pos (keywordEach kws X.env)).all (·.1.isSome) = true) (hks : (backToKw pos (keywordEach kws X.env)).filterMap (·.1) = ks)
    (hdb : (x == ("__debug__" : Str)) = false)
    (hpl : ((backTo pos (starEach [] X.env)).any (·.1) || (backToKw pos (keywordEach kws X.env)).any (·.1.isNone)) = false) :
    PE X (.Call (.Name x p) [] kws pos) (tCallP sp 0 ks perm E tNil tk) := by
  refine ⟨fun pins s σ H Q I h => wpAny_Call_Name_kw (ld_glob I hg hm (PySem.W.callWith_KW0 (h₀ := X.base) I.ok.mod.kin hk hall (thn (hkw.run pos pins s σ H _ I h) fun ws s2 ⟨zs, H2, I2, rz, h1, h2, xs, h3, q2⟩ => ⟨I2.kIn, ?_⟩) hpl) hdb)⟩
  rw [hks]
  exact hF.runP (us := []) hr hu hb hx I2 .nil rz h1 h2 h3 q2
theorem K_nil : PK X [] (rdL G W cf []) := ⟨fun _ pins s σ H Q I ⟨F, loc, s', S, hS, hE, p⟩ => by
  simp only [evL] at p
  exact wpAny_evalAll_nil ⟨[], H, I, .nil, p _ _ _ _ (.refl hS) .nil⟩⟩
theorem K_cons {nm : Option Str} {kpos : Pos} {kws : List Keyword} (ha : PE X e (rdE G W cf ie)) (hr : PK X kws (rdL G W cf ies)) : PK X (⟨nm, e, kpos⟩ :: kws) (rdL G W cf (ie :: ies)) := by
  refine ⟨fun ps pins s σ H Q I q => (pk_cons ha hr).run ps pins s σ H Q I ?_⟩
  obtain ⟨F, loc, s, S, hS, hE, p⟩ := q
  simp only [evL] at p
  refine ⟨F, loc, s, S, hS, hE, Post.bind p fun v S1 w F1 loc1 H1 n r p1 => ⟨F1, loc1, s, S1, n.sim, hE.next n, Post.bind p1 fun v2 S2 w2 F2 loc2 H2 n2 r2 p2 => ?_⟩⟩
  exact p2 _ _ _ _ (.refl n2.sim) (.cons (r.next n2) r2)
theorem rd_callk {perm : List Nat} {np : Nat} (hw : ∀ cv d t t' H, W cv d t H → W cv d t' H) (h1 : ies.length = np) (h2 : kies.length = ks.length) (h3 : perm.length = n) {t : L2.St} {H : Hp} {Q : VK} (h : rdE G W cf (.callk f ies kies perm) t H Q) : tCallP (spC G n (cf f)) np ks perm (WE W []) (rdL G W cf ies) (rdL G W cf kies) t H Q := by
  obtain ⟨F, loc, s, S, hS, hE, p⟩ := h
  simp only [evE] at p
  refine ⟨F, loc, s, S, hS, hE, ?_⟩
  cases q : evL cf ies s S with
  | err => rw [q] at p; exact p
  | exc c fs S' => rw [q] at p; exact p
  | ok vs S1 =>
    rw [q, Out.bind_ok] at p
    have ln := evL_len _ _ _ _ _ q
    intro w F1 loc1 H1 n1 r
    have p := Post.step n1 p
    refine ⟨F1, loc1, s, S1, n1.sim, hE.next n1, ?_⟩
    cases q2 : evL cf kies s S1 with
    | err => rw [q2] at p; exact p
    | exc c fs S' => rw [q2] at p; exact p
    | ok ws S2 =>
      rw [q2, Out.bind_ok] at p
      have ln2 := evL_len _ _ _ _ _ q2
      intro w2 F2 loc2 H2 n2 r2
      have p := Post.step n2 p
      split at p
      · rename_i xs hp
        obtain ⟨ys, q3, q4⟩ := permute_rvs ((r.next n2).app r2) hp
        refine ⟨by rw [r.length, ln, h1], by rw [r2.length, ln2, h2], ys, q3, spG_of hw n2.sim q4 ?_ p⟩
        rw [permute_len hp, h3]
      · exact p.elim
end
section
variable {X : Cx} {G : GC} {W : WX} {M : Option Nat} {cf : CallF} {a b c e o : Expr} {ia ib ic ie io : IE} {pos spos tpos p1 p2 p3 : Pos} {es : List Expr} {ies : List IE} {st : Stmt} {x y z : Str} {i j l : Nat}
/-! ### statements -/
theorem S_bad : PS X st (rdS G W M cf .bad) := ⟨fun pins s σ H Q I ⟨F, loc, s', S, _, _, p⟩ => by
  simp only [evS] at p
  exact p.elim⟩
theorem S_par {kt k2 : Nat} {pt2 : Pos} (hc : X.calm = true) (hN : X.N.Nodup) (hi : X.N[i]? = some x) (hj : X.N[j]? = some y) (hij : i ≠ j)
    (hx : X.env.scope.names.lookup x = some .local) (hy : X.env.scope.names.lookup y = some .local) (ha : PA X [a, b] (rdL G W cf ies))
    (hw : swappedStores [.Tuple [.Name x p1, .Name y p2] kt tpos] (.Tuple [a, b] k2 pt2) X.env = pure (some [x, y])) :
    PS X (.Assign [.Tuple [.Name x p1, .Name y p2] kt tpos] (.Tuple [a, b] k2 pt2) pos) (rdS G W M cf (.par [.nm i, .nm j] ies)) := by
  refine PSmon (ps_par hc hN hi hj hij hx hy ha hw) ?_
  rintro D t H ⟨F, loc, s, S, hS, hE, p⟩
  simp only [evS] at p
  refine ⟨F, loc, s, S, hS, hE, PostS.bind p fun vs S1 ws F1 loc1 H1 n r p1 => ?_⟩
  have hE1 := hE.next n
  cases r with
  | nil => exact p1.elim
  | @cons v w vs ws r l =>
  cases l with
  | nil =>
    simp only [asTs] at p1
    cases q : asT cf (.nm i) v s S1 with
    | ok s1 S2 => rw [q] at p1; exact p1.elim
    | err => rw [q] at p1; exact p1.elim
    | exc c fs S2 => simp only [asT] at q; split at q <;> cases q
  | @cons v2 w2 vs ws r2 l =>
  simp only [asTs, asT] at p1
  split at p1
  rotate_left
  · exact p1.elim
  simp only [Out.bind_ok] at p1
  split at p1
  rotate_left
  · exact p1.elim
  simp only [Out.bind_ok] at p1
  cases l with
  | cons => simp only [asTs] at p1; exact p1.elim
  | nil =>
    simp only [asTs, Out.bind_ok] at p1
    exact ⟨w, w2, rfl, p1 _ _ _ _ (.refl n.sim) ((hE1.set r).set r2)⟩
theorem S_par3 {kt k2 : Nat} {pt2 : Pos} (hc : X.calm = true) (hN : X.N.Nodup) (hi : X.N[i]? = some x) (hj : X.N[j]? = some y) (hl : X.N[l]? = some z) (hij : i ≠ j) (hil : i ≠ l) (hjl : j ≠ l)
    (hx : X.env.scope.names.lookup x = some .local) (hy : X.env.scope.names.lookup y = some .local) (hz : X.env.scope.names.lookup z = some .local) (ha : PA X [a, b, c] (rdL G W cf ies))
    (hw : swappedStores [.Tuple [.Name x p1, .Name y p2, .Name z p3] kt tpos] (.Tuple [a, b, c] k2 pt2) X.env = pure (some [x, y, z])) :
    PS X (.Assign [.Tuple [.Name x p1, .Name y p2, .Name z p3] kt tpos] (.Tuple [a, b, c] k2 pt2) pos) (rdS G W M cf (.par [.nm i, .nm j, .nm l] ies)) := by
  refine PSmon (ps_par3 hc hN hi hj hl hij hil hjl hx hy hz ha hw) ?_
  rintro D t H ⟨F, loc, s, S, hS, hE, p⟩
  simp only [evS] at p
  refine ⟨F, loc, s, S, hS, hE, PostS.bind p fun vs S1 ws F1 loc1 H1 n r p1 => ?_⟩
  have hE1 := hE.next n
  have hno : ∀ (j : Nat) (v : Val) (s s' : Env) (S S2 : Store) (c : Nat) (fs : List PyData), asT cf (.nm j) v s S ≠ .exc c fs S2 := fun j v s s' S S2 c fs q => by
    simp only [asT] at q
    split at q <;> cases q
  cases r with
  | nil => exact p1.elim
  | @cons v w vs ws r l =>
  simp only [asTs, asT] at p1
  split at p1
  rotate_left
  · exact p1.elim
  simp only [Out.bind_ok] at p1
  cases l with
  | nil => simp only [asTs] at p1; exact p1.elim
  | @cons v2 w2 vs ws r2 l =>
  simp only [asTs, asT] at p1
  split at p1
  rotate_left
  · exact p1.elim
  simp only [Out.bind_ok] at p1
  cases l with
  | nil => simp only [asTs] at p1; exact p1.elim
  | @cons v3 w3 vs ws r3 l =>
  simp only [asTs, asT] at p1
  split at p1
  rotate_left
  · exact p1.elim
  simp only [Out.bind_ok] at p1
  cases l with
  | cons => simp only [asTs] at p1; exact p1.elim
  | nil =>
    simp only [asTs, Out.bind_ok] at p1
    exact ⟨w, w2, w3, rfl, p1 _ _ _ _ (.refl n.sim) (((hE1.set r).set r2).set r3)⟩
/-- a, b = x, y in the plain order -/
theorem S_parT {ess txs : List Expr} {kt k2 : Nat} {ts : List Tg} {pt1 pt2 : Pos} (hK : G.K = X.K) (hw : ∀ cv d t t' H, W cv d t H → W cv d t' H) (hc : X.calm = true) (ha : PA X ess (rdL G W cf ies)) (hg : PGs X txs (rdGs G W cf ts)) (hl : txs.length = ts.length) (hz : ies.length ≤ sizeLine) (hn : (assignEach txs X.env).length = txs.length)
    (hst : (assignEach txs X.env).findIdx? (·.1) = none) (hexc : ∀ xs s S c fs S', asTs cf ts xs s S ≠ .exc c fs S') (hsw : swappedStores [.Tuple txs kt pt1] (.Tuple ess k2 pt2) X.env = pure none) :
    PS X (.Assign [.Tuple txs kt pt1] (.Tuple ess k2 pt2) pos) (rdS G W M cf (.par ts ies)) := by
  refine PSmon (ps_asg (pe_tup ha) (pg_tup hc hg (n := ts.length) (hn.trans hl) hst) rfl hsw rfl) ?_
  rintro D t H ⟨F, loc, s, S, hS, hE, p⟩
  simp only [evS] at p
  refine ⟨F, loc, s, S, hS, hE, ?_⟩
  cases q : evL cf ies s S with
  | err => rw [q] at p; exact p
  | exc c fs S' => rw [q] at p; exact p
  | ok vs S1 =>
  rw [q, Out.bind_ok] at p
  have ln := evL_len _ _ _ _ _ q
  intro ws F1 loc1 H1 n r
  have len : ts.length = vs.length := by
    cases q2 : asTs cf ts vs s S1 with
    | err => rw [q2] at p; exact p.elim
    | exc c fs S' => exact absurd q2 (hexc _ _ _ _ _ _)
    | ok s2 S2 => exact asTs_len q2
  have lw : ws.length = ts.length := by rw [r.length, len]
  refine ⟨by rw [lw, len, ln]; exact hz, fun b hb => ⟨b, ws, rfl, .inl (.inl upd_same), lw, ?_⟩⟩
  have n2 := Nxt.lay (o := .tup ws) n.sim hb
  exact ⟨F1, loc1, s, S1, vs, n2.sim, (hE.next n).next n2, r.next n2, PostS.bind (PostS.step (n.trans n2) p) fun s3 S3 t3 F3 loc3 H3 n3 hE3 p3 => p3 _ _ _ _ (.refl n3.sim) hE3⟩
end
end IP
namespace IP
open PySem PySem.Spec PyProof.Rows L2

/-! ### what is asked of a written form -/
def noStar : Expr → Bool
  | .Starred _ _ => false
  | _ => true
def noStars : List Expr → Bool
  | [] => true
  | e :: es => noStar e && noStars es
def noCall : Expr → Bool
  | .Call .. => false
  | _ => true
def noSlice : Expr → Bool
  | .Slice .. => false
  | _ => true
def noSet : Expr → Bool
  | .Set .. => false
  | _ => true
def noComp : Expr → Bool
  | .ListComp .. => false
  | .SetComp .. => false
  | .DictComp .. => false
  | _ => true
def plainT : Expr → Bool
  | .UnaryOp .. => false
  | .BoolOp .. => false
  | .IfExp .. => false
  | .Compare .. => false
  | _ => true
def noTup : Expr → Bool
  | .Tuple .. => false
  | .List .. => false
  | _ => true
section
variable {env : PySem.Env} {e a o : Expr} {es : List Expr} {pos apos : Pos}
theorem star_cons (h : noStar e = true) : starEach (e :: es) env = (false, eval e env) :: starEach es env := by
  cases e <;> first | rfl | cases h
theorem star_any : ∀ {es : List Expr}, noStars es = true → (backTo pos (starEach es env)).any (·.1) = false
  | [], _ => rfl
  | e :: es, h => by
    simp only [noStars, Bool.and_eq_true] at h
    rw [star_cons h.1]
    show (false || (backTo pos (starEach es env)).any (·.1)) = false
    rw [star_any h.2]
    rfl
theorem star_all : ∀ {es : List Expr}, noStars es = true → (backTo pos (starEach es env)).all (!·.1) = true
  | [], _ => rfl
  | e :: es, h => by
    simp only [noStars, Bool.and_eq_true] at h
    rw [star_cons h.1]
    show (true && (backTo pos (starEach es env)).all (!·.1)) = true
    rw [star_all h.2]
    rfl
theorem true_val (h : plainT e = true) (whole : Sem Value) : isTrue e env whole = (do let v ← whole; standAt e.pos; holding [v] (truthy v)) := by
  cases e <;> first | rfl | cases h
theorem ix_plain (h : noSlice e = true) : PlainIx e := fun o i => by
  cases e <;> first | rfl | cases h
theorem base_at {nm : Str} {whole : Sem Value} (h : noCall a = true) : attributeBase a nm env whole = whole := by
  cases a <;> first | rfl | cases h
theorem set_iter (h : noSet e = true) (x : Value) : foldedSetIterable e env x = pure x := by
  cases e <;> first | rfl | cases h
theorem sw_none (h : noComp e = true) {l : Nat} : swapsWith e none l env = pure false := by
  cases e <;> first | rfl | cases h
theorem sw_sole {tg : Expr} (h : noComp e = true) {l : Nat} : swapsWithSole [tg] e l env = pure false := by
  cases e <;> first | rfl | cases h
theorem st_none {tg : Expr} (h : noTup tg = true ∨ noTup e = true) : swappedStores [tg] e env = pure none := by
  rcases h with h | h
  · cases tg <;> first | rfl | cases h
  · cases tg <;> first | rfl | (cases e <;> first | rfl | cases h)
def plOf (o : Expr) (env : PySem.Env) : Sem Bool := do return (← importBound o env).getD true
theorem meth_eq {m : Str} (h1 : noCall o = true) (h2 : (apos.endLine == pos.line) = true) (h3 : noStars es = true) (h4 : es.length < 30) : eval (.Call (.Attribute o m apos) es [] pos) env = (do
      let ov ← eval o env
      standAt apos.atName
      let (f, first) ← holding [ov] (getMethod ov m (plOf o env))
      callWith pos f first (backTo pos (starEach es env)) (backToKw pos (keywordEach [] env))) := by
  have few : methodCallForm (es.length + ([] : List Keyword).length) (backTo pos (starEach es env)) (backToKw pos (keywordEach [] env)) = true := by
    unfold methodCallForm
    rw [star_all h3]
    show (true && true && decide (es.length + 0 + 0 < 30)) = true
    simpa using h4
  have e1 : eval (.Call (.Attribute o m apos) es [] pos) env = (do
      let ov ← attributeBase o m env (eval o env)
      standAt apos.atName
      methodCall o m apos pos env ov (es.length + ([] : List Keyword).length) (backTo pos (starEach es env)) (backToKw pos (keywordEach [] env))) := by rfl
  rw [e1, base_at h1]
  simp only [methodCall, few, calleeOf, methodCallPos, h2, Bool.not_true, Bool.false_or, if_true, pure_bind]
  rfl
theorem asg_one {tg : Expr} (h : noStar tg = true) : (assignEach [tg] env).map (·.2) = [assign tg env] := by
  cases tg <;> first | rfl | cases h
theorem asg_cons (h : noStar e = true) : (assignEach (e :: es) env).map (·.2) = assign e env :: (assignEach es env).map (·.2) := by
  cases e <;> first | rfl | cases h
theorem asg_len : ∀ {es : List Expr}, (assignEach es env).length = es.length
  | [] => rfl
  | e :: es => by
    have ih := asg_len (es := es)
    cases e <;> (show (assignEach es env).length + 1 = es.length + 1; rw [ih])
theorem asg_idx : ∀ {es : List Expr}, noStars es = true → (assignEach es env).findIdx? (·.1) = none
  | [], _ => rfl
  | e :: es, h => by
    simp only [noStars, Bool.and_eq_true] at h
    have ih := asg_idx (es := es) h.2
    have e1 : ∃ t, assignEach (e :: es) env = (false, t) :: assignEach es env := by
      cases e <;> first | exact ⟨_, rfl⟩ | cases h.1
    obtain ⟨t, e1⟩ := e1
    rw [e1, List.findIdx?_cons, ih]
    rfl
/-- which names a tuple store takes from the right -/
def swS (ts vs : List Expr) (sc : Scope) : Option (Option (List Str)) :=
  if !(ts.length == 2 || ts.length == 3) || vs.length != ts.length then some none
  else if vs.any (fun | .Starred .. => true | _ => false) then some none
  else
    let line := (ts.head?.map (·.pos.line)).getD 0
    let names := ts.filterMap fun
      | .Name id pos => if sc.names.lookup id == some .local && pos.line == line then some id else none
      | _ => none
    if names.length != ts.length || names.eraseDups.length != names.length then some none
    else if vs.all (foldedForSure 8) then some none
    else if vs.all (constantsAlone 8) then none
    else some (some names)
theorem swS_ok {ts vs : List Expr} {k k2 : Nat} {p p2 : Pos} {r : Option (List Str)} (hk : env.scope.kind = .function) (h : swS ts vs env.scope = some r) : swappedStores [.Tuple ts k p] (.Tuple vs k2 p2) env = pure r := by
  have hb : env.blockKind = .function := by unfold Env.blockKind; rw [hk]; rfl
  have hb2 : (env.blockKind != .function) = false := by rw [hb]; rfl
  unfold swS at h
  unfold swappedStores
  simp only [hb2, Bool.or_false, Env.kindOf]
  split at h
  · rename_i q
    cases h
    exact if_pos q
  · rename_i q
    refine (if_neg q).trans ?_
    split at h
    · rename_i q2
      cases h
      exact if_pos q2
    · rename_i q2
      refine (if_neg q2).trans ?_
      simp only at h ⊢
      split at h
      · rename_i q3
        cases h
        exact if_pos q3
      · rename_i q3
        refine (if_neg q3).trans ?_
        split at h
        · rename_i q4
          cases h
          exact if_pos q4
        · rename_i q4
          refine (if_neg q4).trans ?_
          split at h
          · cases h
          · rename_i q5
            cases h
            exact if_neg q5
/-- the plain store of a comprehension, or the one that swaps -/
def swC (y : Str) (py pos : Pos) (scope sc : Scope) : Bool := sc.names.lookup y == some .local && py.line == pos.line && !(scope.names.any fun (n, k) => n == y && (k == .local || k == .cell))
theorem swC_ok {elt : Expr} {gs : List Comprehension} {scope : Scope} {py : Pos} {y : Str} {l : Nat} (hk : env.scope.kind = .function) : swapsWithSole [.Name y py] (.ListComp elt gs scope pos) l env = pure (swC y py pos scope env.scope) := by
  have hb : env.blockKind = .function := by unfold Env.blockKind; rw [hk]; rfl
  show swapsWith (.ListComp elt gs scope pos) (some (.Name y py)) l env = _
  unfold swapsWith swC
  simp only [hb, Env.kindOf, Expr.pos]
  rfl
/-! keywords -/
def kwNames : List Keyword → List Str
  | [] => []
  | ⟨some n, _, _⟩ :: r => n :: kwNames r
  | ⟨none, _, _⟩ :: r => kwNames r
def kwAll : List Keyword → Bool
  | [] => true
  | ⟨some _, _, _⟩ :: r => kwAll r
  | ⟨none, _, _⟩ :: _ => false
theorem kw_facts : ∀ {kws : List Keyword}, kwAll kws = true → (backToKw pos (keywordEach kws env)).all (·.1.isSome) = true ∧ (backToKw pos (keywordEach kws env)).filterMap (·.1) = kwNames kws ∧ (backToKw pos (keywordEach kws env)).any (·.1.isNone) = false
  | [], _ => ⟨rfl, rfl, rfl⟩
  | ⟨some n, v, kp⟩ :: r, h => by
    obtain ⟨h1, h2, h3⟩ := kw_facts (kws := r) h
    refine ⟨?_, ?_, ?_⟩
    · show (true && (backToKw pos (keywordEach r env)).all (·.1.isSome)) = true
      rw [h1]; rfl
    · show n :: (backToKw pos (keywordEach r env)).filterMap (·.1) = n :: kwNames r
      rw [h2]
    · show (false || (backToKw pos (keywordEach r env)).any (·.1.isNone)) = false
      rw [h3]; rfl
  | ⟨none, v, kp⟩ :: r, h => by cases h
end
end IP
namespace IP
open PySem PySem.Spec PyProof.Rows L2

/-! ### a list made of two; len(set(..)); small dicts -/
section
variable {X : Cx} {G : GC} {W : WX} {cf : CallF} {a b c e : Expr} {ia ib ic ie : IE} {pos : Pos}
theorem F_cat (ha : PE X a (rdE G W cf ia)) (hb : PE X b (rdE G W cf ib)) : PE X (.BinOp a .Add b pos) (rdF G W cf (.cat ia ib)) := by
  refine PEmon (pe_op op_catR ha hb) ?_
  rintro t H Q ⟨F, loc, s, S, hS, hE, p⟩
  simp only [evE] at p
  refine ⟨F, loc, s, S, hS, hE, Post.bind p fun v S1 w F1 loc1 H1 n r p1 => ⟨F1, loc1, s, S1, n.sim, hE.next n, Post.bind p1 fun v2 S2 w2 F2 loc2 H2 n2 r2 p2 => ?_⟩⟩
  split at p2
  · rename_i xs ys hx hy
    split at p2
    · rename_i hz
      obtain ⟨l, us, rfl, h1, h2⟩ := look_list n2.sim (r.next n2) hx
      obtain ⟨m, vs, rfl, h3, h4⟩ := look_list n2.sim r2 hy
      refine ⟨l, m, us, vs, rfl, rfl, h1, h3, by rw [h2.length, h4.length]; exact hz, fun q hq => ?_⟩
      exact p2 _ _ _ _ (Nxt.lay n2.sim hq) (FrR.new n2.sim (h2.append h4) hq (n.dom _ (n2.dom _ hq)))
    · exact False.elim p2
  · exact False.elim p2
/-! sets of ints -/
theorem firstMet_all (ns : List Int) : firstMet (fun i => ns.getD i 0) ns.length = ns.foldl step_dedup [] := by
  unfold firstMet
  congr 1
  apply List.ext_getElem?
  intro i
  rw [List.getElem?_map]
  by_cases h : i < ns.length
  · rw [List.getElem?_range h, List.getElem?_eq_getElem h]
    simp [List.getD_eq_getElem?_getD, h]
  · rw [List.getElem?_eq_none (by rw [List.length_range]; omega), List.getElem?_eq_none (by omega)]
    rfl
def tLenSet (K : PySem.W.Frag) (ta : TE) : TE := fun σ H Q => ta σ H fun x H1 => ∃ (l : Addr) (ns : List Int), x = .ref l ∧ SqL K H1 l (ns.map V.int) ∧ ns.length ≤ 4000 ∧ Q (.int ((ns.foldl step_dedup []).length : Nat)) H1
theorem pe_lenSet {ta : TE} {p p2 q : Pos} (hg : Gl X "len") (hm : X.mg "len" = none) (hg2 : Gl X "set") (hm2 : X.mg "set" = none) (ha : PE X a ta) (hc : X.calm = true)
    (na : starEach [a] X.env = (false, eval a X.env) :: starEach [] X.env) : PE X (.Call (.Name "len" p) [.Call (.Name "set" p2) [a] [] q] [] pos) (tLenSet X.K ta) := by
  refine ⟨fun pins s σ H Q I h => ?_⟩
  refine Call_ (ld_blt I hg hm boot_len ?_)
  refine PyProof.Rows.callWith_builtin1 (PyProof.Rows.args_cons ?_ rfl) rfl rfl
  refine Call_ (ld_blt I hg2 hm2 boot_set ?_)
  refine PyProof.Rows.callWith_type1 (PyProof.Rows.args_cons (thn (ha.run pins s σ H _ I h) fun v s1 ⟨x, H1, I1, r1, q1⟩ => PyProof.Rows.args_nil ?_) na) na rfl
  obtain ⟨l, ns, rfl, hq, hl, q1⟩ := q1
  cases r1
  obtain ⟨its, r, pl, hz⟩ := I1.list hq
  have hlen : its.toArray.size = ns.length := by rw [List.size_toArray, ← r.length, List.length_map]
  refine call_set_list (I1.ok.hd hc) pl.isList (by simpa using RZ.intsAre_vals r) (by rw [hlen]; unfold scanBound; omega) fun h' tk hS hk => ?_
  refine PyProof.Rows.args_nil ?_
  have le := firstMet_length_le (fun i => ns.getD i 0) ns.length
  rw [hlen] at hS
  rw [firstMet_all] at hS le
  obtain ⟨o, es, ep, t, ho, hex, hd, _, _, _, hf, hn⟩ := hS
  have I2 : Inv X pins σ H1 { s1 with heap := h', toks := tk } := I1.kept fun b o e => hk b o (Heap.lt_size e) e
  exact call_len_set ho hex hd hf (by rw [hn]; omega) ⟨.int (ns.foldl step_dedup []).length, H1, I2.tok _, ⟨_, by rw [hn]⟩, q1⟩
theorem E_lset {p p2 q : Pos} (hK : G.K = X.K) (hc : X.calm = true) (hg : Gl X "len") (hm : X.mg "len" = none) (hg2 : Gl X "set") (hm2 : X.mg "set" = none) (ha : PE X a (rdE G W cf ia))
    (na : starEach [a] X.env = (false, eval a X.env) :: starEach [] X.env) : PE X (.Call (.Name "len" p) [.Call (.Name "set" p2) [a] [] q] [] pos) (rdE G W cf (.lset ia)) := by
  refine PEmon (pe_lenSet hg hm hg2 hm2 ha hc na) ?_
  rintro t H Q ⟨F, loc, s, S, hS, hE, p⟩
  simp only [evE] at p
  refine ⟨F, loc, s, S, hS, hE, Post.bind p fun v S1 w F1 loc1 H1 n r p1 => ?_⟩
  split at p1
  · rename_i xs
    split at p1
    · rename_i ns hns
      split at p1
      · rename_i hz
        have e := intsOf_eq hns
        subst e
        have r : Rp G.K F1 H1 w (.list (ns.map .int)) := r
        cases r with
        | lst f e l =>
          rw [RpL.of_ints l] at e
          refine ⟨_, ns, rfl, hK ▸ .inl (.inl e), hz, ?_⟩
          exact p1 _ _ _ _ (.refl n.sim) (show Rp _ _ _ _ _ from .int _)
      · exact False.elim p1
    · exact False.elim p1
  · exact False.elim p1
/-! dicts that are looked at -/
theorem E_dic0 : PE X (.Dict [] [] pos) (rdE G W cf .dic0) := by
  refine PEmon pe_dnewK ?_
  rintro t H Q ⟨F, loc, s, S, hS, hE, p⟩
  simp only [evE] at p
  intro q hq
  exact p _ _ _ _ (Nxt.new (o := .dK []) hS hq) (show Rp _ _ _ _ _ from .dic (.inr rfl) upd_same .nil)
theorem E_dic1 {ke : Expr} {k : Key} (hk : PE X ke (tC (kV k))) (hv : PE X e (rdE G W cf ie)) : PE X (.Dict [some ke] [e] pos) (rdE G W cf (.dic1 (keyD k) ie)) := by
  refine PEmon (pe_disp (pps_cons hk hv pps_nil) rfl rfl (by simp) (by simp)) ?_
  rintro t H Q ⟨F, loc, s, S, hS, hE, p⟩
  simp only [evE] at p
  intro q hq
  have n0 := Nxt.lay (o := .dK []) hS hq
  have h0 : ¬ F q := fun f => hS.dom q f hq
  have h1 : ∀ l o, S[l]? = some o → alive o = true → loc l ≠ q := fun l o e al z => (hS.ob l o e).there al (by rw [z]; exact hq)
  show rdE G W cf ie t (upd H q (.dK [])) _
  refine ⟨F, loc, s, S, n0.sim, hE.next n0, ?_⟩
  cases qe : evE cf ie s S with
  | err => rw [qe] at p; exact p
  | exc c fs S' => rw [qe] at p; exact fun cv d F' loc' H' m r => p cv d F' loc' H' (n0.trans m) r
  | ok v S1 =>
    rw [qe] at p
    intro w F1 loc1 H1 n1 r
    obtain ⟨a1, a2, a3⟩ := n1.apart (a := q) upd_same h0 h1
    refine ⟨a1, [(k, w)], rfl, by simp, ?_⟩
    have n := n0.trans n1
    simp only [Out.bind_ok] at p
    split at p
    · rename_i d
      have r : Rp G.K F1 H1 w d := r
      have n3 := (n.priv (a := q) (o := .dK [(k, w)]) hq a2 a3).keepsF (a := q) hq (by rw [upd_same]; exact fun z => by cases z) a3
      have kp : ∀ a o, F1 a → H1 a = some o → upd H1 q (.dK [(k, w)]) a = some o := fun a o f e => by
        rw [upd_ne (fun z => a2 (by rw [← z]; exact f))]
        exact e
      exact p _ _ _ _ n3 (show Rp _ _ _ _ _ from .dic (.inr rfl) upd_same (.cons (Rp.mono (fun _ f => .inl f) kp r) .nil))
    · exact False.elim p
end
end IP
namespace IP
open PySem PySem.Spec PyProof.Rows L2

/-! ### the table of a text's names -/
structure KwT where
  np : Nat
  ks : List Str
  perm : List Nat
  deriving DecidableEq
structure FnT where
  nm : Str
  cl : Option Nat
  n : Nat
  ps : List Str
  ds : List Int
  kws : List KwT
structure Tab where
  fns : List (Option FnT)
  cls : List Str
  flds : List Str
  gcs : List (Str × PyData)
  blt : List Str
def Tab.fn (T : Tab) (f : Nat) : Option FnT := match T.fns[f]? with
  | some (some t) => some t
  | _ => none
structure LC where
  N : List Str
  sc : Scope
  blk : Option Scope
/-- names whose cell is the block's own -/
def fnB (L : LC) (x : Str) : Bool := match L.blk with
  | none => true
  | some s => s.names.lookup x == some .cell
inductive Mode where
  | E | F | T | W | I (tup : Bool)
def mv (m : Mode) (e : Expr) : Bool := match m with
  | .E => true
  | .T => plainT e
  | .I _ => true
  | _ => false
def mE : Mode → Bool
  | .E => true
  | _ => false
def mF : Mode → Bool
  | .E => true
  | .F => true
  | .I _ => true
  | _ => false
def mT : Mode → Bool
  | .E => true
  | .T => true
  | _ => false
def visB (sc : Scope) (x : Str) : Bool := match sc.names.lookup x with
  | some .local => true
  | some .cell => true
  | some .free => true
  | _ => false
def locB (L : LC) (x : Str) : Bool := match L.sc.names.lookup x with
  | some .local => true
  | some .cell => fnB L x
  | _ => false
def glB (sc : Scope) (x : Str) : Bool := match sc.names.lookup x with
  | some .globalImplicit => true
  | _ => false
def nmOk (x : Str) : Bool := !(x == ("__debug__" : Str)) && !(x == ("__classdict__" : Str))
def sameC : PyData → PyData → Bool
  | .none, .none => true
  | .bool a, .bool b => decide (a = b)
  | .int a, .int b => decide (a = b)
  | .str a, .str b => decide (a = b)
  | _, _ => false
def opB : BK → Operator → Bool
  | .add, .Add => true
  | .sub, .Sub => true
  | .mul, .Mult => true
  | .fdv, .FloorDiv => true
  | .mod, .Mod => true
  | .pow, .Pow => true
  | _, _ => false
def ckB : CK → CmpOp → Bool
  | .eq, .Eq => true
  | .ne, .NotEq => true
  | .lt, .Lt => true
  | .le, .LtE => true
  | .gt, .Gt => true
  | .ge, .GtE => true
  | .inn, .In => true
  | .nin, .NotIn => true
  | _, _ => false
def isB (n : Bool) : CmpOp → Bool
  | .Is => !n
  | .IsNot => n
  | _ => false
/-- a built-in function's name, where it gives no new list -/
def bfN : BF → Option Str
  | .len => some "len"
  | .abs => some "abs"
  | .min2 => some "min"
  | .max2 => some "max"
  | .int => some "int"
  | .str => some "str"
  | .repr => some "repr"
  | .tuple => some "tuple"
  | .all => some "all"
  | .any => some "any"
  | .sum => some "sum"
  | .min => some "min"
  | _ => none
def bfF : BF → Option Str
  | .list => some "list"
  | .sorted => some "sorted"
  | _ => none
def tkS : TK → Str
  | .int => "int"
  | .bool => "bool"
  | .tuple => "tuple"
  | .str => "str"
def gnB (T : Tab) (L : LC) (x : Str) : Bool := glB L.sc x && T.blt.contains x
mutual
def chkP (L : LC) : Pt → Expr → Bool
  | .nm i, e => match e with
    | .Name x _ => decide (L.N[i]? = some x) && locB L x
    | _ => false
  | .tp ps, e => match e with
    | .Tuple es _ _ => noStars es && chkPs L ps es
    | _ => false
def chkPs (L : LC) : List Pt → List Expr → Bool
  | [], es => match es with
    | [] => true
    | _ => false
  | p :: ps, es => match es with
    | e :: es => chkP L p e && chkPs L ps es
    | _ => false
end
/-- a comprehension's block -/
def LC.in (L : LC) (sc : Scope) : LC := ⟨L.N, relS sc L.sc, some sc⟩
def owns (L : LC) (own : List Nat) : List (Str × Nat) := own.map fun i => ((L.N[i]?).getD "", i)
def isTupE : Expr → Bool
  | .Tuple .. => true
  | _ => false
mutual
def chk (T : Tab) : IE → Mode → LC → Expr → Bool
  | .bad, m, L, e => mE m
  | .var i, m, L, e => mv m e && match e with
    | .Name x _ => decide (L.N[i]? = some x) && visB L.sc x && nmOk x
    | _ => false
  | .frz i, m, L, e => mv m e && match e with
    | .Name x _ => decide (L.N[i]? = some x) && visB L.sc x && nmOk x
    | _ => false
  | .cst p, m, L, e => mv m e && match e with
    | .Constant c _ _ => match p, c with
      | .none, .none => true
      | .bool a, .bool b => decide (a = b)
      | .int a, .int b => decide (a = b)
      | .str a, .str b => decide (a = b)
      | _, _ => false
    | _ => false
  | .non, m, L, e => false
  | .gcs g p, m, L, e => mv m e && match e with
    | .Name x _ => glB L.sc x && nmOk x && match T.gcs[g]? with
      | some (y, q) => decide (x = y) && sameC p q
      | none => false
    | _ => false
  | .tup is, m, L, e => mv m e && match e with
    | .Tuple es _ _ => chkL T is L es
    | _ => false
  | .lst is, m, L, e => mF m && match e with
    | .List es _ => chkL T is L es
    | _ => false
  | .new i, m, L, e => mE m && chk T i .F L e
  | .ndc, m, L, e => false
  | .bin op a b, m, L, e => mv m e && match e with
    | .BinOp x o y _ => opB op o && (chk T a .E L x && chk T b .E L y)
    | _ => false
  | .neg a, m, L, e => mE m && match e with
    | .UnaryOp .USub x _ => chk T a .E L x
    | _ => false
  | .not a, m, L, e => match e with
    | .UnaryOp .Not x _ => match m with
      | .E => chk T a .E L x
      | .T => chk T a .T L x
      | _ => false
    | _ => false
  | .cmp op a b, m, L, e => mT m && match e with
    | .Compare x [o] [y] _ => ckB op o && !behindInMarks o y && (chk T a .E L x && chk T b .E L y)
    | _ => false
  | .chn op op' a b c, m, L, e => mT m && match e with
    | .Compare x [o, o'] [y, z] _ => ckB op o && ckB op' o' && !lastMarks [o, o'] [y, z] && (chk T a .E L x && chk T b .E L y && chk T c .E L z)
    | _ => false
  | .isc n a p, m, L, e => mT m && match e with
    | .Compare x [o] [.Constant c _ _] _ => isB n o && chk T a .E L x && (match p, c with
      | .none, .none => true
      | .bool a, .bool b => decide (a = b)
      | _, _ => false)
    | _ => false
  | .and a b, m, L, e => match e with
    | .BoolOp .And (x :: y :: r) pos => match m with
      | .E => chk T a .E L x && (match r with
        | [] => chk T b .E L y
        | _ => chk T b .E L (.BoolOp .And (y :: r) pos))
      | .T => chk T a .T L x && (match r with
        | [] => chk T b .T L y
        | _ => chk T b .W L (.BoolOp .And (y :: r) pos))
      | .W => chk T a .T L x && (match r with
        | [] => chk T b .T L y
        | _ => chk T b .W L (.BoolOp .And (y :: r) pos))
      | _ => false
    | _ => false
  | .or a b, m, L, e => match e with
    | .BoolOp .Or (x :: y :: r) pos => match m with
      | .E => chk T a .E L x && (match r with
        | [] => chk T b .E L y
        | _ => chk T b .E L (.BoolOp .Or (y :: r) pos))
      | .T => chk T a .T L x && (match r with
        | [] => chk T b .T L y
        | _ => chk T b .W L (.BoolOp .Or (y :: r) pos))
      | .W => chk T a .T L x && (match r with
        | [] => chk T b .T L y
        | _ => chk T b .W L (.BoolOp .Or (y :: r) pos))
      | _ => false
    | _ => false
  | .ite c a b, m, L, e => mE m && match e with
    | .IfExp z x y _ => chk T c .T L z && (chk T a .E L x && chk T b .E L y)
    | _ => false
  | .call f is ds, m, L, e => mv m e && match e with
    | .Call (.Name x _) xs [] _ => match T.fn f with
      | some t => t.cl.isNone && decide (x = t.nm) && glB L.sc x && nmOk x && decide (is.length + ds.length = t.n) && (ds.isEmpty || decide (ds = t.ds)) && chkL T is L xs
      | none => false
    | _ => false
  | .callk f is ks perm, m, L, e => mv m e && match e with
    | .Call (.Name x _) xs kws _ => match T.fn f with
      | some t => t.cl.isNone && decide (x = t.nm) && glB L.sc x && nmOk x && kwAll kws && decide (perm.length = t.n) && decide (ks.length = (kwNames kws).length) && t.kws.contains ⟨is.length, kwNames kws, perm⟩ && chkL T is L xs && chkK T ks L kws
      | none => false
    | _ => false
  | .mk c f is, m, L, e => mv m e && match e with
    | .Call (.Name x _) xs [] _ => match T.fn f with
      | some t => decide (t.cl = some c) && decide (t.nm = "__init__") && decide (T.cls[c]? = some x) && glB L.sc x && nmOk x && decide (is.length + 1 = t.n) && chkL T is L xs
      | none => false
    | _ => false
  | .mth c f o is ds, m, L, e => mv m e && match e with
    | .Call (.Attribute y nm apos) xs [] pos => match T.fn f with
      | some t => decide (t.cl = some c) && decide (nm = t.nm) && decide (t.nm ≠ "__init__") && noCall y && (apos.endLine == pos.line) && decide (xs.length < 30) && decide (is.length + ds.length + 1 = t.n) && (ds.isEmpty || decide (ds = t.ds)) && chk T o .E L y && chkL T is L xs
      | none => false
    | _ => false
  | .bf b is, m, L, e => match b with
    | .isi t => mv m e && match e with
      | .Call (.Name x _) [y, .Name z _] [] _ => decide (x = "isinstance") && gnB T L x && decide (z = tkS t) && gnB T L z && noStar y && chkL T is L [y]
      | _ => false
    | b => match bfF b with
      | some n => mF m && (match e with
        | .Call (.Name x _) [y] [] _ => decide (x = n) && gnB T L x && noStar y && chkL T is L [y]
        | _ => false)
      | none => match bfN b with
        | some n => mv m e && (match e with
          | .Call (.Name x _) (y :: ys) [] _ => decide (x = n) && gnB T L x && chkL T is L (y :: ys)
          | _ => false)
        | none => false
  | .comp elt pt it ifs own, m, L, e => mF m && match e with
    | .ListComp el [⟨tg, iter, cs, 0⟩] scope _ => chk T it (.I (isTupE tg)) L iter && noSet iter && blkC L.N L.sc scope (owns L own) && chkP (L.in scope) pt tg && chkC T ifs (L.in scope) cs && chk T elt .E (L.in scope) el && (slots pt).all (own.contains ·)
    | _ => false
  | .idx a i, m, L, e => mv m e && match e with
    | .Subscript x y _ => noSlice y && (chk T a .E L x && chk T i .E L y)
    | _ => false
  | .sli a lo hi, m, L, e => mv m e && match e with
    | .Subscript x (.Slice l h none _) _ => chk T a .E L x && (match l with
      | none => isNon lo
      | some y => !isNon lo && chk T lo .E L y) && (match h with
      | none => isNon hi
      | some y => !isNon hi && chk T hi .E L y)
    | _ => false
  | .rev a, m, L, e => mv m e && match e with
    | .Subscript x (.Slice none none (some (.UnaryOp .USub (.Constant (.int 1) _ _) _)) _) _ => chk T a .E L x
    | _ => false
  | .fld o f, m, L, e => mv m e && match e with
    | .Attribute x nm _ => noCall x && decide (T.flds[f]? = some nm) && chk T o .E L x
    | _ => false
  | .rg1 a, m, L, e => match m with
    | .I _ => match e with
      | .Call (.Name x _) [y] [] _ => decide (x = "range") && gnB T L x && noStar y && chk T a .E L y
      | _ => false
    | _ => false
  | .rg2 a b, m, L, e => match m with
    | .I _ => match e with
      | .Call (.Name x _) [y, z] [] _ => decide (x = "range") && gnB T L x && noStar y && noStar z && chk T a .E L y && chk T b .E L z
      | _ => false
    | _ => false
  | .zip a b, m, L, e => match m with
    | .I true => match e with
      | .Call (.Name x _) [y, z] [] _ => decide (x = "zip") && gnB T L x && noStar y && noStar z && chk T a .E L y && chk T b .E L z
      | _ => false
    | _ => false
  | .enu a, m, L, e => match m with
    | .I true => match e with
      | .Call (.Name x _) [y] [] _ => decide (x = "enumerate") && gnB T L x && noStar y && chk T a .E L y
      | _ => false
    | _ => false
  | .rvd a, m, L, e => match m with
    | .I _ => match e with
      | .Call (.Name x _) [y] [] _ => decide (x = "reversed") && gnB T L x && noStar y && chk T a .E L y
      | _ => false
    | _ => false
  | .lr1 t a, m, L, e => (if t = true then mv m e else mF m) && match e with
    | .Call (.Name x _) [.Call (.Name y _) [z] [] _] [] _ => decide (x = if t = true then "tuple" else "list") && decide (y = "range") && gnB T L x && gnB T L y && noStar z && chk T a .E L z
    | _ => false
  | .lr2 t a b, m, L, e => (if t = true then mv m e else mF m) && match e with
    | .Call (.Name x _) [.Call (.Name y _) [z, u] [] _] [] _ => decide (x = if t = true then "tuple" else "list") && decide (y = "range") && gnB T L x && gnB T L y && noStar z && noStar u && chk T a .E L z && chk T b .E L u
    | _ => false
  | .pop i a, m, L, e => mE m && match e with
    | .Call (.Attribute (.Name x _) b apos) [v] [] cpos => decide (b = "pop") && decide (L.N[i]? = some x) && visB L.sc x && nmOk x && (apos.endLine == cpos.line) && noStar v && chk T a .E L v
    | _ => false
  | .cat a b, m, L, e => mF m && match e with
    | .BinOp x .Add y _ => chk T a .E L x && chk T b .E L y
    | _ => false
  | .lset a, m, L, e => mv m e && match e with
    | .Call (.Name x _) [.Call (.Name y _) [z] [] _] [] _ => decide (x = "len") && decide (y = "set") && gnB T L x && gnB T L y && noStar z && chk T a .E L z
    | _ => false
  | .dic0, m, L, e => mv m e && match e with
    | .Dict [] [] _ => true
    | _ => false
  | .dic1 k a, m, L, e => mv m e && match e with
    | .Dict [some (.Constant c _ _)] [y] _ => (match k, c with
      | .int a, .int b => decide (a = b)
      | .str a, .str b => decide (a = b)
      | _, _ => false) && noStar y && chk T a .E L y
    | _ => false
def chkL (T : Tab) : List IE → LC → List Expr → Bool
  | [], L, es => match es with
    | [] => true
    | _ => false
  | i :: is, L, es => match es with
    | e :: es => noStar e && chk T i .E L e && chkL T is L es
    | _ => false
def chkK (T : Tab) : List IE → LC → List Keyword → Bool
  | [], L, es => match es with
    | [] => true
    | _ => false
  | i :: is, L, es => match es with
    | k :: es => chk T i .E L k.value && chkK T is L es
    | _ => false
/-- a comprehension's ifs: none, or one -/
def chkC (T : Tab) : List IE → LC → List Expr → Bool
  | [], L, es => match es with
    | [] => true
    | _ => false
  | i :: is, L, es => match es with
    | [e] => chk T i .T L e && is.isEmpty
    | _ => false
end
end IP
namespace IP
open PySem PySem.Spec PyProof.Rows L2

structure EnvF (T : Tab) (G : GC) (cf : CallF) (k : Nat) (CXT : CXT) (P : Program) (w : World) (K : PySem.W.Frag) (mg : Str → Option Value) (base : Heap) : Prop where
  gk : G.K = K
  fn : ∀ f t, T.fn f = some t → ∃ fa fd, FnG P w K mg base CXT k fa fd t.n t.ps (spC G t.n (cf f)) ∧ (∀ ds, ds = [] ∨ ds = t.ds → ∃ us, Vals (dflV ds) us ∧ Binds K fd t.ps us) ∧ (∀ q, q ∈ t.kws → KB K fd t.ps q.np q.ks q.perm) ∧
    (t.cl = none → mg t.nm = some (.ref fa) ∧ PySem.W.keepIn K (.ref fa) = true) ∧ (∀ c, t.cl = some c → (t.nm ≠ "__init__" → Meth K (G.cls c) t.nm fa) ∧ (t.nm = "__init__" → Mk K (G.cls c) fa))
  cl : ∀ (c : Nat) x, T.cls[c]? = some x → G.cok c ∧ mg x = some (.ref (G.cls c))
  cok : ∀ c, G.cok c → Cls K (G.cls c)
  clm : ∀ f t c, T.fn f = some t → t.cl = some c → G.cok c
  fi : ∀ f g, G.fnm f = G.fnm g → f = g
  fl : ∀ (f : Nat) x, T.flds[f]? = some x → x = G.fnm f ∧ ∀ c, G.cok c → NoAttr K (G.cls c) x
  fm : ∀ f i t c, T.fn i = some t → t.cl = some c → G.fnm f ≠ t.nm
  blt : ∀ x, T.blt.contains x = true → mg x = none
  gcs : ∀ (g : Nat) x d, T.gcs[g]? = some (x, d) → ∃ v u, mg x = some u ∧ RelV v u ∧ ∀ F H, Rp G.K F H v d
  sys : Sys base
  p0 : ∀ X : Cx, X.prog = P → X.w = w → Passes CXT X (fun _ _ _ => False)
structure XOk (T : Tab) (G : GC) (cf : CallF) (k : Nat) (CXT : CXT) (W : WX) (L : LC) (X : Cx) : Prop where
  env : EnvF T G cf k CXT X.prog X.w X.K X.mg X.base
  N : X.N = L.N
  nd : L.N.Nodup
  sc : X.env.scope = L.sc
  kind : L.sc.kind = .function
  room : Room (k + 1) X.A
  hush : X.A.guards = some []
  calm : X.calm = true
  fn : ∀ x, fnB L x = true → X.fn x = true
  pass : Passes CXT X (WE W [])
  wi : ∀ cv d t t' H, W cv d t H → W cv d t' H
def SemM (G : GC) (W : WX) (cf : CallF) (m : Mode) (X : Cx) (e : Expr) (ie : IE) : Prop := match m with
  | .E => PE X e (rdE G W cf ie)
  | .F => PE X e (rdF G W cf ie)
  | .T => PT X e (rdT G W cf ie)
  | .W => PW X e (rdT G W cf ie)
  | .I tup => ∀ tg, isTupE tg = tup → PI X tg e (rdI G W cf ie)

section
variable {T : Tab} {G : GC} {cf : CallF} {k : Nat} {CXT : CXT} {W : WX} {L : LC} {X : Cx} {e : Expr} {es : List Expr} {ie a b c o : IE} {is ks : List IE} {m : Mode} {x : Str}
variable (T G cf k CXT) in
abbrev Good (ie : IE) : Prop := ∀ (m : Mode) (L : LC) (e : Expr) (X : Cx) (W : WX), XOk T G cf k CXT W L X → chk T ie m L e = true → SemM G W cf m X e ie
variable (T G cf k CXT) in
abbrev GoodL (is : List IE) : Prop := ∀ (L : LC) (es : List Expr) (X : Cx) (W : WX), XOk T G cf k CXT W L X → chkL T is L es = true → PA X es (rdL G W cf is) ∧ noStars es = true
variable (T G cf k CXT) in
abbrev GoodK (is : List IE) : Prop := ∀ (L : LC) (es : List Keyword) (X : Cx) (W : WX), XOk T G cf k CXT W L X → chkK T is L es = true → PK X es (rdL G W cf is)
variable (T G cf k CXT) in
abbrev GoodC (is : List IE) : Prop := ∀ (L : LC) (es : List Expr) (X : Cx), XOk T G cf k CXT W0 L X → chkC T is L es = true → PTs X es (rdTs G W0 cf is)
theorem XOk.gk (h : XOk T G cf k CXT W L X) : G.K = X.K := h.env.gk
theorem XOk.gl (h : XOk T G cf k CXT W L X) (g : glB L.sc x = true) : Gl X x := by
  unfold glB at g
  show X.env.scope.names.lookup x = some .globalImplicit
  rw [h.sc]
  split at g
  · assumption
  · cases g
theorem XOk.gn (h : XOk T G cf k CXT W L X) (g : gnB T L x = true) : Gl X x ∧ X.mg x = none := by
  simp only [gnB, Bool.and_eq_true] at g
  exact ⟨h.gl g.1, h.env.blt x g.2⟩
theorem XOk.vis (h : XOk T G cf k CXT W L X) (g : visB L.sc x = true) : Vis X.env.scope x := by
  rw [h.sc]
  unfold visB at g
  split at g
  · exact .inl (by assumption)
  · exact .inr (.inl (by assumption))
  · exact .inr (.inr (by assumption))
  · cases g
theorem XOk.loc (h : XOk T G cf k CXT W L X) (g : locB L x = true) : Loc X.env.scope x ∧ (X.fn x = true ∨ X.env.scope.names.lookup x = some .local) := by
  rw [h.sc]
  unfold locB at g
  split at g
  · exact ⟨.inl (by assumption), .inr (by assumption)⟩
  · exact ⟨.inr (by assumption), .inl (h.fn x g)⟩
  · cases g
theorem nm_ok (h : nmOk x = true) : (x == ("__debug__" : Str)) = false ∧ (x == ("__classdict__" : Str)) = false := by
  simpa only [nmOk, Bool.and_eq_true, Bool.not_eq_true'] using h
theorem XOk.at_ {i : Nat} (h : XOk T G cf k CXT W L X) (g : L.N[i]? = some x) : X.N[i]? = some x := by rw [h.N]; exact g
theorem mv_sem (h : XOk T G cf k CXT W L X) (g : mv m e = true) (p : PE X e (rdE G W cf ie)) : SemM G W cf m X e ie := by
  cases m with
  | E => exact p
  | F => cases g
  | T => exact T_val p (true_val g)
  | W => cases g
  | I tup => exact fun tg _ => I_seq h.gk p
theorem mE_sem (g : mE m = true) (p : PE X e (rdE G W cf ie)) : SemM G W cf m X e ie := by
  cases m <;> first | exact p | cases g
theorem mF_sem (h : XOk T G cf k CXT W L X) (g : mF m = true) (p : PE X e (rdF G W cf ie)) : SemM G W cf m X e ie := by
  cases m with
  | E => exact E_ofF p
  | F => exact p
  | T => cases g
  | W => cases g
  | I tup => exact fun tg _ => I_seq h.gk (E_ofF p)
theorem mT_sem (g : mT m = true) (p : PE X e (rdE G W cf ie)) (q : PT X e (rdT G W cf ie)) : SemM G W cf m X e ie := by
  cases m <;> first | exact p | exact q | cases g
/-! one form after the other -/
theorem g_bad : Good T G cf k CXT .bad := by
  intro m L e X W h c
  simp only [chk] at c
  exact mE_sem c E_bad
theorem g_var {i : Nat} : Good T G cf k CXT (.var i) := by
  intro m L e X W h c
  simp only [chk, Bool.and_eq_true] at c
  obtain ⟨c1, c2⟩ := c
  split at c2
  · simp only [Bool.and_eq_true, decide_eq_true_eq] at c2
    obtain ⟨⟨c2, c3⟩, c4⟩ := c2
    exact mv_sem h c1 (E_var (h.at_ c2) (h.vis c3) (nm_ok c4).1 (nm_ok c4).2)
  · cases c2
theorem g_frz {i : Nat} : Good T G cf k CXT (.frz i) := by
  intro m L e X W h c
  simp only [chk, Bool.and_eq_true] at c
  obtain ⟨c1, c2⟩ := c
  split at c2
  · simp only [Bool.and_eq_true, decide_eq_true_eq] at c2
    obtain ⟨⟨c2, c3⟩, c4⟩ := c2
    exact mv_sem h c1 (E_frz (h.at_ c2) (h.vis c3) (nm_ok c4).1 (nm_ok c4).2)
  · cases c2
theorem g_cst {p : PyData} : Good T G cf k CXT (.cst p) := by
  intro m L e X W h c
  simp only [chk, Bool.and_eq_true] at c
  obtain ⟨c1, c2⟩ := c
  split at c2
  · split at c2
    · exact mv_sem h c1 E_cnon
    · rw [decide_eq_true_eq] at c2; subst c2; exact mv_sem h c1 E_cbl
    · rw [decide_eq_true_eq] at c2; subst c2; exact mv_sem h c1 E_cint
    · rw [decide_eq_true_eq] at c2; subst c2; exact mv_sem h c1 E_cstr
    · cases c2
  · cases c2
theorem same_c : ∀ {p q : PyData}, sameC p q = true → p = q
  | .none, .none, _ => rfl
  | .bool a, .bool b, h => by rw [sameC, decide_eq_true_eq] at h; rw [h]
  | .int a, .int b, h => by rw [sameC, decide_eq_true_eq] at h; rw [h]
  | .str a, .str b, h => by rw [sameC, decide_eq_true_eq] at h; rw [h]
theorem g_gcs {g : Nat} {p : PyData} : Good T G cf k CXT (.gcs g p) := by
  intro m L e X W h c
  simp only [chk, Bool.and_eq_true] at c
  obtain ⟨c1, c2⟩ := c
  split at c2
  · simp only [Bool.and_eq_true] at c2
    obtain ⟨⟨c2, c3⟩, c4⟩ := c2
    split at c4
    · rename_i y q hg
      simp only [Bool.and_eq_true, decide_eq_true_eq] at c4
      obtain ⟨rfl, c5⟩ := c4
      cases same_c c5
      obtain ⟨v, u, h1, h2, h3⟩ := h.env.gcs _ _ _ hg
      exact mv_sem h c1 (E_gcs (h.gl c2) h1 h2 (nm_ok c3).1 h3)
    · cases c4
  · cases c2
theorem g_tup (hl : GoodL T G cf k CXT is) : Good T G cf k CXT (.tup is) := by
  intro m L e X W h c
  simp only [chk, Bool.and_eq_true] at c
  obtain ⟨c1, c2⟩ := c
  split at c2
  · exact mv_sem h c1 (E_tup (hl _ _ _ _ h c2).1)
  · cases c2
theorem g_lst (hl : GoodL T G cf k CXT is) : Good T G cf k CXT (.lst is) := by
  intro m L e X W h c
  simp only [chk, Bool.and_eq_true] at c
  obtain ⟨c1, c2⟩ := c
  split at c2
  · exact mF_sem h c1 (F_lst (hl _ _ _ _ h c2).1)
  · cases c2
theorem g_new (ha : Good T G cf k CXT a) : Good T G cf k CXT (.new a) := by
  intro m L e X W h c
  simp only [chk, Bool.and_eq_true] at c
  exact mE_sem c.1 (E_new (ha .F L e X W h c.2))
theorem op_b : ∀ {op : BK} {o : Operator}, opB op o = true → OpR X (binaryOp o) (rDat X.K (lookO op) (binP op))
  | .add, .Add, _ => op_add_d
  | .sub, .Sub, _ => op_sub_d
  | .mul, .Mult, _ => op_mul_d
  | .fdv, .FloorDiv, _ => op_fdv_d
  | .mod, .Mod, _ => op_mod_d
  | .pow, .Pow, _ => op_pow_d
theorem ck_b (hu : X.A.units + 64 < cLine) : ∀ {op : CK} {o : CmpOp}, ckB op o = true → OpR X (compareOp o) (rCmp X.K (cmpP op))
  | .eq, .Eq, _ => cmp_eq_d hu
  | .ne, .NotEq, _ => cmp_ne_d hu
  | .lt, .Lt, _ => cmp_lt_d
  | .le, .LtE, _ => cmp_le_d
  | .gt, .Gt, _ => cmp_gt_d
  | .ge, .GtE, _ => cmp_ge_d
  | .inn, .In, _ => cmp_in_d
  | .nin, .NotIn, _ => cmp_nin_d
theorem g_bin {op : BK} (ha : Good T G cf k CXT a) (hb : Good T G cf k CXT b) : Good T G cf k CXT (.bin op a b) := by
  intro m L e X W h c
  simp only [chk, Bool.and_eq_true] at c
  obtain ⟨c1, c2⟩ := c
  split at c2
  · simp only [Bool.and_eq_true] at c2
    obtain ⟨c2, c3, c4⟩ := c2
    exact mv_sem h c1 (E_bin (op_b c2) h.gk (ha .E L _ X W h c3) (hb .E L _ X W h c4))
  · cases c2
theorem g_neg (ha : Good T G cf k CXT a) : Good T G cf k CXT (.neg a) := by
  intro m L e X W h c
  simp only [chk, Bool.and_eq_true] at c
  obtain ⟨c1, c2⟩ := c
  split at c2
  · exact mE_sem c1 (E_neg (ha .E L _ X W h c2))
  · cases c2
theorem g_not (ha : Good T G cf k CXT a) : Good T G cf k CXT (.not a) := by
  intro m L e X W h c
  simp only [chk] at c
  split at c
  · split at c
    · exact E_not (ha .E L _ X W h c)
    · exact T_not (ha .T L _ X W h c)
    · cases c
  · cases c
theorem g_cmp {op : CK} (ha : Good T G cf k CXT a) (hb : Good T G cf k CXT b) : Good T G cf k CXT (.cmp op a b) := by
  intro m L e X W h c
  simp only [chk, Bool.and_eq_true] at c
  obtain ⟨c1, c2⟩ := c
  split at c2
  · simp only [Bool.and_eq_true, Bool.not_eq_true'] at c2
    obtain ⟨⟨c2, c5⟩, c3, c4⟩ := c2
    have A := ha .E L _ X W h c3
    have B := hb .E L _ X W h c4
    have O := ck_b (X := X) h.room.units c2
    exact mT_sem c1 (E_cmp O h.gk A B c5) (T_cmp O h.gk A B c5)
  · cases c2
theorem g_chn {op op' : CK} (ha : Good T G cf k CXT a) (hb : Good T G cf k CXT b) (hc : Good T G cf k CXT c) : Good T G cf k CXT (.chn op op' a b c) := by
  intro m L e X W h c
  simp only [chk, Bool.and_eq_true] at c
  obtain ⟨c1, c2⟩ := c
  split at c2
  · simp only [Bool.and_eq_true, Bool.not_eq_true'] at c2
    obtain ⟨⟨⟨c2, c3⟩, c4⟩, ⟨c5, c6⟩, c7⟩ := c2
    have A := ha .E L _ X W h c5
    have B := hb .E L _ X W h c6
    have C := hc .E L _ X W h c7
    have O := ck_b (X := X) h.room.units c2
    have O' := ck_b (X := X) h.room.units c3
    exact mT_sem c1 (C_chn O O' h.gk A B C c4) (T_chn O O' h.gk A B C c4)
  · cases c2
theorem is_b {n : Bool} {o : CmpOp} (h : isB n o = true) : o = if n = true then .IsNot else .Is := by
  cases o <;> cases n <;> first | rfl | cases h
theorem g_isc {n : Bool} {p : PyData} (ha : Good T G cf k CXT a) : Good T G cf k CXT (.isc n a p) := by
  intro m L e X W h c
  simp only [chk, Bool.and_eq_true] at c
  obtain ⟨c1, c2⟩ := c
  split at c2
  · simp only [Bool.and_eq_true] at c2
    obtain ⟨⟨c2, c3⟩, c4⟩ := c2
    have A := ha .E L _ X W h c3
    split at c4
    · exact mT_sem c1 (E_isN (is_b c2) A) (T_isN (is_b c2) A)
    · rw [decide_eq_true_eq] at c4
      subst c4
      exact mT_sem c1 (E_isB (is_b c2) A) (T_isB (is_b c2) A)
    · cases c4
  · cases c2
theorem g_and (ha : Good T G cf k CXT a) (hb : Good T G cf k CXT b) : Good T G cf k CXT (.and a b) := by
  intro m L e X W h c
  simp only [chk] at c
  split at c
  · rename_i x y r pos
    cases m with
    | E =>
      simp only [Bool.and_eq_true] at c
      obtain ⟨c1, c2⟩ := c
      refine E_and (ha .E L _ X W h c1) ?_
      cases r with
      | nil => exact pe_one (hb .E L _ X W h c2)
      | cons z r => exact hb .E L _ X W h c2
    | T =>
      simp only [Bool.and_eq_true] at c
      obtain ⟨c1, c2⟩ := c
      refine PW.pt (T_and (ha .T L _ X W h c1) ?_)
      cases r with
      | nil => exact pw_and1 (hb .T L _ X W h c2)
      | cons z r => exact hb .W L _ X W h c2
    | W =>
      simp only [Bool.and_eq_true] at c
      obtain ⟨c1, c2⟩ := c
      refine T_and (ha .T L _ X W h c1) ?_
      cases r with
      | nil => exact pw_and1 (hb .T L _ X W h c2)
      | cons z r => exact hb .W L _ X W h c2
    | F => cases c
    | I t => cases c
  · cases c
theorem g_or (ha : Good T G cf k CXT a) (hb : Good T G cf k CXT b) : Good T G cf k CXT (.or a b) := by
  intro m L e X W h c
  simp only [chk] at c
  split at c
  · rename_i x y r pos
    cases m with
    | E =>
      simp only [Bool.and_eq_true] at c
      obtain ⟨c1, c2⟩ := c
      refine E_or (ha .E L _ X W h c1) ?_
      cases r with
      | nil => exact pe_one (hb .E L _ X W h c2)
      | cons z r => exact hb .E L _ X W h c2
    | T =>
      simp only [Bool.and_eq_true] at c
      obtain ⟨c1, c2⟩ := c
      refine PW.pt (T_or (ha .T L _ X W h c1) ?_)
      cases r with
      | nil => exact pw_or1 (hb .T L _ X W h c2)
      | cons z r => exact hb .W L _ X W h c2
    | W =>
      simp only [Bool.and_eq_true] at c
      obtain ⟨c1, c2⟩ := c
      refine T_or (ha .T L _ X W h c1) ?_
      cases r with
      | nil => exact pw_or1 (hb .T L _ X W h c2)
      | cons z r => exact hb .W L _ X W h c2
    | F => cases c
    | I t => cases c
  · cases c
theorem g_ite (hc : Good T G cf k CXT c) (ha : Good T G cf k CXT a) (hb : Good T G cf k CXT b) : Good T G cf k CXT (.ite c a b) := by
  intro m L e X W h c
  simp only [chk, Bool.and_eq_true] at c
  obtain ⟨c1, c2⟩ := c
  split at c2
  · simp only [Bool.and_eq_true] at c2
    obtain ⟨c2, c3, c4⟩ := c2
    exact mE_sem c1 (E_ite (hc .T L _ X W h c2) (ha .E L _ X W h c3) (hb .E L _ X W h c4))
  · cases c2
theorem noS {e : Expr} {es : List Expr} (h : noStars (e :: es) = true) : noStar e = true ∧ noStars es = true := by
  simpa only [noStars, Bool.and_eq_true] using h
theorem ds_ok {ds : List Int} {t : FnT} (h : (ds.isEmpty || decide (ds = t.ds)) = true) : ds = [] ∨ ds = t.ds := by
  simpa only [Bool.or_eq_true, decide_eq_true_eq, List.isEmpty_iff] using h
theorem g_call {f : Nat} {ds : List Int} (hl : GoodL T G cf k CXT is) : Good T G cf k CXT (.call f is ds) := by
  intro m L e X W h c
  simp only [chk, Bool.and_eq_true] at c
  obtain ⟨c1, c2⟩ := c
  split at c2
  · rename_i x p xs pos
    split at c2
    · rename_i t ht
      simp only [Bool.and_eq_true, decide_eq_true_eq, Option.isNone_iff_eq_none] at c2
      obtain ⟨⟨⟨⟨⟨⟨c2, rfl⟩, c4⟩, c5⟩, c6⟩, c7⟩, c8⟩ := c2
      obtain ⟨fa, fd, hF, hB, _, hN, _⟩ := h.env.fn f t ht
      obtain ⟨us, hU, hB⟩ := hB ds (ds_ok c7)
      obtain ⟨h1, h2⟩ := hN c2
      obtain ⟨hA, hS⟩ := hl _ _ _ _ h c8
      have hr : Room k X.A := h.room.mono (Nat.le_succ k)
      cases xs with
      | nil =>
        cases is with
        | nil => exact mv_sem h c1 (C_call0 hF hr h.hush (h.gl c4) h1 h2 hB hU h.pass h.wi (by simpa using c6) (nm_ok c5).1)
        | cons i is => simp [chkL] at c8
      | cons y ys => exact mv_sem h c1 (C_call hF hr h.hush (h.gl c4) h1 h2 hB hU h.pass h.wi hA c6 (nm_ok c5).1 (star_cons (noS hS).1) (star_any (noS hS).2))
    · cases c2
  · cases c2
theorem g_callk {f : Nat} {perm : List Nat} (hl : GoodL T G cf k CXT is) (hk : GoodK T G cf k CXT ks) : Good T G cf k CXT (.callk f is ks perm) := by
  intro m L e X W h c
  simp only [chk, Bool.and_eq_true] at c
  obtain ⟨c1, c2⟩ := c
  split at c2
  · rename_i x p xs kws pos
    split at c2
    · rename_i t ht
      simp only [Bool.and_eq_true, decide_eq_true_eq, Option.isNone_iff_eq_none, List.contains_iff_mem] at c2
      obtain ⟨⟨⟨⟨⟨⟨⟨⟨⟨c2, rfl⟩, c4⟩, c5⟩, c6⟩, c7⟩, c8⟩, c9⟩, c10⟩, c11⟩ := c2
      obtain ⟨fa, fd, hF, _, hKB, hN, _⟩ := h.env.fn f t ht
      have hKB := hKB _ c9
      obtain ⟨h1, h2⟩ := hN c2
      obtain ⟨hA, hS⟩ := hl _ _ _ _ h c10
      have hKw := hk _ _ _ _ h c11
      have hr : Room k X.A := h.room.mono (Nat.le_succ k)
      obtain ⟨k1, k2, k3⟩ := kw_facts (env := X.env) (pos := pos) c6
      cases xs with
      | nil =>
        cases is with
        | cons i is => simp [chkL] at c10
        | nil =>
          refine mv_sem h c1 (PEmon (call_p0 hF hr h.hush (h.gl c4) h1 h2 hKB h.pass hKw k1 k2 (nm_ok c5).1 (by rw [k3]; rfl)) fun t' H Q q => ?_)
          obtain ⟨F, loc, s, S, hS', hE, p⟩ := rd_callk (np := 0) h.wi rfl c8 c7 q
          simp only [evL] at p
          exact p [] F loc H (.refl hS') .nil
      | cons y ys =>
        refine mv_sem h c1 (PEmon (call_p hF hr h.hush (h.gl c4) h1 h2 hKB h.pass hA hKw k1 k2 (nm_ok c5).1 (star_cons (noS hS).1) ?_) fun t' H Q q => rd_callk h.wi rfl c8 c7 q)
        rw [star_any hS, k3]
        rfl
    · cases c2
  · cases c2
theorem g_mk {ci f : Nat} (hl : GoodL T G cf k CXT is) : Good T G cf k CXT (.mk ci f is) := by
  intro m L e X W h c
  simp only [chk, Bool.and_eq_true] at c
  obtain ⟨c1, c2⟩ := c
  split at c2
  · rename_i x p xs pos
    split at c2
    · rename_i t ht
      simp only [Bool.and_eq_true, decide_eq_true_eq] at c2
      obtain ⟨⟨⟨⟨⟨⟨c2, c3⟩, c4⟩, c5⟩, c6⟩, c7⟩, c8⟩ := c2
      obtain ⟨fa, fd, hF, hB, _, _, hM⟩ := h.env.fn f t ht
      obtain ⟨us, hU, hB⟩ := hB [] (.inl rfl)
      cases hU
      obtain ⟨ok, h1⟩ := h.env.cl ci x c4
      have M := (hM ci c2).2 c3
      obtain ⟨hA, hS⟩ := hl _ _ _ _ h c8
      cases xs with
      | nil =>
        cases is with
        | nil => exact mv_sem h c1 (C_mk0 ok M hF h.room h.hush (h.gl c5) h1 hB h.pass h.wi (by simpa using c7) (nm_ok c6).1)
        | cons i is => simp [chkL] at c8
      | cons y ys => exact mv_sem h c1 (C_mk ok M hF h.room h.hush (h.gl c5) h1 hB h.pass h.wi hA c7 (nm_ok c6).1 (star_cons (noS hS).1) (star_any (noS hS).2))
    · cases c2
  · cases c2
theorem g_mth {ci f : Nat} {ds : List Int} (ho : Good T G cf k CXT o) (hl : GoodL T G cf k CXT is) : Good T G cf k CXT (.mth ci f o is ds) := by
  intro m L e X W h c
  simp only [chk, Bool.and_eq_true] at c
  obtain ⟨c1, c2⟩ := c
  split at c2
  · rename_i y nm apos xs pos
    split at c2
    · rename_i t ht
      simp only [Bool.and_eq_true, decide_eq_true_eq] at c2
      obtain ⟨⟨⟨⟨⟨⟨⟨⟨⟨c2, rfl⟩, hi⟩, c3⟩, c4⟩, c5⟩, c6⟩, c7⟩, c8⟩, c9⟩ := c2
      obtain ⟨fa, fd, hF, hB, _, _, hM⟩ := h.env.fn f t ht
      obtain ⟨us, hU, hB⟩ := hB ds (ds_ok c7)
      have ok := h.env.clm f t ci ht c2
      obtain ⟨hA, hS⟩ := hl _ _ _ _ h c9
      have hO := ho .E L _ X W h c8
      have hr : Room k X.A := h.room.mono (Nat.le_succ k)
      have me := (hM ci c2).1 hi
      have eq := meth_eq (env := X.env) (m := t.nm) c3 c4 hS c5
      cases xs with
      | nil =>
        cases is with
        | nil => exact mv_sem h c1 (C_mth0 hO (h.env.cok ci ok) me (fun g => h.env.fm g f t ci ht c2) hF hr h.hush hB hU h.pass h.wi (by simpa using c6) eq)
        | cons i is => simp [chkL] at c9
      | cons y ys => exact mv_sem h c1 (C_mth hO (h.env.cok ci ok) me (fun g => h.env.fm g f t ci ht c2) hF hr h.hush hB hU h.pass h.wi hA c6 (star_cons (noS hS).1) (star_any (noS hS).2) eq)
    · cases c2
  · cases c2
end
end IP
namespace IP
open PySem PySem.Spec PyProof.Rows L2

section
variable {T : Tab} {G : GC} {cf : CallF} {k : Nat} {CXT : CXT} {W : WX} {L : LC} {X : Cx} {e : Expr} {es : List Expr} {ie a b c o : IE} {is ks : List IE} {m : Mode} {x : Str}
theorem XOk.units (h : XOk T G cf k CXT W L X) : X.A.units + 200 < cLine := by
  have := h.room.un
  omega
theorem bf_new {b : BF} {n : Str} (hb : bfF b = some n) : ∀ p d, bfP b [p] = some d → ∃ ps, d = .list ps := by
  intro p d h
  cases b <;> first | (cases hb; done) | skip
  · cases p <;> first | (cases h; done) | (cases h; exact ⟨_, rfl⟩)
  · cases p <;> first | (cases h; done) | skip
    simp only [bfP, Option.bind_eq_some_iff] at h
    obtain ⟨rs, _, h⟩ := h
    split at h
    · cases h; exact ⟨_, rfl⟩
    · cases h
theorem bf_plain {b : BF} {n : Str} (h : XOk T G cf k CXT W L X) (hb : bfN b = some n) : (∃ id, bootBuiltins n = some (.builtin id) ∧ CallR X (.builtin id) (rB G b)) ∨ ∃ Ty, bootBuiltins n = some (.type Ty) ∧ CallR X (.type Ty) (rB G b) := by
  cases b <;> first | (cases hb; done) | (cases hb)
  · exact .inl ⟨_, rfl, b_len h.gk⟩
  · exact .inl ⟨_, rfl, b_abs⟩
  · exact .inl ⟨_, rfl, b_min2 h.calm⟩
  · exact .inl ⟨_, rfl, b_max2 h.calm⟩
  · exact .inr ⟨_, rfl, b_int⟩
  · exact .inr ⟨_, rfl, b_str⟩
  · exact .inl ⟨_, rfl, b_repr h.env.sys h.gk h.hush h.units⟩
  · exact .inr ⟨_, rfl, b_tuple h.gk⟩
  · exact .inl ⟨_, rfl, b_all h.calm⟩
  · exact .inl ⟨_, rfl, b_any h.calm⟩
  · exact .inl ⟨_, rfl, b_sum h.calm⟩
  · exact .inl ⟨_, rfl, b_min h.gk h.units h.calm⟩
theorem bf_list {b : BF} {n : Str} (h : XOk T G cf k CXT W L X) (hb : bfF b = some n) : (∃ id, bootBuiltins n = some (.builtin id) ∧ CallR X (.builtin id) (rN G b)) ∨ ∃ Ty, bootBuiltins n = some (.type Ty) ∧ CallR X (.type Ty) (rN G b) := by
  cases b <;> first | (cases hb; done) | (cases hb)
  · exact .inr ⟨_, rfl, b_list h.gk⟩
  · exact .inl ⟨_, rfl, b_sorted h.gk h.units⟩
theorem bfN_nm {b : BF} {n : Str} (hb : bfN b = some n) : n ≠ "__name__" ∧ (n == ("__debug__" : Str)) = false := by
  cases b <;> first | (cases hb; done) | (cases hb; exact ⟨by decide, by decide⟩)
theorem bfF_nm {b : BF} {n : Str} (hb : bfF b = some n) : n ≠ "__name__" ∧ (n == ("__debug__" : Str)) = false := by
  cases b <;> first | (cases hb; done) | (cases hb; exact ⟨by decide, by decide⟩)
theorem tk_boot (t : TK) : bootBuiltins (tkS t) = some (.type (tkN t)) ∧ tkS t ≠ "__name__" ∧ (tkS t == ("__debug__" : Str)) = false := by
  cases t <;> exact ⟨rfl, by decide, by decide⟩
theorem one_le {y : Expr} (h : XOk T G cf k CXT W L X) (hl : GoodL T G cf k CXT is) (c : chkL T is L [y] = true) : PA X [y] (rdL G W cf is) ∧ noStar y = true := by
  obtain ⟨h1, h2⟩ := hl _ _ _ _ h c
  exact ⟨h1, (noS h2).1⟩
theorem g_bf {b : BF} (hl : GoodL T G cf k CXT is) (hl1 : ∀ i, i ∈ is → Good T G cf k CXT i) : Good T G cf k CXT (.bf b is) := by
  intro m L e X W h c
  simp only [chk] at c
  split at c
  · rename_i b t
    simp only [Bool.and_eq_true] at c
    obtain ⟨c1, c2⟩ := c
    split at c2
    · rename_i x p y z p2 pos
      simp only [Bool.and_eq_true, decide_eq_true_eq] at c2
      obtain ⟨⟨⟨⟨⟨rfl, c3⟩, rfl⟩, c5⟩, c6⟩, c7⟩ := c2
      obtain ⟨g1, g2⟩ := h.gn c3
      obtain ⟨g3, g4⟩ := h.gn c5
      obtain ⟨t1, t2, t3⟩ := tk_boot t
      match is, hl1, c7 with
      | [], _, c7 => simp [chkL] at c7
      | i :: j :: is, _, c7 => simp [chkL] at c7
      | [i], hl1, c7 =>
        simp only [chkL, Bool.and_eq_true] at c7
        have A := hl1 i List.mem_cons_self .E L y X W h c7.1.2
        exact mv_sem h c1 (E_isi h.gk g1 g2 g3 g4 t1 t2 t3 A (star_cons c6) (star_cons rfl) rfl)
    · cases c2
  · split at c
    · rename_i n hn
      simp only [Bool.and_eq_true] at c
      obtain ⟨c1, c2⟩ := c
      split at c2
      · rename_i x p y pos
        simp only [Bool.and_eq_true, decide_eq_true_eq] at c2
        obtain ⟨⟨⟨rfl, c3⟩, c4⟩, c5⟩ := c2
        obtain ⟨g1, g2⟩ := h.gn c3
        obtain ⟨n1, n2⟩ := bfF_nm hn
        have A := (one_le h hl c5).1
        match is, A, c5 with
        | [], _, c5 => simp [chkL] at c5
        | i :: j :: is, _, c5 => simp [chkL] at c5
        | [i], A, _ =>
          rcases bf_list h hn with ⟨id, q1, q2⟩ | ⟨Ty, q1, q2⟩
          · exact mF_sem h c1 (F_bf (bf_new hn) q2 g1 g2 q1 A n1 n2 (star_cons c4) rfl)
          · exact mF_sem h c1 (F_bfT (bf_new hn) q2 g1 g2 q1 A n1 n2 (star_cons c4) rfl)
      · cases c2
    · split at c
      · rename_i n hn
        simp only [Bool.and_eq_true] at c
        obtain ⟨c1, c2⟩ := c
        split at c2
        · rename_i x p y ys pos
          simp only [Bool.and_eq_true, decide_eq_true_eq] at c2
          obtain ⟨⟨rfl, c3⟩, c5⟩ := c2
          obtain ⟨g1, g2⟩ := h.gn c3
          obtain ⟨n1, n2⟩ := bfN_nm hn
          obtain ⟨A, hS⟩ := hl _ _ _ _ h c5
          rcases bf_plain h hn with ⟨id, q1, q2⟩ | ⟨Ty, q1, q2⟩
          · exact mv_sem h c1 (E_bf q2 g1 g2 q1 A n1 n2 (star_cons (noS hS).1) (star_any (noS hS).2))
          · exact mv_sem h c1 (E_bfT q2 g1 g2 q1 A n1 n2 (star_cons (noS hS).1) (star_any (noS hS).2))
        · cases c2
      · cases c
/-! comprehensions -/
mutual
theorem chkP_ok (h : XOk T G cf k CXT W L X) : ∀ {p : Pt} {tg : Expr}, chkP L p tg = true → PG X tg (gOf X.K p)
  | .nm i, tg, c => by
    simp only [chkP] at c
    split at c
    · simp only [Bool.and_eq_true, decide_eq_true_eq] at c
      obtain ⟨h1, h2⟩ := h.loc c.2
      exact pg_name (by rw [h.N]; exact h.nd) (h.at_ c.1) h1 h2
    · cases c
  | .tp ps, tg, c => by
    simp only [chkP] at c
    split at c
    · rename_i es kk pos
      simp only [Bool.and_eq_true] at c
      obtain ⟨h1, h2⟩ := chkPs_ok h c.2 c.1
      exact pg_tup h.calm h1 (asg_len.trans h2) (asg_idx c.1)
    · cases c
theorem chkPs_ok (h : XOk T G cf k CXT W L X) : ∀ {ps : List Pt} {es : List Expr}, (chkPs L ps es = true) → noStars es = true → PGs X es (gsOf X.K ps) ∧ es.length = ps.length
  | [], es, c, _ => by
    simp only [chkPs] at c
    split at c
    · exact ⟨pgs_nil, rfl⟩
    · cases c
  | p :: ps, es, c, n => by
    simp only [chkPs] at c
    split at c
    · rename_i e es
      simp only [Bool.and_eq_true] at c
      obtain ⟨h1, h2⟩ := chkPs_ok h c.2 (noS n).2
      exact ⟨pgs_cons (chkP_ok h c.1) h1 (asg_cons (noS n).1), by rw [List.length_cons, List.length_cons, h2]⟩
    · cases c
end
theorem owns_map (L : LC) (own : List Nat) : (owns L own).map (·.2) = own := by
  unfold owns
  rw [List.map_map]
  exact List.map_id own
/-- within a comprehension's block -/
theorem XOk.inn {scope : Scope} (h : XOk T G cf k CXT W L X) (hk : scope.kind = .function) (s : Shared) (H : Hp) (C : Addr) (cl : List (Str × Addr)) (fp : List Addr) : XOk T G cf k CXT W0 (L.in scope) (X.blk s H scope (compEnvC scope cl C X.env) fp) where
  env := h.env
  N := h.N
  nd := h.nd
  sc := by
    show relabel scope X.env = relS scope L.sc
    rw [← h.sc]
    rfl
  kind := hk
  room := h.room
  hush := h.hush
  calm := h.calm
  fn := fun x z => z
  pass := h.env.p0 _ rfl rfl
  wi := fun _ _ _ _ _ z => z
/-- all the parts of a comprehension -/
structure CompOk (T : Tab) (G : GC) (cf : CallF) (W : WX) (X : Cx) (elt it : IE) (pt : Pt) (ifs : List IE) (own : List Nat) (N : List (Str × Nat)) (el tg iter : Expr) (cs : List Expr) (scope : Scope) : Prop where
  o : N.map (·.2) = own
  hi : PI X tg iter (rdI G W cf it)
  ok : BlkOk X.N X.env.scope scope N
  hg : ∀ (s : Shared) (H : Hp) (C : Addr) (cl : List (Str × Addr)) (fp : List Addr), PG (X.blk s H scope (compEnvC scope cl C X.env) fp) tg (gOf X.K pt)
  ht : ∀ (s : Shared) (H : Hp) (C : Addr) (cl : List (Str × Addr)) (fp : List Addr), PTs (X.blk s H scope (compEnvC scope cl C X.env) fp) cs (rdTs G W0 cf ifs)
  he : ∀ (s : Shared) (H : Hp) (C : Addr) (cl : List (Str × Addr)) (fp : List Addr), PE (X.blk s H scope (compEnvC scope cl C X.env) fp) el (rdE G W0 cf elt)
  hs : ∀ x, foldedSetIterable iter X.env x = pure x
  sl : ∀ i, i ∈ slots pt → i ∈ N.map (·.2)
theorem comp_ok {elt it : IE} {pt : Pt} {ifs : List IE} {own : List Nat} {el tg iter : Expr} {cs : List Expr} {scope : Scope} {pos : Pos} (hit : Good T G cf k CXT it) (hif : GoodC T G cf k CXT ifs) (hel : Good T G cf k CXT elt) (h : XOk T G cf k CXT W L X)
    (c : chk T (.comp elt pt it ifs own) .F L (.ListComp el [⟨tg, iter, cs, 0⟩] scope pos) = true) : CompOk T G cf W X elt it pt ifs own (owns L own) el tg iter cs scope := by
  simp only [chk, Bool.and_eq_true, mF] at c
  obtain ⟨_, ⟨⟨⟨⟨⟨c1, c2⟩, c3⟩, c4⟩, c5⟩, c6⟩, c7⟩ := c
  have B := blkOk_by c3
  refine ⟨owns_map L own, hit _ L _ X W h c1 tg rfl, ?_, fun s H C cl fp => chkP_ok (h.inn B.kind s H C cl fp) c4, fun s H C cl fp => hif _ _ _ (h.inn B.kind s H C cl fp) c5, fun s H C cl fp => hel .E _ _ _ _ (h.inn B.kind s H C cl fp) c6, set_iter c2, fun i hi => ?_⟩
  · rw [h.N, h.sc]
    exact B
  · rw [owns_map]
    have := List.all_eq_true.mp c7 i hi
    simpa using this
theorem g_comp {elt it : IE} {pt : Pt} {ifs : List IE} {own : List Nat} (hit : Good T G cf k CXT it) (hif : GoodC T G cf k CXT ifs) (hel : Good T G cf k CXT elt) : Good T G cf k CXT (.comp elt pt it ifs own) := by
  intro m L e X W h c
  have c' := c
  simp only [chk, Bool.and_eq_true] at c
  obtain ⟨c1, c2⟩ := c
  split at c2
  · rename_i el tg iter cs scope pos
    have O := comp_ok (pos := pos) hit hif hel h (by simp only [chk, Bool.and_eq_true]; exact ⟨rfl, by simpa only [Bool.and_eq_true] using c2⟩)
    refine mF_sem h c1 ?_
    have := F_comp (pos := pos) h.gk h.calm (by rw [h.N]; exact h.nd) O.hi O.ok O.hg O.ht O.he O.hs O.sl
    rw [O.o] at this
    exact this
  · cases c2
/-! the others -/
theorem g_idx (ha : Good T G cf k CXT a) (hb : Good T G cf k CXT b) : Good T G cf k CXT (.idx a b) := by
  intro m L e X W h c
  simp only [chk, Bool.and_eq_true] at c
  obtain ⟨c1, c2⟩ := c
  split at c2
  · simp only [Bool.and_eq_true] at c2
    obtain ⟨c2, c3, c4⟩ := c2
    exact mv_sem h c1 (E_idx (ix_plain c2) h.gk (ha .E L _ X W h c3) (hb .E L _ X W h c4))
  · cases c2
theorem non_is {i : IE} (h : isNon i = true) : i = .non := by
  cases i <;> first | rfl | cases h
theorem g_sli (ha : Good T G cf k CXT a) (hb : Good T G cf k CXT b) (hc : Good T G cf k CXT c) : Good T G cf k CXT (.sli a b c) := by
  intro m L e X W h c
  simp only [chk, Bool.and_eq_true] at c
  obtain ⟨c1, c2⟩ := c
  split at c2
  · simp only [Bool.and_eq_true] at c2
    obtain ⟨⟨c2, c3⟩, c4⟩ := c2
    refine mv_sem h c1 (E_sli h.gk (ha .E L _ X W h c2) ?_ ?_)
    · split at c3
      · rw [non_is c3]; exact PO_none
      · simp only [Bool.and_eq_true, Bool.not_eq_true'] at c3
        exact PO_some c3.1 (hb .E L _ X W h c3.2)
    · split at c4
      · rw [non_is c4]; exact PO_none
      · simp only [Bool.and_eq_true, Bool.not_eq_true'] at c4
        exact PO_some c4.1 (hc .E L _ X W h c4.2)
  · cases c2
theorem g_rev (ha : Good T G cf k CXT a) : Good T G cf k CXT (.rev a) := by
  intro m L e X W h c
  simp only [chk, Bool.and_eq_true] at c
  obtain ⟨c1, c2⟩ := c
  split at c2
  · exact mv_sem h c1 (E_rev h.gk (ha .E L _ X W h c2))
  · cases c2
theorem g_fld {f : Nat} (ho : Good T G cf k CXT o) : Good T G cf k CXT (.fld o f) := by
  intro m L e X W h c
  simp only [chk, Bool.and_eq_true] at c
  obtain ⟨c1, c2⟩ := c
  split at c2
  · simp only [Bool.and_eq_true, decide_eq_true_eq] at c2
    obtain ⟨⟨c2, c3⟩, c4⟩ := c2
    obtain ⟨h1, h2⟩ := h.env.fl _ _ c3
    exact mv_sem h c1 (E_fld h1 h.env.fi h.env.cok h2 (ho .E L _ X W h c4) (base_at c2))
  · cases c2
theorem g_rg1 (ha : Good T G cf k CXT a) : Good T G cf k CXT (.rg1 a) := by
  intro m L e X W h c
  simp only [chk] at c
  split at c
  · split at c
    · simp only [Bool.and_eq_true, decide_eq_true_eq] at c
      obtain ⟨⟨⟨rfl, c2⟩, c3⟩, c4⟩ := c
      obtain ⟨g1, g2⟩ := h.gn c2
      exact fun tg _ => I_rg1 g1 g2 (ha .E L _ X W h c4) (star_cons c3)
    · cases c
  · cases c
theorem g_rg2 (ha : Good T G cf k CXT a) (hb : Good T G cf k CXT b) : Good T G cf k CXT (.rg2 a b) := by
  intro m L e X W h c
  simp only [chk] at c
  split at c
  · split at c
    · simp only [Bool.and_eq_true, decide_eq_true_eq] at c
      obtain ⟨⟨⟨⟨⟨rfl, c2⟩, c3⟩, c4⟩, c5⟩, c6⟩ := c
      obtain ⟨g1, g2⟩ := h.gn c2
      exact fun tg _ => I_rg2 g1 g2 (ha .E L _ X W h c5) (hb .E L _ X W h c6) (star_cons c3) (star_cons c4)
    · cases c
  · cases c
theorem g_zip (ha : Good T G cf k CXT a) (hb : Good T G cf k CXT b) : Good T G cf k CXT (.zip a b) := by
  intro m L e X W h c
  simp only [chk] at c
  split at c
  · split at c
    · simp only [Bool.and_eq_true, decide_eq_true_eq] at c
      obtain ⟨⟨⟨⟨⟨rfl, c2⟩, c3⟩, c4⟩, c5⟩, c6⟩ := c
      obtain ⟨g1, g2⟩ := h.gn c2
      intro tg ht
      cases tg <;> first | (cases ht; done) | exact I_zip h.gk g1 g2 (ha .E L _ X W h c5) (hb .E L _ X W h c6) (star_cons c3) (star_cons c4)
    · cases c
  · cases c
theorem g_enu (ha : Good T G cf k CXT a) : Good T G cf k CXT (.enu a) := by
  intro m L e X W h c
  simp only [chk] at c
  split at c
  · split at c
    · simp only [Bool.and_eq_true, decide_eq_true_eq] at c
      obtain ⟨⟨⟨rfl, c2⟩, c3⟩, c4⟩ := c
      obtain ⟨g1, g2⟩ := h.gn c2
      intro tg ht
      cases tg <;> first | (cases ht; done) | exact I_enu h.gk g1 g2 (ha .E L _ X W h c4) (star_cons c3)
    · cases c
  · cases c
theorem g_pop {i : Nat} (ha : Good T G cf k CXT a) : Good T G cf k CXT (.pop i a) := by
  intro m L e X W h c
  simp only [chk, Bool.and_eq_true] at c
  obtain ⟨c1, c2⟩ := c
  split at c2
  · simp only [Bool.and_eq_true, decide_eq_true_eq] at c2
    obtain ⟨⟨⟨⟨⟨⟨rfl, c2⟩, c3⟩, c4⟩, c5⟩, c6⟩, c7⟩ := c2
    refine mE_sem c1 (E_pop (h.at_ c2) (ha .E L _ X W h c7) fun {te} hv => ?_)
    refine pe_bm PySem.F.plainAttrs_list PySem.F.slot_list_pop PySem.F.type_list_pop mt_popAt (pe_var (h.at_ c2) (h.vis c3) (nm_ok c4).1 (nm_ok c4).2) (pa_cons hv pa_nil (star_cons c6)) rfl ?_ c5 (star_cons c6) rfl
    rw [star_cons c6]
    rfl
  · cases c2
theorem g_rvd (ha : Good T G cf k CXT a) : Good T G cf k CXT (.rvd a) := by
  intro m L e X W h c
  simp only [chk] at c
  split at c
  · split at c
    · simp only [Bool.and_eq_true, decide_eq_true_eq] at c
      obtain ⟨⟨⟨rfl, c2⟩, c3⟩, c4⟩ := c
      obtain ⟨g1, g2⟩ := h.gn c2
      exact fun tg _ => I_rvd h.gk g1 g2 (ha .E L _ X W h c4) (star_cons c3)
    · cases c
  · cases c
theorem g_lr1 {t : Bool} (ha : Good T G cf k CXT a) : Good T G cf k CXT (.lr1 t a) := by
  intro m L e X W h c
  simp only [chk, Bool.and_eq_true] at c
  obtain ⟨c1, c2⟩ := c
  split at c2
  · simp only [Bool.and_eq_true, decide_eq_true_eq] at c2
    obtain ⟨⟨⟨⟨⟨rfl, rfl⟩, c3⟩, c4⟩, c5⟩, c6⟩ := c2
    obtain ⟨g1, g2⟩ := h.gn c3
    obtain ⟨g3, g4⟩ := h.gn c4
    cases t with
    | true => exact mv_sem h c1 (E_lr1 h.calm g1 g2 g3 g4 (ha .E L _ X W h c6) (star_cons c5))
    | false => exact mF_sem h c1 (F_lr1 h.calm g1 g2 g3 g4 (ha .E L _ X W h c6) (star_cons c5))
  · cases c2
theorem g_lr2 {t : Bool} (ha : Good T G cf k CXT a) (hb : Good T G cf k CXT b) : Good T G cf k CXT (.lr2 t a b) := by
  intro m L e X W h c
  simp only [chk, Bool.and_eq_true] at c
  obtain ⟨c1, c2⟩ := c
  split at c2
  · simp only [Bool.and_eq_true, decide_eq_true_eq] at c2
    obtain ⟨⟨⟨⟨⟨⟨⟨rfl, rfl⟩, c3⟩, c4⟩, c5⟩, c6⟩, c7⟩, c8⟩ := c2
    obtain ⟨g1, g2⟩ := h.gn c3
    obtain ⟨g3, g4⟩ := h.gn c4
    cases t with
    | true => exact mv_sem h c1 (E_lr2 h.calm g1 g2 g3 g4 (ha .E L _ X W h c7) (hb .E L _ X W h c8) (star_cons c5) (star_cons c6))
    | false => exact mF_sem h c1 (F_lr2 h.calm g1 g2 g3 g4 (ha .E L _ X W h c7) (hb .E L _ X W h c8) (star_cons c5) (star_cons c6))
  · cases c2
theorem g_cat (ha : Good T G cf k CXT a) (hb : Good T G cf k CXT b) : Good T G cf k CXT (.cat a b) := by
  intro m L e X W h c
  simp only [chk, Bool.and_eq_true] at c
  obtain ⟨c1, c2⟩ := c
  split at c2
  · simp only [Bool.and_eq_true] at c2
    exact mF_sem h c1 (F_cat (ha .E L _ X W h c2.1) (hb .E L _ X W h c2.2))
  · cases c2
theorem g_lset (ha : Good T G cf k CXT a) : Good T G cf k CXT (.lset a) := by
  intro m L e X W h c
  simp only [chk, Bool.and_eq_true] at c
  obtain ⟨c1, c2⟩ := c
  split at c2
  · simp only [Bool.and_eq_true, decide_eq_true_eq] at c2
    obtain ⟨⟨⟨⟨⟨rfl, rfl⟩, c3⟩, c4⟩, c5⟩, c6⟩ := c2
    obtain ⟨g1, g2⟩ := h.gn c3
    obtain ⟨g3, g4⟩ := h.gn c4
    exact mv_sem h c1 (E_lset h.gk h.calm g1 g2 g3 g4 (ha .E L _ X W h c6) (star_cons c5))
  · cases c2
theorem g_dic0 : Good T G cf k CXT .dic0 := by
  intro m L e X W h c
  simp only [chk, Bool.and_eq_true] at c
  obtain ⟨c1, c2⟩ := c
  split at c2
  · exact mv_sem h c1 E_dic0
  · cases c2
theorem g_dic1 {p : PyData} (ha : Good T G cf k CXT a) : Good T G cf k CXT (.dic1 p a) := by
  intro m L e X W h c
  simp only [chk, Bool.and_eq_true] at c
  obtain ⟨c1, c2⟩ := c
  split at c2
  · simp only [Bool.and_eq_true] at c2
    obtain ⟨⟨c3, c4⟩, c5⟩ := c2
    split at c3
    · rename_i i j
      rw [decide_eq_true_eq] at c3
      subst c3
      exact mv_sem h c1 (E_dic1 (k := .inl _) pe_int (ha .E L _ X W h c5))
    · rw [decide_eq_true_eq] at c3
      subst c3
      exact mv_sem h c1 (E_dic1 (k := .inr _) pe_str (ha .E L _ X W h c5))
    · cases c3
  · cases c2
theorem g_no (hc : ∀ m L e, chk T ie m L e = false) : Good T G cf k CXT ie := fun m L e X W h c => by
  rw [hc] at c
  cases c
theorem l_nil : GoodL T G cf k CXT [] := by
  intro L es X W h c
  simp only [chkL] at c
  split at c
  · exact ⟨L_nil, rfl⟩
  · cases c
theorem l_cons (ha : Good T G cf k CXT a) (hl : GoodL T G cf k CXT is) : GoodL T G cf k CXT (a :: is) := by
  intro L es X W h c
  simp only [chkL] at c
  split at c
  · simp only [Bool.and_eq_true] at c
    obtain ⟨⟨c1, c2⟩, c3⟩ := c
    obtain ⟨h1, h2⟩ := hl _ _ _ _ h c3
    exact ⟨L_cons (ha .E L _ X W h c2) h1 (star_cons c1), by simp only [noStars, c1, h2]; rfl⟩
  · cases c
theorem k_nil : GoodK T G cf k CXT [] := by
  intro L es X W h c
  simp only [chkK] at c
  split at c
  · exact K_nil
  · cases c
theorem k_cons (ha : Good T G cf k CXT a) (hl : GoodK T G cf k CXT is) : GoodK T G cf k CXT (a :: is) := by
  intro L es X W h c
  simp only [chkK] at c
  split at c
  · rename_i kw es
    simp only [Bool.and_eq_true] at c
    obtain ⟨c1, c2⟩ := c
    obtain ⟨n, v, p⟩ := kw
    exact K_cons (ha .E L _ X W h c1) (hl _ _ _ _ h c2)
  · cases c
theorem c_nil : GoodC T G cf k CXT [] := by
  intro L es X h c
  simp only [chkC] at c
  split at c
  · exact T_nil
  · cases c
theorem c_cons (ha : Good T G cf k CXT a) : GoodC T G cf k CXT (a :: is) := by
  intro L es X h c
  simp only [chkC] at c
  split at c
  · simp only [Bool.and_eq_true, List.isEmpty_iff] at c
    obtain ⟨c1, rfl⟩ := c
    exact T_one (ha .T L _ X W0 h c1)
  · cases c
variable (T G cf k CXT)
mutual
theorem good : ∀ ie : IE, Good T G cf k CXT ie
  | .bad => g_bad
  | .var i => g_var
  | .frz i => g_frz
  | .cst p => g_cst
  | .non => g_no fun m L e => by simp only [chk]
  | .gcs g p => g_gcs
  | .tup is => g_tup (goodL is)
  | .lst is => g_lst (goodL is)
  | .new i => g_new (good i)
  | .ndc => g_no fun m L e => by simp only [chk]
  | .bin op a b => g_bin (good a) (good b)
  | .neg a => g_neg (good a)
  | .not a => g_not (good a)
  | .cmp op a b => g_cmp (good a) (good b)
  | .chn op op' a b c => g_chn (good a) (good b) (good c)
  | .isc n a p => g_isc (good a)
  | .and a b => g_and (good a) (good b)
  | .or a b => g_or (good a) (good b)
  | .ite c a b => g_ite (good c) (good a) (good b)
  | .call f is ds => g_call (goodL is)
  | .callk f is ks perm => g_callk (goodL is) (goodK ks)
  | .mk c f is => g_mk (goodL is)
  | .mth c f o is ds => g_mth (good o) (goodL is)
  | .bf b is => g_bf (goodL is) (goodM is)
  | .comp elt pt it ifs own => g_comp (good it) (goodC ifs) (good elt)
  | .idx a i => g_idx (good a) (good i)
  | .sli a lo hi => g_sli (good a) (good lo) (good hi)
  | .rev a => g_rev (good a)
  | .fld o f => g_fld (good o)
  | .rg1 a => g_rg1 (good a)
  | .rg2 a b => g_rg2 (good a) (good b)
  | .zip a b => g_zip (good a) (good b)
  | .enu a => g_enu (good a)
  | .rvd a => g_rvd (good a)
  | .pop i a => g_pop (good a)
  | .lr1 t a => g_lr1 (good a)
  | .lr2 t a b => g_lr2 (good a) (good b)
  | .cat a b => g_cat (good a) (good b)
  | .lset a => g_lset (good a)
  | .dic0 => g_dic0
  | .dic1 k a => g_dic1 (good a)
theorem goodL : ∀ is : List IE, GoodL T G cf k CXT is
  | [] => l_nil
  | i :: is => l_cons (good i) (goodL is)
theorem goodK : ∀ is : List IE, GoodK T G cf k CXT is
  | [] => k_nil
  | i :: is => k_cons (good i) (goodK is)
theorem goodC : ∀ is : List IE, GoodC T G cf k CXT is
  | [] => c_nil
  | i :: is => c_cons (good i)
theorem goodM : ∀ is : List IE, ∀ i, i ∈ is → Good T G cf k CXT i
  | [], i, h => nomatch h
  | j :: is, i, h => by
    rcases List.mem_cons.mp h with e | h
    · rw [e]; exact good j
    · exact goodM is i h
end
end
end IP
namespace IP
open PySem PySem.Spec PyProof.Rows L2

/-! ### the checker for statements -/
def isVr : IE → Bool
  | .var _ => true
  | .cst _ => true
  | _ => false
mutual
def exOk : Tg → Bool
  | .nm _ => true
  | .fld o _ => isVr o
  | .sub o i => isVr o && isVr i
  | .tp ts => exOks ts
def exOks : List Tg → Bool
  | [] => true
  | t :: ts => exOk t && exOks ts
end
mutual
def chkG (T : Tab) (L : LC) : Tg → Expr → Bool
  | .nm i, e => match e with
    | .Name x _ => decide (L.N[i]? = some x) && locB L x
    | _ => false
  | .fld o f, e => match e with
    | .Attribute ox nm _ => decide (T.flds[f]? = some nm) && chk T o .E L ox
    | _ => false
  | .sub o i, e => match e with
    | .Subscript ox ix _ => noSlice ix && (chk T o .E L ox && chk T i .E L ix)
    | _ => false
  | .tp ts, e => match e with
    | .Tuple es _ _ => noStars es && exOks ts && chkGs T L ts es
    | _ => false
def chkGs (T : Tab) (L : LC) : List Tg → List Expr → Bool
  | [], es => match es with
    | [] => true
    | _ => false
  | t :: ts, es => match es with
    | e :: es => chkG T L t e && chkGs T L ts es
    | _ => false
end
def noName : Expr → Bool
  | .Name .. => false
  | _ => true
def isLoc (L : LC) (x : Str) : Bool := match L.sc.names.lookup x with
  | some .local => true
  | _ => false
def chkPar (T : Tab) (L : LC) (ts : List Tg) (es : List IE) (txs vs : List Expr) : Bool := match ts, txs, vs with
  | [.nm i, .nm j], [.Name x p1, .Name y p2], [a, b] => decide (L.N[i]? = some x) && decide (L.N[j]? = some y) && decide (i ≠ j) && isLoc L x && isLoc L y && chkL T es L [a, b] && decide (swS [.Name x p1, .Name y p2] [a, b] L.sc = some (some [x, y]))
  | [.nm i, .nm j, .nm l], [.Name x p1, .Name y p2, .Name z p3], [a, b, c] => decide (L.N[i]? = some x) && decide (L.N[j]? = some y) && decide (L.N[l]? = some z) && decide (i ≠ j) && decide (i ≠ l) && decide (j ≠ l) && isLoc L x && isLoc L y && isLoc L z && chkL T es L [a, b, c] && decide (swS [.Name x p1, .Name y p2, .Name z p3] [a, b, c] L.sc = some (some [x, y, z]))
  | _, _, _ => false
def chkAsg (T : Tab) (L : LC) (t : Tg) (e : IE) (tg v : Expr) : Bool := match v with
  | .ListComp el gs scope vpos => match tg with
    | .Name y py => if swC y py vpos scope L.sc = true then (match t, gs, e with
        | .nm i, [⟨tg', iter, cs, 0⟩], .comp elt pt it ifs own => decide (L.N[i]? = some y) && chk T (.comp elt pt it ifs own) .F L (.ListComp el [⟨tg', iter, cs, 0⟩] scope vpos)
        | .nm i, [⟨tg', iter, cs, 0⟩], .new (.comp elt pt it ifs own) => decide (L.N[i]? = some y) && chk T (.comp elt pt it ifs own) .F L (.ListComp el [⟨tg', iter, cs, 0⟩] scope vpos)
        | _, _, _ => false)
      else chk T e .E L v && chkG T L t tg
    | _ => noName tg && noStar tg && chk T e .E L v && chkG T L t tg
  | _ => noComp v && noStar tg && chk T e .E L v && chkG T L t tg && (noTup tg || noTup v || (match tg, v with
    | .Tuple ts _ _, .Tuple vs _ _ => decide (swS ts vs L.sc = some none)
    | _, _ => false))
mutual
def chkS (T : Tab) : IS → LC → Stmt → Bool
  | .bad, L, s => true
  | .nop, L, s => match s with
    | .Pass _ => true
    | .Expr (.Constant (.str _) _ _) _ => true
    | _ => false
  | .asg t e, L, s => match s with
    | .Assign [tg] v _ => chkAsg T L t e tg v
    | _ => false
  | .par ts es, L, s => match s with
    | .Assign [.Tuple txs _ _] (.Tuple vs _ _) _ => chkPar T L ts es txs vs || (decide (swS txs vs L.sc = some none) && noStars txs && exOks ts && decide (es.length ≤ 1000) && chkGs T L ts txs && chkL T es L vs)
    | _ => false
  | .exp e, L, s => match s with
    | .Expr v _ => noComp v && chk T e .E L v
    | _ => false
  | .app i e, L, s => match s with
    | .Expr (.Call (.Attribute (.Name x _) a apos) [v] [] cpos) _ => decide (a = "append") && decide (L.N[i]? = some x) && visB L.sc x && nmOk x && (apos.endLine == cpos.line) && noStar v && chk T e .E L v
    | _ => false
  | .ext i e, L, s => match s with
    | .Expr (.Call (.Attribute (.Name x _) a apos) [v] [] cpos) _ => decide (a = "extend") && decide (L.N[i]? = some x) && visB L.sc x && nmOk x && (apos.endLine == cpos.line) && noStar v && chk T e .E L v
    | _ => false
  | .ite c a b, L, s => match s with
    | .If cx as bs _ => chk T c .T L cx && chkSs T a L as && chkSs T b L bs
    | _ => false
  | .for_ pt it body, L, s => match s with
    | .For tg iter bs [] _ => chk T it (.I (isTupE tg)) L iter && noSet iter && chkP L pt tg && chkSs T body L bs
    | _ => false
  | .whl c body, L, s => match s with
    | .While cx bs [] _ => chk T c .T L cx && chkSs T body L bs
    | _ => false
  | .ret e, L, s => match s with
    | .Return (some v) _ => chk T e .E L v
    | _ => false
  | .rtn, L, s => match s with
    | .Return none _ => true
    | _ => false
  | .rse c es, L, s => false
  | .tri b cs i h, L, s => false
def chkSs (T : Tab) : List IS → LC → List Stmt → Bool
  | [], L, ss => match ss with
    | [] => true
    | _ => false
  | i :: is, L, ss => match ss with
    | s :: ss => chkS T i L s && chkSs T is L ss
    | _ => false
end
section
variable {T : Tab} {G : GC} {cf : CallF} {k : Nat} {CXT : CXT} {W : WX} {M : Option Nat} {L : LC} {X : Cx} {e : Expr} {es : List Expr} {ie a b c o : IE} {is ks : List IE} {x : Str} {st : Stmt} {sts : List Stmt} {pos : Pos} {t : Tg} {ts : List Tg} {tg v : Expr}
theorem vr_nox {i : IE} (h : isVr i = true) (s : Env) (S : Store) (c : Nat) (fs : List PyData) (S' : Store) : evE cf i s S ≠ .exc c fs S' := by
  cases i <;> first | (cases h; done) | skip
  · simp only [evE]
    split <;> exact fun z => by cases z
  · simp only [evE]
    exact fun z => by cases z
mutual
theorem as_nox : ∀ {t : Tg}, exOk t = true → ∀ (v : Val) (s : Env) (S : Store) (c : Nat) (fs : List PyData) (S' : Store), asT cf t v s S ≠ .exc c fs S'
  | .nm i, _, v, s, S, c, fs, S', e => by
    simp only [asT] at e
    split at e <;> cases e
  | .fld o f, h, v, s, S, c, fs, S', e => by
    simp only [exOk] at h
    simp only [asT] at e
    cases q : evE cf o s S with
    | err => rw [q] at e; cases e
    | exc c fs S1 => exact vr_nox h _ _ _ _ _ q
    | ok x S1 =>
      rw [q, Out.bind_ok] at e
      split at e
      · split at e
        · split at e <;> cases e
        · cases e
      · cases e
  | .sub o i, h, v, s, S, c, fs, S', e => by
    simp only [exOk, Bool.and_eq_true] at h
    simp only [asT] at e
    cases q : evE cf o s S with
    | err => rw [q] at e; cases e
    | exc c fs S1 => exact vr_nox h.1 _ _ _ _ _ q
    | ok x S1 =>
      rw [q, Out.bind_ok] at e
      cases q2 : evE cf i s S1 with
      | err => rw [q2] at e; cases e
      | exc c fs S2 => exact vr_nox h.2 _ _ _ _ _ q2
      | ok y S2 =>
        rw [q2, Out.bind_ok] at e
        split at e
        · split at e
          · split at e <;> cases e
          · cases e
        · cases e
  | .tp ts, h, v, s, S, c, fs, S', e => by
    simp only [exOk] at h
    simp only [asT] at e
    split at e
    · exact ass_nox h _ _ _ _ _ _ e
    · cases e
theorem ass_nox : ∀ {ts : List Tg}, exOks ts = true → ∀ (v : List Val) (s : Env) (S : Store) (c : Nat) (fs : List PyData) (S' : Store), asTs cf ts v s S ≠ .exc c fs S'
  | [], _, v, s, S, c, fs, S', e => by
    cases v <;> (simp only [asTs] at e; cases e)
  | t :: ts, h, [], s, S, c, fs, S', e => by
    simp only [asTs] at e
    cases e
  | t :: ts, h, v :: vs, s, S, c, fs, S', e => by
    simp only [exOks, Bool.and_eq_true] at h
    simp only [asTs] at e
    cases q : asT cf t v s S with
    | err => rw [q] at e; cases e
    | exc c fs S1 => exact as_nox h.1 _ _ _ _ _ _ q
    | ok s1 S1 =>
      rw [q, Out.bind_ok] at e
      exact ass_nox h.2 _ _ _ _ _ _ e
end
theorem sub_eq {o a : Expr} {env : PySem.Env} (h : noSlice a = true) (v : Value) : assign (.Subscript o a pos) env v = (do
      let ov ← holding [v] (eval o env)
      let iv ← holding [v, ov] (eval a env)
      standAt pos
      holding [v, ov, iv] (setItem ov iv v)
      release [v, ov, iv] []) := by
  cases a <;> first | rfl | cases h
mutual
theorem chkG_ok (h : XOk T G cf k CXT W L X) : ∀ {t : Tg} {tg : Expr}, chkG T L t tg = true → PG X tg (rdG G W cf t)
  | .nm i, tg, c => by
    simp only [chkG] at c
    split at c
    · simp only [Bool.and_eq_true, decide_eq_true_eq] at c
      obtain ⟨h1, h2⟩ := h.loc c.2
      exact G_nm (by rw [h.N]; exact h.nd) (h.at_ c.1) h1 h2
    · cases c
  | .fld o f, tg, c => by
    simp only [chkG] at c
    split at c
    · simp only [Bool.and_eq_true, decide_eq_true_eq] at c
      obtain ⟨h1, h2⟩ := h.env.fl _ _ c.1
      exact G_fld h1 h.env.fi h.env.cok h2 (good T G cf k CXT o .E L _ X W h c.2)
    · cases c
  | .sub o i, tg, c => by
    simp only [chkG] at c
    split at c
    · simp only [Bool.and_eq_true] at c
      exact G_sub (good T G cf k CXT o .E L _ X W h c.2.1) (good T G cf k CXT i .E L _ X W h c.2.2) (sub_eq c.1)
    · cases c
  | .tp ts, tg, c => by
    simp only [chkG] at c
    split at c
    · rename_i es kk pos
      simp only [Bool.and_eq_true] at c
      obtain ⟨⟨c1, c2⟩, c3⟩ := c
      obtain ⟨h1, h2⟩ := chkGs_ok h c3 c1
      exact G_tp h.gk h.calm h1 h2 asg_len (asg_idx c1) fun xs s S c fs S' => ass_nox c2 _ _ _ _ _ _
    · cases c
theorem chkGs_ok (h : XOk T G cf k CXT W L X) : ∀ {ts : List Tg} {es : List Expr}, chkGs T L ts es = true → noStars es = true → PGs X es (rdGs G W cf ts) ∧ es.length = ts.length
  | [], es, c, _ => by
    simp only [chkGs] at c
    split at c
    · exact ⟨Gs_nil, rfl⟩
    · cases c
  | t :: ts, es, c, n => by
    simp only [chkGs] at c
    split at c
    · rename_i e es
      simp only [Bool.and_eq_true] at c
      obtain ⟨h1, h2⟩ := chkGs_ok h c.2 (noS n).2
      exact ⟨Gs_cons h.wi (chkG_ok h c.1) h1 (asg_cons (noS n).1), by rw [List.length_cons, List.length_cons, h2]⟩
    · cases c
end
theorem rdG_nm {j : Nat} {v : V} {t : L2.St} {H : Hp} {Q : L2.St → Hp → Prop} (q : rdG G W cf (.nm j) v t H Q) : gName j v t H Q := by
  obtain ⟨F, loc, s, S, y, hS, hE, r, p⟩ := q
  simp only [asT] at p
  split at p
  · exact p _ _ _ _ (.refl hS) (hE.set r)
  · exact False.elim p
theorem loc_is (h : XOk T G cf k CXT W L X) (g : isLoc L x = true) : X.env.scope.names.lookup x = some .local := by
  rw [h.sc]
  unfold isLoc at g
  split at g
  · assumption
  · cases g
theorem sw_noname {tg el : Expr} {gs : List Comprehension} {scope : Scope} {p : Pos} {l : Nat} {env : PySem.Env} (h : noName tg = true) : swapsWithSole [tg] (.ListComp el gs scope p) l env = pure false := by
  cases tg <;> first | rfl | cases h
theorem S_comp {i : Nat} {y : Str} {py spos vpos : Pos} {elt it : IE} {pt : Pt} {ifs : List IE} {own : List Nat} {el tg' iter : Expr} {cs : List Expr} {scope : Scope} (h : XOk T G cf k CXT W L X) (hi : L.N[i]? = some y) (sw : swC y py vpos scope L.sc = true)
    (c : chk T (.comp elt pt it ifs own) .F L (.ListComp el [⟨tg', iter, cs, 0⟩] scope vpos) = true) (hie : ∀ t H Q, rdE G W cf ie t H Q → rdF G W cf (.comp elt pt it ifs own) t H Q) :
    PS X (.Assign [.Name y py] (.ListComp el [⟨tg', iter, cs, 0⟩] scope vpos) spos) (rdS G W M cf (.asg (.nm i) ie)) := by
  have O := comp_ok (good T G cf k CXT it) (goodC T G cf k CXT ifs) (good T G cf k CXT elt) h c
  have hy : X.env.scope.names.lookup y = some .local := by
    rw [h.sc]
    simp only [swC, Bool.and_eq_true, beq_iff_eq] at sw
    exact sw.1.1
  have kd : X.env.scope.kind = .function := by rw [h.sc]; exact h.kind
  have hsw : swapsWith (.ListComp el [⟨tg', iter, cs, 0⟩] scope vpos) (some (.Name y py)) spos.line X.env = pure true := by
    have := swC_ok (elt := el) (gs := [⟨tg', iter, cs, 0⟩]) (scope := scope) (pos := vpos) (py := py) (y := y) (l := spos.line) kd
    rw [h.sc, sw] at this
    exact this
  refine S_asg (ps_setLc h.calm (by rw [h.N]; exact h.nd) (h.at_ hi) hy hsw O.hi O.ok O.hg O.ht O.he O.hs) (fun t H Q q => ?_) fun v t H Q q => rdG_nm q
  have := hie t H Q q
  rw [← O.o] at this
  exact comp_rd h.gk O.sl t H Q this
theorem S_asgG (h : XOk T G cf k CXT W L X) (he : PE X v (rdE G W cf ie)) (hg : PG X tg (rdG G W cf t)) (hs : swapsWithSole [tg] v pos.line X.env = pure false) (hw : swappedStores [tg] v X.env = pure none) (hn : noStar tg = true) : PS X (.Assign [tg] v pos) (rdS G W M cf (.asg t ie)) :=
  S_asg (ps_asg he hg hs hw (asg_one hn)) (fun _ _ _ q => q) fun _ _ _ _ q => q
theorem asg_ok (h : XOk T G cf k CXT W L X) (c : chkAsg T L t ie tg v = true) : PS X (.Assign [tg] v pos) (rdS G W M cf (.asg t ie)) := by
  have kd : X.env.scope.kind = .function := by rw [h.sc]; exact h.kind
  unfold chkAsg at c
  split at c
  · rename_i el gs scope vpos
    split at c
    · rename_i y py
      split at c
      · rename_i sw
        split at c
        · simp only [Bool.and_eq_true, decide_eq_true_eq] at c
          exact S_comp h c.1 sw c.2 fun t H Q q => rdE_F q
        · simp only [Bool.and_eq_true, decide_eq_true_eq] at c
          exact S_comp h c.1 sw c.2 fun t H Q q => rdN_F q
        · cases c
      · rename_i sw
        simp only [Bool.and_eq_true] at c
        have := swC_ok (elt := el) (gs := gs) (scope := scope) (pos := vpos) (py := py) (y := y) (l := pos.line) kd
        rw [h.sc, Bool.not_eq_true _ |>.mp sw] at this
        exact S_asgG h (good T G cf k CXT ie .E L _ X W h c.1) (chkG_ok h c.2) this (st_none (.inl rfl)) rfl
    · simp only [Bool.and_eq_true] at c
      obtain ⟨⟨⟨c1, c2⟩, c3⟩, c4⟩ := c
      exact S_asgG h (good T G cf k CXT ie .E L _ X W h c3) (chkG_ok h c4) (sw_noname c1) (st_none (.inr rfl)) c2
  · simp only [Bool.and_eq_true, Bool.or_eq_true] at c
    obtain ⟨⟨⟨⟨c1, c2⟩, c3⟩, c4⟩, c5⟩ := c
    refine S_asgG h (good T G cf k CXT ie .E L _ X W h c3) (chkG_ok h c4) (sw_sole c1) ?_ c2
    rcases c5 with c5 | c5
    · exact st_none c5
    · split at c5
      · rw [decide_eq_true_eq, ← h.sc] at c5
        exact swS_ok kd c5
      · cases c5
theorem parT_ok {txs vs : List Expr} {k1 k2 : Nat} {q1 q2 : Pos} (h : XOk T G cf k CXT W L X) (c : (decide (swS txs vs L.sc = some none) && noStars txs && exOks ts && decide (is.length ≤ 1000) && chkGs T L ts txs && chkL T is L vs) = true) : PS X (.Assign [.Tuple txs k1 q1] (.Tuple vs k2 q2) pos) (rdS G W M cf (.par ts is)) := by
  have kd : X.env.scope.kind = .function := by rw [h.sc]; exact h.kind
  simp only [Bool.and_eq_true, decide_eq_true_eq] at c
  obtain ⟨⟨⟨⟨⟨c1, c2⟩, c3⟩, c4⟩, c5⟩, c6⟩ := c
  obtain ⟨h1, h2⟩ := chkGs_ok h c5 c2
  rw [← h.sc] at c1
  exact S_parT h.gk h.wi h.calm (goodL T G cf k CXT _ _ _ _ _ h c6).1 h1 h2 (Nat.le_of_lt (small1000 c4)) asg_len (asg_idx c2) (fun xs s S c fs S' => ass_nox c3 _ _ _ _ _ _) (swS_ok kd c1)
theorem par_ok {txs vs : List Expr} {k1 k2 : Nat} {q1 q2 : Pos} (h : XOk T G cf k CXT W L X) (c : chkPar T L ts is txs vs = true) : PS X (.Assign [.Tuple txs k1 q1] (.Tuple vs k2 q2) pos) (rdS G W M cf (.par ts is)) := by
  have kd : X.env.scope.kind = .function := by rw [h.sc]; exact h.kind
  have nd : X.N.Nodup := by rw [h.N]; exact h.nd
  unfold chkPar at c
  split at c
  · simp only [Bool.and_eq_true, decide_eq_true_eq] at c
    obtain ⟨⟨⟨⟨⟨⟨c1, c2⟩, c3⟩, c4⟩, c5⟩, c6⟩, c7⟩ := c
    rw [← h.sc] at c7
    exact S_par h.calm nd (h.at_ c1) (h.at_ c2) c3 (loc_is h c4) (loc_is h c5) (goodL T G cf k CXT _ _ _ _ _ h c6).1 (swS_ok kd c7)
  · simp only [Bool.and_eq_true, decide_eq_true_eq] at c
    obtain ⟨⟨⟨⟨⟨⟨⟨⟨⟨⟨c1, c2⟩, c3⟩, c4⟩, c5⟩, c6⟩, c7⟩, c8⟩, c9⟩, c10⟩, c11⟩ := c
    rw [← h.sc] at c11
    exact S_par3 h.calm nd (h.at_ c1) (h.at_ c2) (h.at_ c3) c4 c5 c6 (loc_is h c7) (loc_is h c8) (loc_is h c9) (goodL T G cf k CXT _ _ _ _ _ h c10).1 (swS_ok kd c11)
  · cases c
variable (T G cf k CXT M) in
abbrev GoodS (i : IS) : Prop := ∀ (L : LC) (st : Stmt) (X : Cx) (W : WX), XOk T G cf k CXT W L X → PassesOwn (model X.prog X.w) X.A X.env X.xe → chkS T i L st = true → PS X st (rdS G W M cf i)
variable (T G cf k CXT M) in
abbrev GoodSs (i : List IS) : Prop := ∀ (L : LC) (st : List Stmt) (X : Cx) (W : WX), XOk T G cf k CXT W L X → PassesOwn (model X.prog X.w) X.A X.env X.xe → chkSs T i L st = true → PSs X st (rdSs G W M cf i)
theorem s_nop : GoodS T G cf k CXT M .nop := by
  intro L st X W h own c
  simp only [chkS] at c
  split at c
  · exact S_pass
  · exact S_doc
  · cases c
theorem s_app {i : Nat} : GoodS T G cf k CXT M (.app i ie) := by
  intro L st X W h own c
  simp only [chkS] at c
  split at c
  · simp only [Bool.and_eq_true, decide_eq_true_eq] at c
    obtain ⟨⟨⟨⟨⟨⟨rfl, c2⟩, c3⟩, c4⟩, c5⟩, c6⟩, c7⟩ := c
    refine S_app h.gk (h.at_ c2) (h.vis c3) (nm_ok c4).1 (nm_ok c4).2 (good T G cf k CXT ie .E L _ X W h c7) (star_cons c6) (fun {te} hv => ?_) rfl
    refine pe_bm PySem.F.plainAttrs_list PySem.F.slot_list_append PySem.F.type_list_append mt_append (pe_var (h.at_ c2) (h.vis c3) (nm_ok c4).1 (nm_ok c4).2) (pa_cons hv pa_nil (star_cons c6)) rfl ?_ c5 (star_cons c6) rfl
    rw [star_cons c6]
    rfl
  · cases c
theorem s_ext {i : Nat} : GoodS T G cf k CXT M (.ext i ie) := by
  intro L st X W h own c
  simp only [chkS] at c
  split at c
  · simp only [Bool.and_eq_true, decide_eq_true_eq] at c
    obtain ⟨⟨⟨⟨⟨⟨rfl, c2⟩, c3⟩, c4⟩, c5⟩, c6⟩, c7⟩ := c
    refine S_ext h.gk (h.at_ c2) (h.vis c3) (nm_ok c4).1 (nm_ok c4).2 (good T G cf k CXT ie .E L _ X W h c7) (star_cons c6) (fun {te} hv => ?_) rfl
    refine pe_bm PySem.F.plainAttrs_list PySem.F.slot_list_extend PySem.F.type_list_extend mt_extend (pe_var (h.at_ c2) (h.vis c3) (nm_ok c4).1 (nm_ok c4).2) (pa_cons hv pa_nil (star_cons c6)) rfl ?_ c5 (star_cons c6) rfl
    rw [star_cons c6]
    rfl
  · cases c
variable (T G cf k CXT M)
mutual
theorem goodS : ∀ i : IS, GoodS T G cf k CXT M i
  | .bad => fun L st X W h own c => S_bad
  | .nop => s_nop
  | .asg t e => fun L st X W h own c => by
    simp only [chkS] at c
    split at c
    · exact asg_ok h c
    · cases c
  | .par ts es => fun L st X W h own c => by
    simp only [chkS] at c
    split at c
    · rw [Bool.or_eq_true] at c
      rcases c with c | c
      · exact par_ok h c
      · exact parT_ok h c
    · cases c
  | .exp e => fun L st X W h own c => by
    simp only [chkS] at c
    split at c
    · simp only [Bool.and_eq_true] at c
      exact S_exp (good T G cf k CXT e .E L _ X W h c.2) (sw_none c.1)
    · cases c
  | .app i e => s_app
  | .ext i e => s_ext
  | .ite c a b => fun L st X W h own c' => by
    simp only [chkS] at c'
    split at c'
    · simp only [Bool.and_eq_true] at c'
      exact S_ite (good T G cf k CXT c .T L _ X W h c'.1.1) (goodSs a L _ X W h own c'.1.2) (goodSs b L _ X W h own c'.2)
    · cases c'
  | .for_ pt it body => fun L st X W h own c => by
    simp only [chkS] at c
    split at c
    · simp only [Bool.and_eq_true] at c
      obtain ⟨⟨⟨c1, c2⟩, c3⟩, c4⟩ := c
      exact S_for h.gk h.wi own h.calm (good T G cf k CXT it _ L _ X W h c1 _ rfl) (chkP_ok h c3) (goodSs body L _ X W h own c4) (set_iter c2)
    · cases c
  | .whl c body => fun L st X W h own c' => by
    simp only [chkS] at c'
    split at c'
    · simp only [Bool.and_eq_true] at c'
      exact S_whl h.wi own (good T G cf k CXT c .T L _ X W h c'.1) (goodSs body L _ X W h own c'.2)
    · cases c'
  | .ret e => fun L st X W h own c => by
    simp only [chkS] at c
    split at c
    · exact S_ret (good T G cf k CXT e .E L _ X W h c)
    · cases c
  | .rtn => fun L st X W h own c => by
    simp only [chkS] at c
    split at c
    · exact S_rtn
    · cases c
  | .rse c es => fun L st X W h own c' => by
    simp only [chkS] at c'
    cases c'
  | .tri b cs i hh => fun L st X W h own c' => by
    simp only [chkS] at c'
    cases c'
theorem goodSs : ∀ i : List IS, GoodSs T G cf k CXT M i
  | [] => fun L st X W h own c => by
    simp only [chkSs] at c
    split at c
    · exact Ss_nil
    · cases c
  | i :: is => fun L st X W h own c => by
    simp only [chkSs] at c
    split at c
    · simp only [Bool.and_eq_true] at c
      exact Ss_cons h.wi (goodS i L _ X W h own c.1) (goodSs is L _ X W h own c.2)
    · cases c
end
end
end IP
namespace IP
open PySem PySem.Spec PyProof.Rows L2

/-! ### a def is left -/
section
variable {G : GC} {F F' : Addr → Prop} {loc loc' : Nat → Addr} {S S' : Store} {H H' : Hp} {n : Nat}
theorem RV.shrink {v : Val} {w : V} (hn : n ≤ S.length) (b : below n v = true) (r : RV G F loc S H v w) : RV G F loc (S.take n) H v w := by
  cases v with
  | dat p => exact r
  | exn c fs => exact r
  | ref l =>
    simp only [below, decide_eq_true_eq] at b
    exact ⟨r.1, by rw [List.length_take]; omega⟩
theorem RFs.shrink (hn : n ≤ S.length) : ∀ {fs : List (Nat × Val)} {ws : List (Str × V)}, (fs.all fun p => IP.below n p.2) = true → RFs G F loc S H fs ws → RFs G F loc (S.take n) H fs ws
  | _, _, _, .nil => .nil
  | _, _, b, .cons r l => by
    simp only [List.all_cons, Bool.and_eq_true] at b
    exact .cons (r.shrink hn b.1) (RFs.shrink hn b.2 l)
theorem RO.shrink {a : Addr} {o : Ob} (hn : n ≤ S.length) (b : o.below n = true) (r : RO G F loc S H a o) : RO G F loc (S.take n) H a o := by
  cases o with
  | lst ps => exact r
  | dic ps => exact r
  | frz ps => exact r
  | dead => exact r
  | ins c fs =>
    obtain ⟨ok, dx, ws, e, l⟩ := r
    exact ⟨ok, dx, ws, e, RFs.shrink hn b l⟩
theorem take_at {S : Store} {l : Nat} {o : Ob} (e : (S.take n)[l]? = some o) : S[l]? = some o ∧ l < n := by
  rw [List.getElem?_take] at e
  split at e
  · exact ⟨e, by assumption⟩
  · cases e
theorem SimS.take (h : SimS G F loc S H) (hn : n ≤ S.length) (b : (S.take n).all (·.below n) = true) : SimS G F loc (S.take n) H := by
  refine ⟨h.dom, fun l o e => ?_, fun l l' o o' e e' => h.inj l l' o o' (take_at e).1 (take_at e').1, fun l o e => h.sep l o (take_at e).1⟩
  have := List.all_eq_true.mp b o (List.mem_of_getElem? e)
  exact (h.ob l o (take_at e).1).shrink hn this
theorem Nxt.take (m : Nxt G F loc S H F' loc' S' H') (b : (S'.take S.length).all (·.below S.length) = true) : Nxt G F loc S H F' loc' (S'.take S.length) H' := by
  refine ⟨m.sub, m.keep, m.kp, m.dom, m.fin, m.loc, ?_, fun l u e al => m.neu l u (take_at e).1 al, m.sim.take m.len b⟩
  rw [List.length_take]
  have := m.len
  omega
theorem leave_post {W : WX} {t : L2.St} {v : Val} {Q : V → Hp → Prop} (p : PostV G W t F loc S H (leave S.length v S') Q) {w : V} (m : Nxt G F loc S H F' loc' S' H') (r : RV G F' loc' S' H' v w) : Q w H' := by
  unfold leave at p
  split at p
  · exact p w F' loc' H' m r
  · split at p
    · rename_i h
      exact p w F' loc' H' (m.take h.2) (r.shrink m.len h.1)
    · exact p w F' loc' H' m r
end
/-! ### a def of the table -/
def defChk (T : Tab) (t : FnT) (N : List Str) (sc : Scope) (body : List Stmt) (d : FD) : Bool :=
  decide (d.n = t.n) && decide (t.ps.length = t.n) && decide (d.m = N.length) && decide N.Nodup && decide (sc.kind = .function) && !sc.isCoroutine && !sc.isGenerator && decide (N.take t.ps.length = t.ps) &&
    (t.ps.all fun x => decide (sc.names.lookup x = some .local) || decide (sc.names.lookup x = some .cell)) && (sc.names.all fun y => decide (y.2 ≠ .free)) && chkSs T d.body ⟨N, sc, none⟩ body
structure DefOk (T : Tab) (PP : List (Option FD)) (K : PySem.W.Frag) (f : Nat) (t : FnT) (fa : Addr) (fd : FuncData) : Prop where
  ex : ∃ (N : List Str) (sc : Scope) (body : List Stmt) (d : FD) (name qual : Str) (pa : Arguments) (dV kV doc pm cdv ct oc : Value) (an od : Option Addr) (osl : Array (Option Value)),
    fd = PySem.W.fnOf name qual pa body sc dV kV doc pm an cdv ct ∧ K.lookup fa = some ⟨oc, od, .func fd, osl⟩ ∧ PySem.W.codeIn K cdv qual = true ∧ PP[f]? = some (some d) ∧ defChk T t N sc body d = true
/-- what the top has left, by the table -/
structure TabF (T : Tab) (G : GC) (PP : List (Option FD)) (K : PySem.W.Frag) (mg : Str → Option Value) : Prop where
  gk : G.K = K
  fn : ∀ f t, T.fn f = some t → ∃ fa fd, DefOk T PP K f t fa fd ∧ (∀ ds, ds = [] ∨ ds = t.ds → ∃ us, Vals (dflV ds) us ∧ Binds K fd t.ps us) ∧ (∀ q, q ∈ t.kws → KB K fd t.ps q.np q.ks q.perm) ∧
    (t.cl = none → mg t.nm = some (.ref fa) ∧ PySem.W.keepIn K (.ref fa) = true) ∧ (∀ c, t.cl = some c → (t.nm ≠ "__init__" → Meth K (G.cls c) t.nm fa) ∧ (t.nm = "__init__" → Mk K (G.cls c) fa))
  cl : ∀ (c : Nat) x, T.cls[c]? = some x → G.cok c ∧ mg x = some (.ref (G.cls c))
  cok : ∀ c, G.cok c → Cls K (G.cls c)
  clm : ∀ f t c, T.fn f = some t → t.cl = some c → G.cok c
  fi : ∀ f g, G.fnm f = G.fnm g → f = g
  fl : ∀ (f : Nat) x, T.flds[f]? = some x → x = G.fnm f ∧ ∀ c, G.cok c → NoAttr K (G.cls c) x
  fm : ∀ f i t c, T.fn i = some t → t.cl = some c → G.fnm f ≠ t.nm
  blt : ∀ x, T.blt.contains x = true → mg x = none
  gcs : ∀ (g : Nat) x d, T.gcs[g]? = some (x, d) → ∃ v u, mg x = some u ∧ RelV v u ∧ ∀ F H, Rp G.K F H v d
section
variable {T : Tab} {G : GC} {PP : List (Option FD)} {M : Option Nat} {P : Program} {w : World} {K : PySem.W.Frag} {mg : Str → Option Value} {base : Heap}
theorem spC_n {n : Nat} {g : List Val → Store → Out Val} : ∀ vs H Q E, spC G n g vs H Q E → vs.length = n := fun vs H Q E ⟨F, loc, S, args, _, r, e, _⟩ => by rw [r.length, e]
theorem fn_zero {f : Nat} {t : FnT} {fa : Addr} {fd : FuncData} (D : DefOk T PP K f t fa fd) : FnG P w K mg base (L2.CX P w) 0 fa fd t.n t.ps (spC G t.n (callN PP M 0 f)) := by
  obtain ⟨N, sc, body, d, name, qual, pa, dV, kV, doc, pm, cdv, ct, oc, an, od, osl, rfl, lk, hc, hd, ok⟩ := D.ex
  simp only [defChk, Bool.and_eq_true, decide_eq_true_eq] at ok
  refine ⟨ok.1.1.1.1.1.1.1.1.1.2, spC_n, fun A outer s H ar us vs Q E hu hr e0 hb r wish => ?_⟩
  obtain ⟨F, loc, S, args, hS, rv, ln, p⟩ := wish
  exact p.elim
theorem fn_step {k : Nat} (ih : EnvF T G (callN PP M k) (2 * k) (L2.CX P w) P w K mg base) {f : Nat} {t : FnT} {fa : Addr} {fd : FuncData} (D : DefOk T PP K f t fa fd) : FnG P w K mg base (L2.CX P w) (2 * (k + 1)) fa fd t.n t.ps (spC G t.n (callN PP M (k + 1) f)) := by
  obtain ⟨N, sc, body, d, name, qual, pa, dV, kV, doc, pm, cdv, ct, oc, an, od, osl, rfl, lk, hc, hd, ok⟩ := D.ex
  simp only [defChk, Bool.and_eq_true, decide_eq_true_eq, Bool.not_eq_true', List.all_eq_true, Bool.or_eq_true] at ok
  obtain ⟨⟨⟨⟨⟨⟨⟨⟨⟨⟨h1, h2⟩, h3⟩, h4⟩, h5⟩, h6⟩, h7⟩, h8⟩, h9⟩, h10⟩, h11⟩ := ok
  have SC : FnScope N t.ps sc := ⟨h5, h6, h7, h4, h8, h9, fun y hy => h10 y hy⟩
  refine FnG.of (k := 2 * k + 1) lk hc SC h2 spC_n fun A outer s H vs Q E hu hr wish => ?_
  obtain ⟨F, loc, S, args, hS, rv, ln, p⟩ := wish
  have hpl : t.n ≤ N.length := by
    have := congrArg List.length h8
    rw [List.length_take, h2] at this
    omega
  refine ⟨rdSs G (fun cv d _ H' => E cv d H') M (callN PP M k) d.body, ?_, ?_⟩
  · refine goodSs T G (callN PP M k) (2 * k) (L2.CX P w) M d.body ⟨N, sc, none⟩ body _ _ ?_ (L2.passes_of rfl) h11
    have tk : L2.Takes (cxOf (L2.CX P w) P w K mg base N qual sc fa cdv A outer s H E) (fun cv d _ H' => E cv d H') := L2.takes_of rfl rfl rfl rfl
    exact { env := ih, N := rfl, nd := h4, sc := rfl, kind := h5, room := hr, hush := hu, calm := rfl, fn := fun _ _ => rfl, pass := L2.passes_call tk fun cls d σ H h => h, wi := fun _ _ _ _ _ h => h }
  · have lv : vs.length = t.n := by rw [rv.length, ln]
    refine ⟨F, loc, args.map some ++ List.replicate (d.m - d.n) none, S, hS, ⟨?_, fun i v e => ?_⟩, ?_⟩
    · unfold L2.start
      rw [List.length_append, List.length_append, List.length_map, List.length_map, List.length_replicate, List.length_replicate, ln, lv, h1, h3]
    · by_cases hi : i < args.length
      · rw [List.getElem?_append_left (by rw [List.length_map]; exact hi), List.getElem?_map] at e
        cases q : args[i]? with
        | none => rw [q] at e; cases e
        | some x =>
          rw [q] at e
          cases e
          obtain ⟨u, q1, q2⟩ := rv.getI q
          refine ⟨u, ?_, q2⟩
          unfold L2.start
          rw [List.getElem?_append_left (by rw [List.length_map, rv.length]; exact hi), List.getElem?_map, q1]
          rfl
      · rw [List.getElem?_append_right (by rw [List.length_map]; omega), List.getElem?_replicate] at e
        split at e <;> cases e
    · simp only [callN, hd, ln, h1, if_true] at p
      rw [h1]
      cases q : evSs M (callN PP M k) d.body (args.map some ++ List.replicate (d.m - t.n) none) S with
      | err => rw [q] at p; exact p.elim
      | exc c fs S' => rw [q] at p; exact fun cv dd F' loc' H' m e => p cv dd F' loc' H' m e
      | ok r S' =>
        rw [q] at p
        cases r with
        | nx s' => exact fun t' F' loc' H' m e => leave_post p m (show Rp _ _ _ _ _ from .non)
        | rt v => exact fun w' F' loc' H' m e => leave_post p m e
theorem env_of (hs : Sys base) (D : TabF T G PP K mg) : ∀ k, EnvF T G (callN PP M k) (2 * k) (L2.CX P w) P w K mg base := by
  have mk : ∀ k, (∀ f t fa fd, DefOk T PP K f t fa fd → FnG P w K mg base (L2.CX P w) (2 * k) fa fd t.n t.ps (spC G t.n (callN PP M k f))) → EnvF T G (callN PP M k) (2 * k) (L2.CX P w) P w K mg base := fun k h =>
    { gk := D.gk, fn := fun f t e => let ⟨fa, fd, d, r⟩ := D.fn f t e; ⟨fa, fd, h f t fa fd d, r⟩, cl := D.cl, cok := D.cok, clm := D.clm, fi := D.fi, fl := D.fl, fm := D.fm, blt := D.blt, gcs := D.gcs, sys := hs,
      p0 := fun X e1 e2 => by subst e1 e2; exact passL }
  intro k
  induction k with
  | zero => exact mk 0 fun f t fa fd d => fn_zero d
  | succ k ih => exact mk (k + 1) fun f t fa fd d => fn_step ih d
/-- every def of the table, at any level -/
theorem fn_all (hs : Sys base) (D : TabF T G PP K mg) (k : Nat) {f : Nat} {t : FnT} {fa : Addr} {fd : FuncData} (d : DefOk T PP K f t fa fd) : FnG P w K mg base (L2.CX P w) (2 * k) fa fd t.n t.ps (spC G t.n (callN PP M k f)) := by
  cases k with
  | zero => exact fn_zero d
  | succ k => exact fn_step (env_of hs D k) d
end
end IP
namespace IP
open PySem PySem.Spec PyProof.Rows L2

/-! ### the law's call -/
/-- the heap as the law sees it: the script at a, where it is no object of the written part -/
def scrH (K : PySem.W.Frag) (a : Addr) (vs : List Value) (ns : List Int) : Hp := fun b => if b = a ∧ (K.lookup a).isNone = true then some (.frz { cls := .type "list", data := .seq vs.toArray } (.lst (ns.map V.int))) else none
theorem scrH_at {K : PySem.W.Frag} {a b : Addr} {vs : List Value} {ns : List Int} {u : HO} (e : scrH K a vs ns b = some u) : b = a ∧ K.lookup a = none ∧ u = .frz { cls := .type "list", data := .seq vs.toArray } (.lst (ns.map V.int)) := by
  unfold scrH at e
  split at e
  · rename_i h
    cases e
    exact ⟨h.1, Option.isNone_iff_eq_none.mp h.2, rfl⟩
  · cases e
theorem law_go {P : Program} {w : World} {K : PySem.W.Frag} {mg mb : Str → Option Value} {k : Nat} {fa a : Addr} {fd : FuncData} {x : Str} {sp : Sp} {s : Shared} {vs : List Value} {ns : List Int}
    (KX : K.In s.heap) (hns : s.heap.Ns mainGlobals mg) (hb : s.heap.Ns builtinsNs mb) (hbb : ∀ x : Str, x ≠ "__name__" → mb x = bootBuiltins x) (free : s.heap.NoLimit) (seer : s.heap.NoSeer) (hg : s.gens = #[])
    (ha : s.heap.get? a = some { cls := .type "list", data := .seq vs.toArray }) (hi : IntsAre vs ns) (hl : ns.length ≤ sizeLine) (hr : Room k callerA)
    (F : ∀ base : Heap, K.In base → base.Ns mainGlobals mg → Sys base → FnG P w K mg base (L2.CX P w) k fa fd 1 [x] sp) (hbind : ∀ (s : Shared) (u : Value), K.In s.heap → BindsTo s fd ⟨[u], []⟩ [(x, u)])
    (wish : sp [.ref a] (scrH K a vs ns) (fun v _ => v = .bl true) fun _ _ _ => False) :
    codeAny (model P w) callerA (.call (.ref fa) ⟨[.ref a], []⟩) (fun r s' => r = .ok (.ret (.bool true)) ∧ OldK s.heap s'.heap ∧ s'.os = s.os ∧ AllBare s'.gens) s := by
  have rv := vals_ints hi
  generalize hH : scrH K a vs ns = H at wish
  have at_ : ∀ {b : Addr} {u : HO}, H b = some u → b = a ∧ K.lookup a = none ∧ u = .frz { cls := .type "list", data := .seq vs.toArray } (.lst (ns.map V.int)) := fun e => scrH_at (by rw [hH]; exact e)
  have hok : HOk P w H s.heap := fun b u e => by
    obtain ⟨rfl, _, rfl⟩ := at_ e
    exact ⟨ha, by rw [List.length_map]; exact hl, vs, _, rv, ha⟩
  have none_of : ∀ {b : Addr} {o : Obj} {es : Array DictEntry} {ep : Nat}, s.heap.get? b = some o → o.data = .dict es ep → H b = none := fun {b o es ep} e d => by
    cases q : H b with
    | none => rfl
    | some u =>
      obtain ⟨rfl, _, _⟩ := at_ q
      rw [ha] at e
      cases e
      exact nomatch (show Data.seq vs.toArray _ = Data.dict es ep from d)
  have space : ∀ {b : Addr} {m : Str → Option Value}, s.heap.Ns b m → (hidT s.heap H).Ns b m := fun ⟨o, es, ep, e, d, r⟩ => ⟨o, es, ep, hidT_get e (none_of e d), d, r⟩
  have inB : K.In (hidT s.heap H) := fun b o e => hidT_get (KX b o e) (by
    cases q : H b with
    | none => rfl
    | some u =>
      obtain ⟨rfl, z, _⟩ := at_ q
      rw [z] at e
      cases e)
  have e0 : Env0 P w K mg (hidT s.heap H) callerA [] s H :=
    ⟨rfl, ⟨inB, space hns, ⟨mb, space hb, hbb⟩, let ⟨mc, h1, h2⟩ := free; ⟨mc, space h1, h2⟩⟩, fun b o e => of_hidT e, Nat.le_of_eq (hidT_size _ _), trivial, fun b hb => (by cases hb), hok, .of_eq hg⟩
  refine codeAny_mono ((F _ inB (space hns) (let ⟨mm, h1, _⟩ := seer.mods; let ⟨o, _, _, e, _⟩ := space h1; ⟨o, e⟩)).go callerA [] s H ⟨[.ref a], []⟩ [.ref a] [.ref a] _ _ rfl hr e0 (hbind s (.ref a) KX) (.cons rfl .nil) wish) ?_
  rintro (e | fl) s' h
  · obtain ⟨_, _, _, _, _, _, _, _, _, _, _, _, z⟩ := h
    exact z.elim
  · cases fl with
    | next => exact h.elim
    | brk => exact h.elim
    | cont => exact h.elim
    | ret u =>
      obtain ⟨v, H', os, bare, un, hok', ru, rfl⟩ := h
      cases (show u = Value.bool true from ru)
      refine ⟨rfl, OldK.of_keep fun b o e => ?_, os, bare⟩
      cases q : H b with
      | none => exact un.keep b o e q (fun z => by cases z) (fun z => by cases z)
      | some u =>
        obtain ⟨rfl, _, rfl⟩ := at_ q
        rw [ha] at e
        cases e
        exact (hok' b _ (un.frzs b _ _ q)).1
/-- the goal that the head leaves -/
theorem walk_go {l : PySem.W.OpenLaw} {n k : Nat} {q : Program} {loose : List Str} {XP : (Str → Option Value) → Heap → Prop} {YP : World → Heap → Prop} {d : DefRec} {K : Params → PySem.W.Frag} {sp : World → Sp} {x : Str}
    (hi : importsNone q = true) (hn : l.most = some n) (hn2 : n ≤ sizeLine) (hdf : d.params.defaults = []) (hr : Room k callerA)
    (hY : ∀ (w : World) (h : Heap), YP w h → (K w.params).In h)
    (F : ∀ (w : World) (mg : Str → Option Value) (fa : Addr) (h : Heap), (K w.params).In h → h.Ns mainGlobals mg → mg d.name = some (.ref fa) →
      ∃ fd : FuncData, (∀ (s : Shared) (u : Value), (K w.params).In s.heap → BindsTo s fd ⟨[u], []⟩ [(x, u)]) ∧
        ∀ base : Heap, (K w.params).In base → base.Ns mainGlobals mg → Sys base → FnG l.prog w (K w.params) mg base (L2.CX l.prog w) k fa fd 1 [x] (sp w))
    (hsp : ∀ (w : World) (a : Addr) (vs : List Value) (ns : List Int), ns.length ≤ n → sp w [.ref a] (scrH (K w.params) a vs ns) (fun v _ => v = .bl true) fun _ _ _ => False) :
    PySem.W.WalkO q loose XP YP l.row.toRowW d [] (fun f vs => PySem.call f vs) := by
  refine Att.attach_call hn hdf fun w s₀ s₁ mg mb fa o pm cd doc a vs ns G Y ho hd hcd hmg hobj hints hlen hg => ?_
  have KX := hY w _ Y
  obtain ⟨fd, hb, hF⟩ := F w mg fa _ KX G.T.g hmg
  exact law_go KX G.T.g G.T.b G.T.builtins G.T.nolimit (G.T.seer hi) hg hobj hints (Nat.le_trans hlen hn2) hr hF hb (hsp w a vs ns hlen)
/-- a law that does not look at the script -/
theorem spC_closed {G : GC} {g : List Val → Store → Out Val} {K : PySem.W.Frag} {a : Addr} {vs : List Value} {ns : List Int} {S' : Store} (hv : ∀ w, G.exv 0 [] w) (h : g [.exn 0 []] [] = .ok (.dat (.bool true)) S') :
    spC G 1 g [.ref a] (scrH K a vs ns) (fun v _ => v = .bl true) fun _ _ _ => False := by
  refine ⟨fun _ => False, fun _ => 0, [], [.exn 0 []], ⟨fun _ z => z.elim, fun l o e => by simp at e, fun l l' o o' e => by simp at e, fun l o e => by simp at e⟩, .cons (hv _) .nil, rfl, ?_⟩
  rw [h]
  intro w F' loc' H' n r
  cases (show Rp G.K F' H' w (.bool true) from r)
  rfl
end IP
namespace IP
open PySem PySem.Spec PyProof.Rows L2

/-! ### the table from the head's facts -/
def Bd (K : PySem.W.Frag) (fd : FuncData) (t : FnT) : Prop := (∀ ds, ds = [] ∨ ds = t.ds → ∃ us, Vals (dflV ds) us ∧ Binds K fd t.ps us) ∧ ∀ q, q ∈ t.kws → KB K fd t.ps q.np q.ks q.perm
def FnHave (T : Tab) (PP : List (Option FD)) (K : PySem.W.Frag) (mg : Str → Option Value) (f : Nat) (t : FnT) : Prop := ∃ fa fd, DefOk T PP K f t fa fd ∧ Bd K fd t ∧ mg t.nm = some (.ref fa) ∧ PySem.W.keepIn K (.ref fa) = true
def MeHave (T : Tab) (PP : List (Option FD)) (K : PySem.W.Frag) (C : Addr) (f : Nat) (t : FnT) : Prop := ∃ fa fd, DefOk T PP K f t fa fd ∧ Bd K fd t ∧ (t.nm ≠ "__init__" → Meth K C t.nm fa) ∧ (t.nm = "__init__" → Mk K C fa)
def AllF (Q : Nat → FnT → Prop) : Nat → List (Option FnT) → Prop
  | _, [] => True
  | i, none :: r => AllF Q (i + 1) r
  | i, some t :: r => Q i t ∧ AllF Q (i + 1) r
theorem AllF.get {Q : Nat → FnT → Prop} : ∀ {l : List (Option FnT)} {i j : Nat} {t : FnT}, AllF Q i l → l[j]? = some (some t) → Q (i + j) t
  | [], _, _, _, _, e => by simp at e
  | none :: r, i, 0, t, h, e => by simp at e
  | some u :: r, i, 0, t, h, e => by
    simp at e
    subst e
    exact h.1
  | none :: r, i, j + 1, t, h, e => by
    have := AllF.get (j := j) (t := t) (show AllF Q (i + 1) r from h) (by simpa using e)
    rwa [show i + (j + 1) = i + 1 + j by omega]
  | some u :: r, i, j + 1, t, h, e => by
    have := AllF.get (j := j) (t := t) h.2 (by simpa using e)
    rwa [show i + (j + 1) = i + 1 + j by omega]
theorem bd_none {K : PySem.W.Frag} {fd : FuncData} {t : FnT} (n : Nat) (hn : t.ps.length = n) (hd : t.ds = []) (h : ∀ us : List Value, us.length = n → bindArgs fd ⟨us, []⟩ = pure (t.ps.zip us)) (hk : ∀ q, q ∈ t.kws → KB K fd t.ps q.np q.ks q.perm) : Bd K fd t := by
  refine ⟨fun ds e => ?_, hk⟩
  have e : ds = [] := by rcases e with e | e <;> simp [e, hd]
  subst e
  exact ⟨[], .nil, .all fun us hl => h us (hl.trans hn)⟩
theorem kb_no {K : PySem.W.Frag} {fd : FuncData} {t : FnT} (h : t.kws = []) : ∀ q, q ∈ t.kws → KB K fd t.ps q.np q.ks q.perm := fun q z => by
  rw [h] at z
  cases z
theorem kb_one {K : PySem.W.Frag} {fd : FuncData} {t : FnT} {k : KwT} (h : t.kws = [k]) (z : KB K fd t.ps k.np k.ks k.perm) : ∀ q, q ∈ t.kws → KB K fd t.ps q.np q.ks q.perm := fun q m => by
  rw [h] at m
  cases List.mem_singleton.mp m
  exact z
section
variable {T : Tab} {PP : List (Option FD)} {K : PySem.W.Frag} {h : Heap} {mg : Str → Option Value} {f C : Addr} {st : Stmt} {oc dV kV dc pm cd ct : Value} {od an : Option Addr} {sl : Array (Option Value)} {qual nm : Str} {i : Nat} {t : FnT} {N : List Str} {d : FD}
theorem def_ok (l : K.lookup f = some ⟨oc, od, .func (PySem.W.fnOf nm qual (defArgs st) (defBody st) (defScope st) dV kV dc pm an cd ct), sl⟩) (c : PySem.W.codeIn K cd qual = true) (hd : PP[i]? = some (some d)) (ok : defChk T t N (defScope st) (defBody st) d = true) :
    DefOk T PP K i t f (PySem.W.fnOf nm qual (defArgs st) (defBody st) (defScope st) dV kV dc pm an cd ct) := ⟨⟨N, defScope st, defBody st, d, nm, qual, defArgs st, dV, kV, dc, pm, cd, ct, oc, an, od, sl, rfl, l, c, hd, ok⟩⟩
theorem fn_have (X : K.In h) (G : h.Ns mainGlobals mg) (a : PySem.W.nsIn K mainGlobals nm = some (some (.ref f))) (l : K.lookup f = some ⟨oc, od, .func (PySem.W.fnOf nm qual (defArgs st) (defBody st) (defScope st) dV kV dc pm an cd ct), sl⟩) (c : PySem.W.codeIn K cd qual = true) (k : PySem.W.keepIn K (.ref f) = true)
    (hn : t.nm = nm) (hd : PP[i]? = some (some d)) (ok : defChk T t N (defScope st) (defBody st) d = true) (bd : Bd K (PySem.W.fnOf nm qual (defArgs st) (defBody st) (defScope st) dV kV dc pm an cd ct) t) : FnHave T PP K mg i t := by
  subst hn
  exact ⟨f, _, def_ok l c hd ok, bd, PySem.W.mg_of X G a, k⟩
theorem me_have (a : PySem.W.findIn K (.ref C) nm = some (some (.ref f))) (i1 : PySem.W.isFn K (.ref f) = true) (l : K.lookup f = some ⟨oc, od, .func (PySem.W.fnOf nm qual (defArgs st) (defBody st) (defScope st) dV kV dc pm an cd ct), sl⟩) (c : PySem.W.codeIn K cd qual = true) (k : PySem.W.keepIn K (.ref f) = true)
    (hn : t.nm = nm) (hi : t.nm ≠ "__init__") (hd : PP[i]? = some (some d)) (ok : defChk T t N (defScope st) (defBody st) d = true) (bd : Bd K (PySem.W.fnOf nm qual (defArgs st) (defBody st) (defScope st) dV kV dc pm an cd ct) t) : MeHave T PP K C i t := by
  subst hn
  exact ⟨f, _, def_ok l c hd ok, bd, fun _ => ⟨a, i1, k⟩, fun e => absurd e hi⟩
theorem in_have (a : PySem.W.findIn K (.ref C) "__init__" = some (some (.ref f))) (i1 : PySem.W.isFn K (.ref f) = true) (l : K.lookup f = some ⟨oc, od, .func (PySem.W.fnOf "__init__" qual (defArgs st) (defBody st) (defScope st) dV kV dc pm an cd ct), sl⟩) (c : PySem.W.codeIn K cd qual = true)
    (mk : PySem.W.makesIn K C = true) (kc : PySem.W.keepIn K (.ref C) = true) (hn : t.nm = "__init__") (hd : PP[i]? = some (some d)) (ok : defChk T t N (defScope st) (defBody st) d = true) (bd : Bd K (PySem.W.fnOf "__init__" qual (defArgs st) (defBody st) (defScope st) dV kV dc pm an cd ct) t) : MeHave T PP K C i t :=
  ⟨f, _, def_ok l c hd ok, bd, fun e => absurd hn e, fun _ => ⟨mk, a, i1, kc⟩⟩
structure ClHave (T : Tab) (PP : List (Option FD)) (K : PySem.W.Frag) (mg : Str → Option Value) (c : Nat) (x : Str) (C : Addr) : Prop where
  cl : Cls K C
  nm : mg x = some (.ref C)
  na : ∀ f, f ∈ T.flds → NoAttr K C f
  me : AllF (fun f t => t.cl = some c → MeHave T PP K C f t) 0 T.fns
def fnmOf (T : Tab) (f : Nat) : Str := match T.flds[f]? with
  | some x => x
  | none => ⟨(List.replicate (f + 1) 0).toArray⟩
def GCc (T : Tab) (K : PySem.W.Frag) (cs : List Addr) : GC := ⟨K, fun c => (cs[c]?).getD 0, fun c => c < cs.length, fnmOf T, fun _ _ _ _ _ => False, fun _ _ _ => True⟩
def headOk (x : Str) : Bool := match x.cps.toList with
  | [] => false
  | n :: _ => decide (n ≠ 0)
def tabChk (T : Tab) : Bool := decide T.flds.Nodup && T.flds.all headOk && (T.fns.all fun o => match o with
  | some t => match t.cl with
    | some c => decide (c < T.cls.length) && headOk t.nm && decide (t.nm ∉ T.flds)
    | none => true
  | none => true)
theorem zero_head {n : Nat} : headOk ⟨(List.replicate (n + 1) 0).toArray⟩ = false := by
  unfold headOk
  simp [List.replicate_succ]
theorem fnm_inj (h : tabChk T = true) (f g : Nat) (e : fnmOf T f = fnmOf T g) : f = g := by
  simp only [tabChk, Bool.and_eq_true, decide_eq_true_eq, List.all_eq_true] at h
  obtain ⟨⟨h1, h2⟩, _⟩ := h
  unfold fnmOf at e
  cases q1 : T.flds[f]? with
  | some x =>
    rw [q1] at e
    cases q2 : T.flds[g]? with
    | some y =>
      rw [q2] at e
      have e : x = y := e
      subst e
      obtain ⟨l1, e1⟩ := List.getElem?_eq_some_iff.mp q1
      obtain ⟨l2, e2⟩ := List.getElem?_eq_some_iff.mp q2
      exact (List.getElem_inj h1).mp (e1.trans e2.symm)
    | none =>
      rw [q2] at e
      have := h2 x (List.mem_of_getElem? q1)
      rw [show x = _ from e, zero_head] at this
      cases this
  | none =>
    rw [q1] at e
    cases q2 : T.flds[g]? with
    | some y =>
      rw [q2] at e
      have := h2 y (List.mem_of_getElem? q2)
      rw [← show _ = y from e, zero_head] at this
      cases this
    | none =>
      rw [q2] at e
      have := congrArg (fun x : Str => x.cps.toList.length) e
      simpa using this
theorem tab_fn {f : Nat} {t : FnT} (e : T.fn f = some t) : T.fns[f]? = some (some t) := by
  unfold Tab.fn at e
  split at e
  · cases e
    assumption
  · cases e
theorem tab_of (cs : List Addr) (hT : tabChk T = true) (fns : AllF (fun f t => t.cl = none → FnHave T PP K mg f t) 0 T.fns) (hl : cs.length = T.cls.length) (cls : ∀ (c : Nat) x, T.cls[c]? = some x → ∃ C, cs[c]? = some C ∧ ClHave T PP K mg c x C)
    (blt : ∀ x, T.blt.contains x = true → mg x = none) (gcs : ∀ (g : Nat) x d, T.gcs[g]? = some (x, d) → ∃ v u, mg x = some u ∧ RelV v u ∧ ∀ F H, Rp K F H v d) : TabF T (GCc T K cs) PP K mg := by
  have one : ∀ f t c, T.fn f = some t → t.cl = some c → c < T.cls.length ∧ headOk t.nm = true ∧ t.nm ∉ T.flds := fun f t c e e2 => by
    simp only [tabChk, Bool.and_eq_true, List.all_eq_true] at hT
    have := hT.2 (some t) (List.mem_of_getElem? (tab_fn e))
    simp only [e2, Bool.and_eq_true, decide_eq_true_eq] at this
    exact ⟨this.1.1, this.1.2, this.2⟩
  have cat : ∀ c, c < T.cls.length → ∃ x, ClHave T PP K mg c x ((GCc T K cs).cls c) ∧ T.cls[c]? = some x := fun c hc => by
    have e := List.getElem?_eq_getElem hc
    obtain ⟨C, h1, h2⟩ := cls c _ e
    refine ⟨_, ?_, e⟩
    show ClHave T PP K mg c _ ((cs[c]?).getD 0)
    rw [h1]
    exact h2
  refine { gk := rfl, fn := fun f t e => ?_, cl := fun c x e => ?_, cok := fun c hc => ?_, clm := fun f t c e e2 => ?_, fi := fnm_inj hT, fl := fun f x e => ?_, fm := fun f i t c e e2 z => ?_, blt := blt, gcs := gcs }
  · cases q : t.cl with
    | none =>
      obtain ⟨fa, fd, h1, h2, h3, h4⟩ := (AllF.get fns (tab_fn e)) q
      rw [Nat.zero_add] at h1
      exact ⟨fa, fd, h1, h2.1, h2.2, fun _ => ⟨h3, h4⟩, fun c z => (nomatch z)⟩
    | some c =>
      obtain ⟨x, hc, _⟩ := cat c (one f t c e q).1
      obtain ⟨fa, fd, h1, h2, h3, h4⟩ := (AllF.get hc.me (tab_fn e)) q
      rw [Nat.zero_add] at h1
      exact ⟨fa, fd, h1, h2.1, h2.2, fun z => (nomatch z), fun c' z => (by cases z; exact ⟨h3, h4⟩)⟩
  · have hc : c < T.cls.length := (List.getElem?_eq_some_iff.mp e).1
    obtain ⟨x', h1, h2⟩ := cat c hc
    rw [e] at h2
    cases h2
    exact ⟨by show c < cs.length; rw [hl]; exact hc, h1.nm⟩
  · obtain ⟨x, h1, _⟩ := cat c (by have hc : c < cs.length := hc; rw [hl] at hc; exact hc)
    exact h1.cl
  · show c < cs.length
    rw [hl]
    exact (one f t c e e2).1
  · refine ⟨?_, fun c hc => ?_⟩
    · show x = fnmOf T f
      unfold fnmOf
      rw [e]
    · obtain ⟨y, h1, _⟩ := cat c (by have hc : c < cs.length := hc; rw [hl] at hc; exact hc)
      exact h1.na x (List.mem_of_getElem? e)
  · obtain ⟨_, h1, h2⟩ := one i t c e e2
    have z : fnmOf T f = t.nm := z
    unfold fnmOf at z
    cases q : T.flds[f]? with
    | some x =>
      rw [q] at z
      exact h2 (by rw [← show x = t.nm from z]; exact List.mem_of_getElem? q)
    | none =>
      rw [q] at z
      rw [← z, zero_head] at h1
      cases h1
/-- the law's own def, from the table -/
theorem law_of {G : GC} {M : Option Nat} {P : Program} {w : World} {base : Heap} {fa : Addr} {li lv : Nat} {x : Str} (D : TabF T G PP K mg) (e : T.fn li = some t) (hc : t.cl = none) (hn : t.n = 1) (hp : t.ps = [x]) (hm : mg t.nm = some (.ref fa)) :
    ∃ fd : FuncData, (∀ (s : Shared) (u : Value), K.In s.heap → BindsTo s fd ⟨[u], []⟩ [(x, u)]) ∧ ∀ base : Heap, K.In base → base.Ns mainGlobals mg → Sys base → FnG P w K mg base (L2.CX P w) (2 * lv) fa fd 1 [x] (spC G 1 (callN PP M lv li)) := by
  obtain ⟨fa', fd, h1, h2, _, h3, _⟩ := D.fn li t e
  obtain ⟨h3, _⟩ := h3 hc
  rw [hm] at h3
  cases h3
  obtain ⟨us, hv, hB⟩ := h2 [] (.inl rfl)
  cases hv
  refine ⟨fd, fun s u X => ?_, fun base _ _ hs => ?_⟩
  · have := hB s [u] X (by rw [hp]; rfl)
    rw [hp] at this
    exact this
  · have := fn_all (M := M) (P := P) (w := w) (base := base) hs D lv h1
    rw [hn, hp] at this
    exact this
end
/-- a law that does not look at the script -/
def spCl : Sp := fun vs H Q E => vs.length = 1 ∧ ∀ v H', v = V.bl true → Q v H'
theorem closed_imp {G : GC} {g : List Val → Store → Out Val} {S' : Store} (hv : ∀ w, G.exv 0 [] w) (h : g [.exn 0 []] [] = .ok (.dat (.bool true)) S') : ∀ vs H Q E, spCl vs H Q E → spC G 1 g vs H Q E := by
  rintro vs H Q E ⟨ln, q⟩
  match vs, ln with
  | [v], _ =>
    refine ⟨fun _ => False, fun _ => 0, [], [.exn 0 []], ⟨fun _ z => z.elim, fun l o e => by simp at e, fun l l' o o' e => by simp at e, fun l o e => by simp at e⟩, .cons (hv _) .nil, rfl, ?_⟩
    rw [h]
    intro w F' loc' H' n r
    cases (show Rp G.K F' H' w (.bool true) from r)
    exact q _ _ rfl
theorem FnG.imp {P : Program} {w : World} {K : PySem.W.Frag} {mg : Str → Option Value} {base : Heap} {CX : CXT} {k n : Nat} {f : Addr} {fd : FuncData} {ps : List Str} {sp sp' : Sp} (F : FnG P w K mg base CX k f fd n ps sp) (h : ∀ vs H Q E, sp' vs H Q E → sp vs H Q E) : FnG P w K mg base CX k f fd n ps sp' :=
  ⟨F.num, fun vs H Q E q => F.len vs H Q E (h _ _ _ _ q), fun A outer s H ar us vs Q E hu hr e0 hb r q => F.go A outer s H ar us vs Q E hu hr e0 hb r (h _ _ _ _ q)⟩
end IP
namespace IP
open PySem PySem.Spec PyProof.Rows L2

/-! ### a closed run in parts -/
noncomputable def finD (o : Out Fl) (n : Nat) : Out Val := match o with
  | .ok (.nx _) S' => leave n (.dat .none) S'
  | .ok (.rt v) S' => leave n v S'
  | .exc c fs S' => .exc c fs S'
  | .err => .err
theorem callN_at {P : List (Option FD)} {W : Option Nat} {k f : Nat} {vs : List Val} {S : Store} {d : FD} (h : P[f]? = some (some d)) (hl : vs.length = d.n) : callN P W (k + 1) f vs S = finD (evSs W (callN P W k) d.body (vs.map some ++ List.replicate (d.m - d.n) none) S) S.length := by
  simp only [callN, h, hl, if_true]
  rfl
def okNx (m : Nat) : Out Fl → Bool
  | .ok (.nx s) [] => s.length == m
  | _ => false
theorem okNx_ {m : Nat} {o : Out Fl} (h : okNx m o = true) : ∃ s, s.length = m ∧ o = .ok (.nx s) [] := by
  unfold okNx at h
  split at h
  · exact ⟨_, by simpa using h, rfl⟩
  · cases h
theorem forL_all {m : Nat} {f : PyData → Env → Store → Out Fl} : ∀ {xs : List PyData}, (∀ (i : Nat) (x : PyData), xs[i]? = some x → ∀ s : Env, s.length = m → okNx m (f x s []) = true) → ∀ s : Env, s.length = m → ∃ s', s'.length = m ∧ forL f xs s [] = .ok (.nx s') []
  | [], _, s, hs => ⟨s, hs, rfl⟩
  | x :: xs, h, s, hs => by
    obtain ⟨s1, h1, h2⟩ := okNx_ (h 0 x rfl s hs)
    obtain ⟨s2, h3, h4⟩ := forL_all (xs := xs) (fun i y e => h (i + 1) y (by simpa using e)) s1 h1
    refine ⟨s2, h3, ?_⟩
    unfold forL
    rw [h2]
    exact h4
def listOf : Out Val → List PyData
  | .ok (.dat (.list xs)) _ => xs
  | _ => []
noncomputable def stepF (W : Option Nat) (cf : CallF) (pt : Pt) (body : List IS) (x : PyData) (s : Env) (S : Store) : Out Fl := match bindPt pt (.dat x) s with
  | some s2 => evSs W cf body s2 S
  | none => .err
theorem for_part {W : Option Nat} {cf : CallF} {pt : Pt} {it : IE} {body rest : List IS} {m : Nat} {xs : List PyData} {o : Out Fl} (s : Env) (hs : s.length = m) (h1 : ∀ s : Env, s.length = m → evE cf it s [] = .ok (.dat (.list xs)) [])
    (hl : ∀ (i : Nat) (x : PyData), xs[i]? = some x → ∀ s : Env, s.length = m → okNx m (stepF W cf pt body x s []) = true) (hr : ∀ s : Env, s.length = m → evSs W cf rest s [] = o) : evSs W cf (.for_ pt it body :: rest) s [] = o := by
  simp only [evSs, evS, h1 s hs]
  obtain ⟨s', h2, h3⟩ := forL_all hl s hs
  have e : itO (.ok (.dat (.list xs)) []) = .ok xs [] := rfl
  rw [e, Out.bind_ok]
  refine Eq.trans (congrArg (fun z : Out Fl => z.bind fun r S1 => match r with
    | .nx s' => evSs W cf rest s' S1
    | .rt v => .ok (.rt v) S1) h3) ?_
  exact hr s' h2
theorem ret_part {W : Option Nat} {cf : CallF} {e : IE} {m : Nat} {v : Val} (s : Env) (hs : s.length = m) (h : ∀ s : Env, s.length = m → evE cf e s [] = .ok v []) : evSs W cf [.ret e] s [] = .ok (.rt v) [] := by
  simp only [evSs, evS, h s hs, Out.bind_ok]
end IP
namespace IP
open PySem PySem.Spec PyProof.Rows L2

/-! ### what a run gives -/
inductive Sat {A : Type} (Q : A → Store → Prop) : Out A → Prop
  | ok {a : A} {S : Store} : Q a S → Sat Q (.ok a S)
abbrev Out.sat {A : Type} (o : Out A) (Q : A → Store → Prop) : Prop := Sat Q o
section
variable {A B : Type} {o : Out A} {f : A → Store → Out B} {Q Q' : A → Store → Prop} {R : B → Store → Prop}
theorem sat_ok {a : A} {S : Store} (h : Q a S) : (Out.ok a S).sat Q := .ok h
theorem sat_ex (h : o.sat Q) : ∃ a S, o = .ok a S ∧ Q a S := by
  cases h with
  | ok h => exact ⟨_, _, rfl, h⟩
theorem sat_bind (h : o.sat fun a S => (f a S).sat R) : (o.bind f).sat R := by
  obtain ⟨a, S, rfl, h'⟩ := sat_ex h
  exact h'
theorem sat_mono (h : o.sat Q) (k : ∀ a S, Q a S → Q' a S) : o.sat Q' := by
  obtain ⟨a, S, rfl, h'⟩ := sat_ex h
  exact .ok (k a S h')
theorem sat_then (h : o.sat Q) (k : ∀ a S, Q a S → (f a S).sat R) : (o.bind f).sat R := sat_bind (sat_mono h k)
theorem sat_eq {a : A} {S : Store} (e : o = .ok a S) (h : Q a S) : o.sat Q := by rw [e]; exact .ok h
theorem eq_sat {a : A} {S : Store} (h : o.sat fun b S' => b = a ∧ S' = S) : o = .ok a S := by
  obtain ⟨b, S', e, rfl, rfl⟩ := sat_ex h
  exact e
theorem sat_nox (h : o.sat Q) : o.nox.sat Q := by
  obtain ⟨a, S, rfl, h'⟩ := sat_ex h
  exact .ok h'
end
/-! leaving a def -/
@[simp] theorem finD_nx {s : Env} {S : Store} : finD (.ok (.nx s) S) S.length = .ok (.dat .none) S := by
  simp [finD, leave]
@[simp] theorem finD_rt {v : Val} {S : Store} : finD (.ok (.rt v) S) S.length = .ok v S := by
  simp [finD, leave]
theorem leave_sat {v : Val} {n : Nat} {S : Store} {Q : Val → Store → Prop} (h1 : Q v S) (h2 : Q v (S.take n)) : (leave n v S).sat Q := by
  unfold leave
  split
  · exact .ok h1
  · split
    · exact .ok h2
    · exact .ok h1
def retOf : Fl → Val
  | .nx _ => .dat .none
  | .rt v => v
theorem finD_sat {o : Out Fl} {n : Nat} {Q : Val → Store → Prop} (h : o.sat fun r S => Q (retOf r) S ∧ Q (retOf r) (S.take n)) : (finD o n).sat Q := by
  obtain ⟨r, S, rfl, h'⟩ := sat_ex h
  cases r <;> exact leave_sat h'.1 h'.2
theorem call_sat {P : List (Option FD)} {W : Option Nat} {k f : Nat} {vs : List Val} {S : Store} {d : FD} {Q : Val → Store → Prop} (h : P[f]? = some (some d)) (hl : vs.length = d.n)
    (b : (evSs W (callN P W k) d.body (vs.map some ++ List.replicate (d.m - d.n) none) S).sat fun r S' => Q (retOf r) S' ∧ Q (retOf r) (S'.take S.length)) : (callN P W (k + 1) f vs S).sat Q := by
  rw [callN_at h hl]
  exact finD_sat b
/-! loops -/
theorem for_inv {f : PyData → Env → Store → Out Fl} {Q : Fl → Store → Prop} (I : Nat → Env → Store → Prop) (xs : List PyData) {s : Env} {S : Store} (h0 : I 0 s S)
    (st : ∀ (i : Nat) (x : PyData) (s : Env) (S : Store), xs[i]? = some x → I i s S → (f x s S).sat fun r S' => ∃ s', r = .nx s' ∧ I (i + 1) s' S') (fin : ∀ s S, I xs.length s S → Q (.nx s) S) : (forL f xs s S).sat Q := by
  induction xs generalizing s S I with
  | nil => exact .ok (fin _ _ h0)
  | cons x xs ih =>
    unfold forL
    refine sat_then (st 0 x s S rfl h0) ?_
    rintro r S1 ⟨s', rfl, h1⟩
    refine ih (fun i => I (i + 1)) h1 (fun i y s S e h => st (i + 1) y s S (by simpa using e) h) ?_
    intro s S h
    exact fin s S h
theorem comp_inv {A : Type} {f : PyData → Store → Out (Option PyData)} {Q : List PyData → Store → Prop} (I : Nat → List PyData → Store → Prop) (xs : List PyData) {S : Store} (h0 : I 0 [] S)
    (st : ∀ (i : Nat) (x : PyData) (acc : List PyData) (S : Store), xs[i]? = some x → I i acc S → (f x S).sat fun o S' => I (i + 1) (acc ++ consO o []) S') (fin : ∀ ys S, I xs.length ys S → Q ys S) : (compL f xs S).sat Q := by
  suffices H : ∀ (xs : List PyData) (I : Nat → List PyData → Store → Prop) (acc : List PyData) (S : Store) (Q : List PyData → Store → Prop), I 0 acc S →
      (∀ (i : Nat) (x : PyData) (acc : List PyData) (S : Store), xs[i]? = some x → I i acc S → (f x S).sat fun o S' => I (i + 1) (acc ++ consO o []) S') → (∀ ys S, I xs.length (acc ++ ys) S → Q ys S) → (compL f xs S).sat Q from
    H xs I [] S Q h0 st (fun ys S h => fin ys S (by simpa using h))
  clear h0 st fin I S Q xs
  intro xs
  induction xs with
  | nil =>
    intro I acc S Q h0 st fin
    exact .ok (fin [] S (by simpa using h0))
  | cons x xs ih =>
    intro I acc S Q h0 st fin
    unfold compL
    refine sat_then (st 0 x acc S rfl h0) ?_
    intro o S1 h1
    refine sat_bind (ih (fun i => I (i + 1)) (acc ++ consO o []) S1 _ h1 (fun i y a S e h => st (i + 1) y a S (by simpa using e) h) ?_)
    intro ys S2 h2
    refine .ok (fin _ _ ?_)
    cases o with
    | none => simpa [consO] using h2
    | some y => simpa [consO] using h2
theorem comp_map {A : Type} {f : PyData → Store → Out (Option PyData)} {h g : A → PyData} {S : Store} : ∀ {l : List A}, (∀ a, a ∈ l → f (h a) S = .ok (some (g a)) S) → compL f (l.map h) S = .ok (l.map g) S
  | [], _ => rfl
  | a :: l, k => by
    rw [List.map_cons, List.map_cons]
    unfold compL
    rw [k a List.mem_cons_self, Out.bind_ok, comp_map fun b hb => k b (List.mem_cons_of_mem _ hb)]
    rfl
theorem comp_filter {A : Type} {f : PyData → Store → Out (Option PyData)} {h g : A → PyData} {c : A → Bool} {S : Store} : ∀ {l : List A}, (∀ a, a ∈ l → f (h a) S = .ok (if c a = true then some (g a) else none) S) → compL f (l.map h) S = .ok ((l.filter c).map g) S
  | [], _ => rfl
  | a :: l, k => by
    rw [List.map_cons]
    unfold compL
    rw [k a List.mem_cons_self, Out.bind_ok, comp_filter fun b hb => k b (List.mem_cons_of_mem _ hb)]
    cases e : c a with
    | true => simp [e, consO]
    | false => simp [e, consO]
/-! values by their data -/
@[simp] theorem lookF_dat {S : Store} {p : PyData} : lookF S (.dat p) = some p := rfl
@[simp] theorem look_dat {S : Store} {p : PyData} : look S (.dat p) = some p := rfl
@[simp] theorem dats_nil : dats [] = some [] := rfl
@[simp] theorem dats_cons {p : PyData} {vs : List Val} : dats (.dat p :: vs) = (dats vs).map (p :: ·) := rfl
theorem dats_map {A : Type} {g : A → PyData} : ∀ l : List A, dats (l.map fun a => .dat (g a)) = some (l.map g)
  | [] => rfl
  | a :: l => by rw [List.map_cons, dats_cons, dats_map l]; rfl
@[simp] theorem boolsOf_map {A : Type} {c : A → Bool} : ∀ l : List A, boolsOf (l.map fun a => PyData.bool (c a)) = some (l.map c)
  | [] => rfl
  | a :: l => by
    show (boolsOf (l.map fun a => PyData.bool (c a))).map (c a :: ·) = _
    rw [boolsOf_map l]
    rfl
@[simp] theorem intsOf_map {A : Type} {c : A → Int} : ∀ l : List A, intsOf (l.map fun a => PyData.int (c a)) = some (l.map c)
  | [] => rfl
  | a :: l => by
    show (intsOf (l.map fun a => PyData.int (c a))).map (c a :: ·) = _
    rw [intsOf_map l]
    rfl
theorem at_nat {A : Type} {l : List A} {i : Nat} {a : A} (h : l[i]? = some a) : L2.atI l (i : Int) = some a := by
  have hl : i < l.length := (List.getElem?_eq_some_iff.mp h).1
  unfold L2.atI L2.ixN
  rw [if_pos (by omega), if_pos (by omega)]
  simpa using h
@[simp] theorem at_0 {A : Type} {a : A} {l : List A} : L2.atI (a :: l) 0 = some a := at_nat (i := 0) rfl
@[simp] theorem at_1 {A : Type} {a b : A} {l : List A} : L2.atI (a :: b :: l) 1 = some b := at_nat (i := 1) rfl
@[simp] theorem at_2 {A : Type} {a b c : A} {l : List A} : L2.atI (a :: b :: c :: l) 2 = some c := at_nat (i := 2) rfl
@[simp] theorem at_3 {A : Type} {a b c d : A} {l : List A} : L2.atI (a :: b :: c :: d :: l) 3 = some d := at_nat (i := 3) rfl
theorem ix_nat {n i : Nat} (h : i < n) : L2.ixN n (i : Int) = some i := by
  unfold L2.ixN
  rw [if_pos (by omega), if_pos (by omega)]
  simp
/-! the evaluator's small steps, one by one -/
section
variable {xs ys : List PyData} {i j : Int} {a b : PyData} {x y : Str} {p q : Bool} {lo hi : Option Int}
theorem bf_len_t : bfP .len [.tuple xs] = some (.int xs.length) := rfl
theorem bf_len_l : bfP .len [.list xs] = some (.int xs.length) := rfl
theorem bf_abs : bfP .abs [.int i] = some (.int (if i < 0 then -i else i)) := rfl
theorem bf_min2 : bfP .min2 [.int i, .int j] = some (.int (if j < i then j else i)) := rfl
theorem bf_max2 : bfP .max2 [.int i, .int j] = some (.int (if j > i then j else i)) := rfl
theorem bf_int_b : bfP .int [.bool p] = some (.int (if p = true then 1 else 0)) := rfl
theorem bf_repr : bfP .repr [a] = if repOk a = true then some (.str a.shown) else none := rfl
theorem bf_list_l : bfP .list [.list xs] = some (.list xs) := rfl
theorem bf_list_t : bfP .list [.tuple xs] = some (.list xs) := rfl
theorem bf_tuple_l : bfP .tuple [.list xs] = some (.tuple xs) := rfl
theorem bf_tuple_t : bfP .tuple [.tuple xs] = some (.tuple xs) := rfl
theorem bf_all : bfP .all [.list xs] = (boolsOf xs).map fun bs => .bool (bs.all id) := rfl
theorem bf_any : bfP .any [.list xs] = (boolsOf xs).map fun bs => .bool (bs.any id) := rfl
theorem bf_sum : bfP .sum [.list xs] = (intsOf xs).map fun ns => .int ns.sum := rfl
theorem bf_isi {t : TK} : bfP (.isi t) [a] = some (.bool (isTy t a)) := rfl
theorem bin_add : binP .add (.int i) (.int j) = some (.int (i + j)) := rfl
theorem bin_sub : binP .sub (.int i) (.int j) = some (.int (i - j)) := rfl
theorem bin_mul : binP .mul (.int i) (.int j) = if mulOk i j = true then some (.int (i * j)) else none := rfl
theorem bin_fdv : binP .fdv (.int i) (.int j) = if divOk j = true then some (.int (i.fdiv j)) else none := rfl
theorem bin_mod : binP .mod (.int i) (.int j) = if j ≠ 0 then some (.int (i.fmod j)) else none := rfl
theorem bin_pow : binP .pow (.int i) (.int j) = if 0 ≤ j ∧ j ≤ 1000000 ∧ i.natAbs < 2 ^ 64 then some (.int (i ^ j.toNat)) else none := rfl
theorem bin_add_t : binP .add (.tuple xs) (.tuple ys) = if xs.length + ys.length ≤ sizeLine then some (.tuple (xs ++ ys)) else none := rfl
theorem bin_add_l : binP .add (.list xs) (.list ys) = if xs.length + ys.length ≤ sizeLine then some (.list (xs ++ ys)) else none := rfl
theorem bin_add_s : binP .add (.str x) (.str y) = if x.length + y.length ≤ sizeLine then some (.str (x ++ y)) else none := rfl
theorem bin_mul_t : binP .mul (.tuple xs) (.int i) = if -1000 ≤ i ∧ i ≤ 1000 ∧ xs.length ≤ 1000 then some (.tuple (List.replicate i.toNat xs).flatten) else none := rfl
theorem cmpP_eq : cmpP .eq a b = eqO (eqP a b) (eqT0 a b) := rfl
theorem eqO_s {r : Bool} {o : Option Bool} : eqO (some r) o = some r := rfl
theorem cmpP_ne : cmpP .ne a b = (eqP a b).map (!·) := rfl
theorem cmpP_lt : cmpP .lt (.int i) (.int j) = some (decide (i < j)) := rfl
theorem cmpP_le : cmpP .le (.int i) (.int j) = some (decide (i ≤ j)) := rfl
theorem cmpP_gt : cmpP .gt (.int i) (.int j) = some (decide (j < i)) := rfl
theorem cmpP_ge : cmpP .ge (.int i) (.int j) = some (decide (j ≤ i)) := rfl
theorem cmpP_in : cmpP .inn a b = inP a b := rfl
theorem cmpP_nin : cmpP .nin a b = (inP a b).map (!·) := rfl
theorem eqP_int : eqP (.int i) (.int j) = some (decide (i = j)) := rfl
theorem eqP_str : eqP (.str x) (.str y) = some (decide (x = y)) := rfl
theorem idx_t : idxP (.tuple xs) (.int i) = L2.atI xs i := rfl
theorem idx_l : idxP (.list xs) (.int i) = L2.atI xs i := rfl
theorem sli_t : sliP (.tuple xs) lo hi = some (.tuple (cutP xs lo hi)) := rfl
theorem sli_l : sliP (.list xs) lo hi = some (.list (cutP xs lo hi)) := rfl
theorem rev_t : revP (.tuple xs) = some (.tuple xs.reverse) := rfl
theorem rev_l : revP (.list xs) = some (.list xs.reverse) := rfl
theorem items_t : itemsP (.tuple xs) = some xs := rfl
theorem items_l : itemsP (.list xs) = some xs := rfl
theorem seq_t : seqP (.tuple xs) = some xs := rfl
theorem seq_l : seqP (.list xs) = some xs := rfl
theorem bools_nil : boolsOf [] = some [] := rfl
theorem bools_cons : boolsOf (.bool p :: xs) = (boolsOf xs).map (p :: ·) := rfl
theorem it_ok {S : Store} : itO (.ok (.dat a) S) = match itemsP a with
  | some xs => .ok xs S
  | none => .err := rfl
theorem datb_ : datb (.dat (.bool p)) = some p := rfl
theorem cond_t {A : Type} {u v : A} : (if true = true then u else v) = u := rfl
theorem cond_f {A : Type} {u v : A} : (if false = true then u else v) = v := rfl
theorem lookF_lst {S : Store} {l : Nat} (h : S[l]? = some (.lst xs)) : lookF S (.ref l) = some (.list xs) := by
  simp only [lookF]
  rw [h]
theorem lookF_frz {S : Store} {l : Nat} (h : S[l]? = some (.frz xs)) : lookF S (.ref l) = some (.list xs) := by
  simp only [lookF]
  rw [h]
end
/-! slices -/
theorem cut_all {A : Type} {l : List A} : cutP l none none = l := by
  unfold cutP
  simp [HT.sIx]
theorem cut_take {A : Type} {l : List A} {n : Nat} : cutP l none (some (n : Int)) = l.take n := by
  unfold cutP
  rw [HT.sIx_none, HT.sIx_nat]
  simp
theorem cut_drop {A : Type} {l : List A} {n : Nat} : cutP l (some (n : Int)) none = l.drop n := by
  unfold cutP
  rw [HT.sIx_none, HT.sIx_nat]
  by_cases h : n ≤ l.length
  · rw [Nat.min_eq_left h, List.take_of_length_le (by rw [List.length_drop]; exact Nat.le_refl _)]
  · rw [Nat.min_eq_right (by omega), List.drop_eq_nil_of_le (by omega : l.length ≤ n), List.drop_length]
    simp
/-! sizes -/
theorem log2_le {x a : Nat} (h : x < 2 ^ a) : x.log2 ≤ a := by
  by_cases h0 : x = 0
  · subst h0
    simp
  · exact Nat.le_of_lt ((Nat.log2_lt h0).mpr h)
theorem mul_ok {i j : Int} {a b : Nat} (h1 : i.natAbs < 2 ^ a) (h2 : j.natAbs < 2 ^ b) (h : a + b < 1000000) : mulOk i j = true := by
  unfold mulOk
  have := log2_le h1
  have := log2_le h2
  exact decide_eq_true (by omega)
theorem div_ok {j : Int} (h1 : 0 < j) (h2 : j < 2 ^ 62) : divOk j = true := by
  unfold divOk
  rw [Bool.and_eq_true]
  refine ⟨decide_eq_true (by omega), decide_eq_true ?_⟩
  have : j.natAbs < 2 ^ 62 := by omega
  have := log2_le this
  omega
/-! what a thing's text is long at the most -/
structure Rk (d n : Nat) (p : PyData) : Prop where
  sh : p.showable = true
  dp : p.depth ≤ d
  ln : p.shown.length ≤ n
theorem Rk.mono {d d' n n' : Nat} {p : PyData} (h : Rk d n p) (hd : d ≤ d') (hn : n ≤ n') : Rk d' n' p := ⟨h.sh, Nat.le_trans h.dp hd, Nat.le_trans h.ln hn⟩
theorem Rk.ok {d n : Nat} {p : PyData} (h : Rk d n p) (h1 : d ≤ 64) (h2 : n ≤ 2 ^ 24) : repOk p = true := by
  unfold repOk
  rw [h.sh, decide_eq_true (Nat.le_trans h.dp h1), decide_eq_true (show p.shown.length ≤ sizeLine from Nat.le_trans h.ln h2)]
  rfl
theorem rk_int {i : Int} {a : Nat} (h : i.natAbs < 2 ^ a) (ha : a ≤ 1900) : Rk 0 (a + 3) (.int i) := by
  have hl := log2_le h
  refine ⟨decide_eq_true (show i.natAbs.log2 < 1920 by omega), Nat.le_refl _, ?_⟩
  show (Str.ofString (toString i)).length ≤ a + 3
  rw [PySem.ofString_length]
  have := int_text_length_le (a := i) (k := a + 1) (by omega) (by omega)
  omega
theorem rk_bool {b : Bool} : Rk 0 5 (.bool b) := ⟨rfl, Nat.le_refl _, by cases b <;> decide⟩
theorem rk_none : Rk 0 5 .none := ⟨rfl, Nat.le_refl _, by decide⟩
theorem rk_all {d n : Nat} : ∀ {xs : List PyData}, (∀ x, x ∈ xs → Rk d n x) → PyData.showableAll xs = true ∧ PyData.depthAll xs ≤ d ∧ piled (PyData.shownAll xs) ≤ xs.length * (n + 2) ∧ (PyData.shownAll xs).length = xs.length
  | [], _ => ⟨rfl, Nat.zero_le _, Nat.zero_le _, rfl⟩
  | x :: xs, h => by
    obtain ⟨h1, h3, h4, h5⟩ := rk_all (xs := xs) fun y hy => h y (List.mem_cons_of_mem _ hy)
    have hx := h x List.mem_cons_self
    refine ⟨?_, ?_, ?_, ?_⟩
    · simp only [PyData.showableAll, hx.sh, h1, Bool.and_self]
    · simp only [PyData.depthAll]
      exact Nat.max_le.mpr ⟨hx.dp, h3⟩
    · simp only [PyData.shownAll, piled_cons, List.length_cons, Nat.succ_mul]
      have := hx.ln
      omega
    · simp only [PyData.shownAll, List.length_cons, h5]
theorem join_le (ts : List Str) : (Str.join ", " ts).length ≤ piled ts := by
  by_cases h : ts = []
  · subst h
    exact Nat.le_refl _
  · have := join_length_add ts h
    omega
theorem rk_tup {d n : Nat} {xs : List PyData} (h : ∀ x, x ∈ xs → Rk d n x) : Rk (d + 1) (xs.length * (n + 2) + 3) (.tuple xs) := by
  obtain ⟨h1, h3, h4, h5⟩ := rk_all h
  refine ⟨by simpa only [PyData.showable] using h1, by simp only [PyData.depth]; omega, ?_⟩
  show (tupleText (PyData.shownAll xs)).length ≤ _
  unfold tupleText
  rw [strLen_append, strLen_append]
  have e1 : ((("(" : String) : Str)).length = 1 := rfl
  have e3 : (((if (PyData.shownAll xs).length == 1 then ",)" else ")" : String) : Str)).length ≤ 2 := by split <;> decide
  have := join_le (PyData.shownAll xs)
  omega
theorem text_le : ∀ (ts : List Str) (k : Nat) (acc : Str), (textFrom k acc ts).length ≤ acc.length + piled ts
  | [], k, acc => by simp [textFrom, piled]
  | t :: ts, k, acc => by
    have ih := text_le ts (k + 1) (acc ++ (if k > 0 then ", " else "" : String) ++ t)
    have e : (acc ++ (if k > 0 then ", " else "" : String) ++ t).length = acc.length + (if k > 0 then 2 else 0) + t.length := by
      rw [strLen_append, strLen_append]
      split <;> rfl
    rw [e] at ih
    unfold textFrom
    rw [piled_cons]
    refine Nat.le_trans ih ?_
    split <;> omega
theorem rk_lst {d n : Nat} {xs : List PyData} (h : ∀ x, x ∈ xs → Rk d n x) : Rk (d + 1) (xs.length * (n + 2) + 3) (.list xs) := by
  obtain ⟨h1, h3, h4, h5⟩ := rk_all h
  refine ⟨by simpa only [PyData.showable] using h1, by simp only [PyData.depth]; omega, ?_⟩
  show (listText (PyData.shownAll xs)).length ≤ _
  unfold listText
  rw [strLen_append]
  have := text_le (PyData.shownAll xs) 0 "["
  have e1 : ((("[" : String) : Str)).length = 1 := rfl
  have e2 : ((("]" : String) : Str)).length = 1 := rfl
  omega
/-! the pen: three numbers in the store -/
structure Pen (n l : Nat) (S : Store) : Prop where
  ex : ∃ a b c : Int, S[l]? = some (.lst [.int a, .int b, .int c]) ∧ 0 ≤ b ∧ b < 2 ^ 31 ∧ 0 ≤ c ∧ c ≤ n
theorem Pen.mono {n m l : Nat} {S : Store} (h : Pen n l S) (hn : n ≤ m) : Pen m l S := by
  obtain ⟨a, b, c, h1, h2, h3, h4, h5⟩ := h.ex
  exact ⟨a, b, c, h1, h2, h3, h4, by omega⟩
theorem Pen.lt {n l : Nat} {S : Store} (h : Pen n l S) : l < S.length := by
  obtain ⟨a, b, c, h1, _⟩ := h.ex
  exact (List.getElem?_eq_some_iff.mp h1).1
/-- all else stays -/
structure Fr (l : Nat) (S S' : Store) : Prop where
  len : S.length ≤ S'.length
  at_ : ∀ m, m < S.length → m ≠ l → S'[m]? = S[m]?
theorem Fr.refl {l : Nat} {S : Store} : Fr l S S := ⟨Nat.le_refl _, fun _ _ _ => rfl⟩
theorem Fr.trans {l : Nat} {S S' S'' : Store} (a : Fr l S S') (b : Fr l S' S'') : Fr l S S'' := ⟨Nat.le_trans a.len b.len, fun m h1 h2 => (b.at_ m (Nat.lt_of_lt_of_le h1 a.len) h2).trans (a.at_ m h1 h2)⟩
theorem Fr.set {l : Nat} {S : Store} {o : Ob} : Fr l S (S.set l o) := ⟨by rw [List.length_set]; exact Nat.le_refl _, fun m _ h2 => List.getElem?_set_ne (Ne.symm h2)⟩
theorem Fr.push {l : Nat} {S : Store} {o : Ob} : Fr l S (S ++ [o]) := ⟨by simp, fun m h1 _ => List.getElem?_append_left h1⟩
theorem Fr.take {l : Nat} {S S' : Store} (a : Fr l S S') : Fr l S (S'.take S.length) := ⟨by rw [List.length_take]; have := a.len; omega, fun m h1 h2 => by rw [List.getElem?_take, if_pos h1]; exact a.at_ m h1 h2⟩
theorem Pen.push {n l : Nat} {S : Store} {o : Ob} (h : Pen n l S) : Pen n l (S ++ [o]) := by
  obtain ⟨a, b, c, h1, h2⟩ := h.ex
  exact ⟨a, b, c, by rw [List.getElem?_append_left h.lt]; exact h1, h2⟩
theorem Pen.take {n l m : Nat} {S : Store} (h : Pen n l S) (hl : l < m) : Pen n l (S.take m) := by
  obtain ⟨a, b, c, h1, h2⟩ := h.ex
  exact ⟨a, b, c, by rw [List.getElem?_take, if_pos hl]; exact h1, h2⟩
theorem Pen.set {n l m : Nat} {S : Store} {o : Ob} (h : Pen n l S) (hm : m ≠ l) : Pen n l (S.set m o) := by
  obtain ⟨a, b, c, h1, h2⟩ := h.ex
  exact ⟨a, b, c, by rw [List.getElem?_set_ne hm]; exact h1, h2⟩
theorem Fr.set_new {l m : Nat} {S S' : Store} {o : Ob} (a : Fr l S S') (hm : S.length ≤ m) : Fr l S (S'.set m o) :=
  ⟨by rw [List.length_set]; exact a.len, fun i h1 h2 => by rw [List.getElem?_set_ne (by omega)]; exact a.at_ i h1 h2⟩
/-! places, lays, leaps -/
def pl (p : Int × Int) : PyData := .tuple [.int p.1, .int p.2]
def lay (l : List (Int × Int)) : PyData := .tuple (l.map pl)
def lp (r : Nat × Nat) : PyData := .tuple [.int (r.1 : Int), .int (r.2 : Int)]
def row (r : List (Nat × Nat)) : PyData := .tuple (r.map lp)
def Bn (n : Nat) (l : List (Int × Int)) : Prop := ∀ p, p ∈ l → p.1.natAbs < 2 ^ n ∧ p.2.natAbs < 2 ^ n
theorem Bn.mono {n m : Nat} {l : List (Int × Int)} (h : Bn n l) (hn : n ≤ m) : Bn m l := fun p hp =>
  ⟨Nat.lt_of_lt_of_le (h p hp).1 (Nat.pow_le_pow_right (by decide) hn), Nat.lt_of_lt_of_le (h p hp).2 (Nat.pow_le_pow_right (by decide) hn)⟩
def bey (p q : Int × Int) : Int × Int := (2 * q.1 - p.1, 2 * q.2 - p.2)
def atL (l : List (Int × Int)) (i : Nat) : Int × Int := l.getD i (0, 0)
def leap (l : List (Int × Int)) (r : Nat × Nat) : List (Int × Int) := l.set r.1 (bey (atL l r.1) (atL l r.2))
/-- a leap of a lay of n tokens -/
def Lp (n : Nat) (r : Nat × Nat) : Prop := r.1 < n ∧ r.2 < n ∧ r.1 ≠ r.2
theorem at_lay {l : List (Int × Int)} {i : Nat} (h : i < l.length) : l[i]? = some (atL l i) := by
  unfold atL
  rw [List.getD_eq_getElem?_getD, List.getElem?_eq_getElem h]
  rfl
theorem at_mem {l : List (Int × Int)} {i : Nat} (h : i < l.length) : atL l i ∈ l := List.mem_of_getElem? (at_lay h)
theorem leap_len {l : List (Int × Int)} {r : Nat × Nat} : (leap l r).length = l.length := List.length_set ..
theorem bey_bd {n : Nat} {p q : Int × Int} (h1 : p.1.natAbs < 2 ^ n ∧ p.2.natAbs < 2 ^ n) (h2 : q.1.natAbs < 2 ^ n ∧ q.2.natAbs < 2 ^ n) : (bey p q).1.natAbs < 2 ^ (n + 2) ∧ (bey p q).2.natAbs < 2 ^ (n + 2) := by
  have e : 2 ^ (n + 2) = 4 * 2 ^ n := by rw [Nat.pow_add]; omega
  rw [e]
  unfold bey
  simp only
  omega
theorem leap_bd {n : Nat} {l : List (Int × Int)} {r : Nat × Nat} (h : Bn n l) (hr : Lp l.length r) : Bn (n + 2) (leap l r) := fun p hp => by
  rcases List.mem_or_eq_of_mem_set hp with hp | rfl
  · exact (h.mono (Nat.le_add_right n 2)) p hp
  · exact bey_bd (h _ (at_mem hr.1)) (h _ (at_mem hr.2.1))
theorem leaps_ok {n : Nat} : ∀ {r : List (Nat × Nat)} {l : List (Int × Int)}, Bn n l → (∀ x, x ∈ r → Lp l.length x) → (r.foldl leap l).length = l.length ∧ Bn (n + 2 * r.length) (r.foldl leap l)
  | [], l, h, _ => ⟨rfl, h⟩
  | x :: r, l, h, hr => by
    have h1 := leaps_ok (n := n + 2) (r := r) (l := leap l x) (leap_bd h (hr x List.mem_cons_self)) fun y hy => by rw [leap_len]; exact hr y (List.mem_cons_of_mem _ hy)
    rw [List.foldl_cons, List.length_cons]
    refine ⟨h1.1.trans leap_len, h1.2.mono (by omega)⟩
theorem rk_pl {n : Nat} {p : Int × Int} (h : p.1.natAbs < 2 ^ n ∧ p.2.natAbs < 2 ^ n) (hn : n ≤ 1900) : Rk 1 (2 * n + 20) (pl p) := by
  refine (rk_tup (d := 0) (n := n + 3) ?_).mono (Nat.le_refl _) (by simp; omega)
  intro x hx
  simp at hx
  rcases hx with rfl | rfl
  · exact rk_int h.1 hn
  · exact rk_int h.2 hn
theorem rk_lay {n : Nat} {l : List (Int × Int)} (h : Bn n l) (hn : n ≤ 1900) : Rk 2 (l.length * (2 * n + 22) + 3) (lay l) := by
  have := rk_tup (d := 1) (n := 2 * n + 20) (xs := l.map pl) ?_
  · rw [List.length_map] at this
    exact this
  · intro x hx
    obtain ⟨p, hp, rfl⟩ := List.mem_map.mp hx
    exact rk_pl (h p hp) hn
theorem rk_row {m : Nat} {r : List (Nat × Nat)} (h : ∀ x, x ∈ r → Lp m x) (hm : m ≤ 100) : Rk 2 (r.length * 40 + 3) (row r) := by
  have := rk_tup (d := 1) (n := 38) (xs := r.map lp) ?_
  · rw [List.length_map] at this
    exact this
  · intro x hx
    obtain ⟨p, hp, rfl⟩ := List.mem_map.mp hx
    have hh := h p hp
    have e : lp p = pl ((p.1 : Int), (p.2 : Int)) := rfl
    rw [e]
    refine (rk_pl (n := 7) ⟨?_, ?_⟩ (by decide)).mono (Nat.le_refl _) (by decide)
    · have := hh.1
      show p.1 < 2 ^ 7
      omega
    · have := hh.2.1
      show p.2 < 2 ^ 7
      omega
end IP
namespace IP
open PySem PySem.Spec PyProof.Rows L2
theorem sat_okI {A : Type} {a : A} {S : Store} {Q : A → Store → Prop} : (Out.ok a S).sat Q = Q a S := propext ⟨fun h => (by cases h with | ok h => exact h), .ok⟩
theorem sat_seq {W : Option Nat} {cf : CallF} {t : IS} {ts : List IS} {s : Env} {S : Store} {Q : Fl → Store → Prop} (h : (evS W cf t s S).sat fun r S1 => match r with
    | .nx s' => (evSs W cf ts s' S1).sat Q
    | .rt v => Q (.rt v) S1) : (evSs W cf (t :: ts) s S).sat Q := by
  simp only [evSs]
  refine sat_then h ?_
  intro r S1 h
  cases r with
  | nx s' => exact h
  | rt v => exact .ok h
theorem sat_nil {W : Option Nat} {cf : CallF} {s : Env} {S : Store} {Q : Fl → Store → Prop} (h : Q (.nx s) S) : (evSs W cf [] s S).sat Q := by
  simp only [evSs]
  exact .ok h
theorem bind_assoc_ {A B C : Type} {o : Out A} {f : A → Store → Out B} {g : B → Store → Out C} : (o.bind f).bind g = o.bind fun a S => (f a S).bind g := by
  cases o <;> rfl
theorem lookF_set {S : Store} {l : Nat} {xs : List PyData} (h : l < S.length) : lookF (S.set l (.lst xs)) (.ref l) = some (.list xs) := lookF_lst (List.getElem?_set_self h)
theorem set_at {S : Store} {l : Nat} {o : Ob} (h : l < S.length) : (S.set l o)[l]? = some o := List.getElem?_set_self h
theorem ix3_0 : L2.ixN 3 0 = some 0 := rfl
theorem ix3_1 : L2.ixN 3 1 = some 1 := rfl
theorem ix3_2 : L2.ixN 3 2 = some 2 := rfl
theorem fm_nat {x m : Int} (h1 : 0 < m) (h2 : m < 2 ^ 62) : (x.fmod m).natAbs < 2 ^ 62 := by
  have := Int.fmod_nonneg_of_pos x h1
  have := Int.fmod_lt_of_pos x h1
  omega
theorem fm_ge {x m : Int} (h1 : 0 < m) : 0 ≤ x.fmod m := Int.fmod_nonneg_of_pos x h1
theorem fm_lt {x m : Int} (h1 : 0 < m) : x.fmod m < m := Int.fmod_lt_of_pos x h1
theorem call_pen {P : List (Option FD)} {W : Option Nat} {k f n l : Nat} {vs : List Val} {S : Store} {d : FD} {R : Val → Prop} (h : P[f]? = some (some d)) (hl : vs.length = d.n) (hp : l < S.length)
    (b : (evSs W (callN P W k) d.body (vs.map some ++ List.replicate (d.m - d.n) none) S).sat fun r S' => R (retOf r) ∧ Pen n l S' ∧ Fr l S S') : (callN P W (k + 1) f vs S).sat fun v S' => R v ∧ Pen n l S' ∧ Fr l S S' :=
  call_sat h hl (sat_mono b fun r S' ⟨h1, h2, h3⟩ => ⟨⟨h1, h2, h3⟩, h1, h2.take hp, h3.take⟩)
def Spn (far : Int) (p : Int × Int) : Prop := -far ≤ p.1 ∧ p.1 ≤ far ∧ -far ≤ p.2 ∧ p.2 ≤ far
end IP
namespace IP
open PySem PySem.Spec PyProof.Rows L2
theorem rg_len {j : Int} : (intRange 0 j).length = j.toNat := by
  unfold intRange
  simp
theorem rg_at {j : Int} {i : Nat} {x : PyData} (e : (intRange 0 j)[i]? = some x) : x = .int (i : Int) ∧ i < j.toNat := by
  have hl := (List.getElem?_eq_some_iff.mp e).1
  rw [rg_len] at hl
  refine ⟨?_, hl⟩
  unfold intRange at e
  rw [Int.sub_zero, List.getElem?_map, List.getElem?_range hl] at e
  simpa using e.symm
def clip (far x : Int) : Int := if (if x < far then x else far) > 0 - far then (if x < far then x else far) else 0 - far
theorem clip_sp {far x : Int} (h : 0 ≤ far) : -far ≤ clip far x ∧ clip far x ≤ far := by
  unfold clip
  split <;> split <;> omega
def spc (far : Int) (p : Int × Int) : Int × Int := (clip far p.1, clip far p.2)
theorem spc_sp {far : Int} {p : Int × Int} (h : 0 ≤ far) : Spn far (spc far p) := by
  have := clip_sp (x := p.1) h
  have := clip_sp (x := p.2) h
  unfold Spn spc
  simp only
  omega
/-- a place is put at the end of a list that is made -/
structure Mk1 (n l fl : Nat) (far : Int) (S : Store) (i : Nat) (acc : List (Int × Int)) (S' : Store) : Prop where
  at_ : S'[fl]? = some (.lst (acc.map pl))
  len : acc.length = i
  sp : ∀ p, p ∈ acc → Spn far p
  pen : Pen n l S'
  fr : Fr l S S'
theorem Mk1.add {n m l fl : Nat} {far : Int} {S S' : Store} {i : Nat} {acc : List (Int × Int)} (h : Mk1 n l fl far S i acc S') (hn : n ≤ m) (h0 : 0 ≤ far) (hf : S.length ≤ fl) (hl : fl ≠ l) (p : Int × Int) : Mk1 m l fl far S (i + 1) (acc ++ [spc far p]) (S'.set fl (.lst (acc.map pl ++ [.tuple [.int (clip far p.1), .int (clip far p.2)]]))) := by
  have hlt : fl < S'.length := (List.getElem?_eq_some_iff.mp h.at_).1
  refine ⟨?_, by rw [List.length_append, h.len]; rfl, fun q hq => ?_, (h.pen.mono hn).set hl, h.fr.set_new hf⟩
  · rw [set_at hlt, List.map_append]
    rfl
  · rcases List.mem_append.mp hq with hq | hq
    · exact h.sp q hq
    · rw [List.mem_singleton.mp hq]
      exact spc_sp h0
theorem Mk1.step {n m l fl : Nat} {far : Int} {S S' S'' : Store} {i : Nat} {acc : List (Int × Int)} (h : Mk1 n l fl far S i acc S') (hl : fl ≠ l) (p : Pen m l S'') (f : Fr l S' S'') : Mk1 m l fl far S i acc S'' :=
  ⟨(f.at_ fl (List.getElem?_eq_some_iff.mp h.at_).1 hl).trans h.at_, h.len, h.sp, p, h.fr.trans f⟩
theorem fd_nat {x m : Int} (h : 0 < m) {b : Nat} (hx : x.natAbs < 2 ^ b) : (x.fdiv m).natAbs < 2 ^ (b + 1) := by
  have e := Int.mul_fdiv_add_fmod x m
  have h1 := fm_ge (x := x) h
  have h2 := fm_lt (x := x) h
  have e2 : 2 ^ (b + 1) = 2 * 2 ^ b := by rw [Nat.pow_succ]; omega
  rw [e2]
  generalize x.fmod m = r at *
  generalize x.fdiv m = q at *
  have k : q.natAbs ≤ x.natAbs := by
    by_cases hq : 0 ≤ q
    · have := Int.mul_le_mul_of_nonneg_right (show 1 ≤ m by omega) hq
      generalize m * q = mq at *
      omega
    · have a1 := Int.mul_le_mul_of_nonneg_left (show q ≤ -1 by omega) (show 0 ≤ m by omega)
      have e3 : m * (q + 1) = m * q + m := by rw [Int.mul_add, Int.mul_one]
      by_cases hc : x ≤ q
      · generalize m * q = mq at *
        omega
      · have a2 := Int.mul_le_mul_of_nonneg_left (show q + 1 ≤ x by omega) (show 0 ≤ m by omega)
        have a3 := Int.mul_le_mul_of_nonpos_right (show 1 ≤ m by omega) (show x ≤ 0 by
          generalize m * q = mq at *
          omega)
        generalize m * q = mq at *
        generalize m * x = mx at *
        omega
  omega
end IP
namespace IP
def forBody (l : List IS) (i : Nat) : List IS := match l[i]? with
  | some (.for_ _ _ b) => b
  | some (.whl _ b) => b
  | _ => []
end IP
namespace IP
open PySem PySem.Spec PyProof.Rows L2
section
variable {W : Option Nat} {cf : CallF} {pt : Pt} {it a b : IE} {body : List IS} {s : Env} {S S1 S2 : Store} {xs : List PyData} {i j : Int} {Q : Fl → Store → Prop}
def stepC (cf : CallF) (elt : IE) (pt : Pt) (ifs : List IE) (own : List Nat) (s : Env) (y : PyData) (S2 : Store) : Out (Option PyData) := Out.nox (match bindPt pt (.dat y) (wipeE s own) with
  | some s' => (evAll cf ifs s' S2).bind fun b S3 => if b = true then (evE cf elt s' S3).bind fun v S4 => match v with
    | .dat p => .ok (some p) S4
    | _ => .err else .ok none S3
  | none => .err)
theorem ev_comp {elt : IE} {ifs : List IE} {own : List Nat} {ys : List PyData} (e : itO (evE cf it s S) = .ok xs S1) (hz : xs.length < sizeLine) (h : compL (stepC cf elt pt ifs own s) xs S1 = .ok ys S2) : evE cf (.comp elt pt it ifs own) s S = .ok (.dat (.list ys)) S2 := by
  simp only [evE, e, Out.bind_ok, hz, if_true]
  exact congrArg (fun o : Out (List PyData) => o.bind fun ys S5 => Out.ok (Val.dat (.list ys)) S5) h
theorem sat_comp {elt : IE} {ifs : List IE} {own : List Nat} {R : Val → Store → Prop} (e : itO (evE cf it s S) = .ok xs S1) (hz : xs.length < sizeLine) (h : (compL (stepC cf elt pt ifs own s) xs S1).sat fun ys S2 => R (.dat (.list ys)) S2) : (evE cf (.comp elt pt it ifs own) s S).sat R := by
  simp only [evE, e, Out.bind_ok, hz, if_true]
  exact sat_then h fun ys S2 q => .ok q
theorem sat_for (e : itO (evE cf it s S) = .ok xs S1) (h : (forL (stepF W cf pt body) xs s S1).sat Q) : (evS W cf (.for_ pt it body) s S).sat Q := by
  simp only [evS, e, Out.bind_ok]
  exact h
end
end IP
namespace IP
open PySem PySem.Spec PyProof.Rows L2
theorem call_same {P : List (Option FD)} {W : Option Nat} {k f : Nat} {vs : List Val} {S : Store} {d : FD} {R : Val → Prop} (h : P[f]? = some (some d)) (hl : vs.length = d.n)
    (b : (evSs W (callN P W k) d.body (vs.map some ++ List.replicate (d.m - d.n) none) S).sat fun r S' => S' = S ∧ R (retOf r)) : (callN P W (k + 1) f vs S).sat fun v S' => S' = S ∧ R v :=
  call_sat h hl (sat_mono b fun r S' ⟨h1, h2⟩ => ⟨⟨h1, h2⟩, by rw [h1, List.take_length], h2⟩)
theorem canLay_pairs {A : Type} {h : A → PyData} (hh : ∀ a, (h a).canLay0 = true ∧ (h a).depth ≤ 60) : ∀ ls : List A, PyData.canLayAll0 (ls.map h) = true ∧ PyData.depthAll (ls.map h) ≤ 60
  | [] => ⟨rfl, Nat.zero_le _⟩
  | a :: ls => by
    obtain ⟨h1, h2⟩ := canLay_pairs hh ls
    obtain ⟨h3, h4⟩ := hh a
    exact ⟨by simp only [List.map_cons, PyData.canLayAll0, h1, h3, Bool.and_self], by simp only [List.map_cons, PyData.depthAll]; exact Nat.max_le.mpr ⟨h4, h2⟩⟩
theorem eq_nil {A : Type} {h : A → PyData} (hh : ∀ a, (h a).canLay0 = true ∧ (h a).depth ≤ 60) (ls : List A) : eqP (.list (ls.map h)) (.list []) = some (decide (ls = [])) := by
  obtain ⟨h1, h2⟩ := canLay_pairs hh ls
  have s1 : SeqAt.shaped (.list (ls.map h)) = true := by
    unfold SeqAt.shaped
    simp only [PyData.canLay0, PyData.depth, h1, Bool.true_and]
    exact decide_eq_true (by omega)
  have s2 : SeqAt.shaped (.list []) = true := by decide
  have e : eqP (.list (ls.map h)) (.list []) = if SeqAt.shaped (.list (ls.map h)) = true ∧ SeqAt.shaped (.list []) = true then some (PyData.eqv (.list (ls.map h)) (.list [])) else none := rfl
  rw [e, if_pos ⟨s1, s2⟩]
  cases ls <;> rfl
theorem lp_ok (a : Nat × Nat) : (lp a).canLay0 = true ∧ (lp a).depth ≤ 60 := ⟨rfl, by simp [lp, PyData.depth, PyData.depthAll]⟩
theorem pl_ok (a : Int × Int) : (pl a).canLay0 = true ∧ (pl a).depth ≤ 60 := ⟨rfl, by simp [pl, PyData.depth, PyData.depthAll]⟩
theorem enu_map {A : Type} {h : A → PyData} : ∀ (l : List A) (n : Nat), ((l.map h).zipIdx n).map (fun z => PyData.tuple [.int (z.2 : Int), z.1]) = (l.zipIdx n).map fun z => .tuple [.int (z.2 : Int), h z.1]
  | [], _ => rfl
  | a :: l, n => by
    rw [List.map_cons, List.zipIdx_cons, List.zipIdx_cons, List.map_cons, List.map_cons, enu_map l (n + 1)]
theorem enu_set {l : List (Int × Int)} {i : Nat} {p : Int × Int} : (l.zipIdx.map fun z => if z.2 = i then pl p else pl z.1) = (l.set i p).map pl := by
  apply List.ext_getElem?
  intro j
  rw [List.getElem?_map, List.getElem?_zipIdx, List.getElem?_map, List.getElem?_set]
  by_cases h : i = j
  · subst h
    by_cases h2 : i < l.length
    · rw [List.getElem?_eq_getElem h2]
      simp [h2]
    · rw [List.getElem?_eq_none (by omega)]
      simp [h2]
  · cases q : l[j]? with
    | none => simp [h]
    | some a => simp [h, Ne.symm h]
end IP
namespace IP
open PySem PySem.Spec PyProof.Rows L2
theorem bin_p18 : binP .pow (.int 10) (.int 18) = some (.int 1000000000000000000) := by
  unfold binP
  rfl
theorem idx_pl0 {p : Int × Int} : idxP (pl p) (.int 0) = some (.int p.1) := rfl
theorem idx_pl1 {p : Int × Int} : idxP (pl p) (.int 1) = some (.int p.2) := rfl
theorem idx_lp0 {p : Nat × Nat} : idxP (lp p) (.int 0) = some (.int (p.1 : Int)) := rfl
theorem idx_lp1 {p : Nat × Nat} : idxP (lp p) (.int 1) = some (.int (p.2 : Int)) := rfl
end IP
namespace IP
open PySem PySem.Spec PyProof.Rows L2
theorem bind_nm {i : Nat} {v : Val} {s : Env} : bindPt (.nm i) v s = if i < s.length then some (s.set i (some v)) else none := rfl
theorem bind_tp {ps : List Pt} {xs : List PyData} {s : Env} : bindPt (.tp ps) (.dat (.tuple xs)) s = bindPt.bindPts ps xs s := rfl
theorem bpts_nil {s : Env} : bindPt.bindPts [] [] s = some s := rfl
theorem bpts_cons {p : Pt} {ps : List Pt} {x : PyData} {xs : List PyData} {s : Env} : bindPt.bindPts (p :: ps) (x :: xs) s = match bindPt p (.dat x) s with
    | some s' => bindPt.bindPts ps xs s'
    | none => none := rfl
end IP
namespace IP
open PySem PySem.Spec PyProof.Rows L2
theorem Spn.bn {far : Int} {n : Nat} {L : List (Int × Int)} (h : ∀ p, p ∈ L → Spn far p) (hf : far < 2 ^ n) : Bn n L := fun p hp => by
  obtain ⟨h1, h2, h3, h4⟩ := h p hp
  have e : ((2 ^ n : Nat) : Int) = (2 : Int) ^ n := by simp
  omega
theorem rep_row {x : Nat × Nat} {k : Nat} : (List.replicate k [lp x]).flatten = (List.replicate k x).map lp := by
  rw [List.map_replicate]
  simp
theorem rep_row2 {x y : Nat × Nat} {k : Nat} : (List.replicate k [lp x, lp y]).flatten = (List.replicate k [x, y]).flatten.map lp := by
  rw [List.map_flatten, List.map_replicate]
  rfl
theorem rep_mem {A : Type} {x : A} {k : Nat} {l : List A} (h : x ∈ (List.replicate k l).flatten) : x ∈ l := by
  obtain ⟨m, h1, h2⟩ := List.mem_flatten.mp h
  rw [(List.mem_replicate.mp h1).2] at h2
  exact h2
theorem rk_two {d n : Nat} {a b : PyData} (h1 : Rk d n a) (h2 : Rk d n b) : Rk (d + 1) (2 * (n + 2) + 3) (.tuple [a, b]) := rk_tup (xs := [a, b]) fun x hx => by
  rcases List.mem_cons.mp hx with rfl | hx
  · exact h1
  · rw [List.mem_singleton.mp hx]
    exact h2
theorem rk_two_l {d n : Nat} {a b : PyData} (h1 : Rk d n a) (h2 : Rk d n b) : Rk (d + 1) (2 * (n + 2) + 3) (.list [a, b]) := rk_lst (xs := [a, b]) fun x hx => by
  rcases List.mem_cons.mp hx with rfl | hx
  · exact h1
  · rw [List.mem_singleton.mp hx]
    exact h2
end IP
namespace IP
theorem it_bind {A : Type} {o : Out A} {f : A → Store → Out Val} : itO (o.bind f) = o.bind fun v S => itO (f v S) := by
  cases o <;> rfl
end IP
namespace IP
open PySem PySem.Spec PyProof.Rows L2
theorem sat_it {B : Type} {o : Out Val} {R : Val → Store → Prop} {f : List PyData → Store → Out B} {Q : B → Store → Prop} (h : o.sat R) (k : ∀ v S, R v S → ((itO (.ok v S)).bind f).sat Q) : ((itO o).bind f).sat Q := by
  obtain ⟨v, S, rfl, h'⟩ := sat_ex h
  exact k v S h'
end IP
namespace IP
open PySem PySem.Spec PyProof.Rows L2
theorem fd2 (m : Nat) : (m : Int).fdiv 2 = ((m / 2 : Nat) : Int) := by
  rw [Int.fdiv_eq_ediv_of_nonneg _ (by omega)]
  omega
theorem fm2 (m : Nat) : (m : Int).fmod 2 = ((m % 2 : Nat) : Int) := by
  rw [Int.fmod_eq_emod_of_nonneg _ (by omega)]
  omega
section
variable {A : Type} {a b c d : A}
theorem cut4_3 : cutP [a, b, c, d] none (some (-1)) = [a, b, c] := rfl
theorem cut4_m : cutP [a, b, c, d] (some 1) (some (-1)) = [b, c] := rfl
theorem cut4_to3 : cutP [a, b, c, d] none (some 3) = [a, b, c] := rfl
theorem at4_m : L2.atI [a, b, c, d] (-1) = some d := rfl
end
/-! runs -/
abbrev Rn := Nat × Nat × Nat × Nat
def rn (x : Rn) : PyData := .tuple [.int (x.1 : Int), .int (x.2.1 : Int), .int (x.2.2.1 : Int), .int (x.2.2.2 : Int)]
def rns (r : List Rn) : PyData := .tuple (r.map rn)
structure Rok (n b : Nat) (x : Rn) : Prop where
  h1 : x.1 < n
  h2 : x.2.1 < n
  h3 : x.2.2.1 < n
  h4 : x.1 ≠ x.2.1
  h5 : x.1 ≠ x.2.2.1
  h6 : 0 < x.2.2.2
  h7 : x.2.2.2 < 2 ^ b
theorem Rok.mono {n b c : Nat} {x : Rn} (h : Rok n b x) (hb : b ≤ c) : Rok n c x := ⟨h.h1, h.h2, h.h3, h.h4, h.h5, h.h6, Nat.lt_of_lt_of_le h.h7 (Nat.pow_le_pow_right (by decide) hb)⟩
/-- the place behind a run -/
def runP (p o q : Int × Int) (many : Nat) : Int × Int := (p.1 + ((many / 2 : Nat) : Int) * 2 * (q.1 - o.1), p.2 + ((many / 2 : Nat) : Int) * 2 * (q.2 - o.2))
def runE (p o q : Int × Int) (many : Nat) : Int × Int := if many % 2 = 1 then bey (runP p o q many) o else runP p o q many
def runD (l : List (Int × Int)) (x : Rn) : List (Int × Int) := l.set x.1 (runE (atL l x.1) (atL l x.2.1) (atL l x.2.2.1) x.2.2.2)
theorem runD_len {l : List (Int × Int)} {x : Rn} : (runD l x).length = l.length := List.length_set ..
theorem mul_lt {x y : Int} {a b : Nat} (h1 : x.natAbs < 2 ^ a) (h2 : y.natAbs < 2 ^ b) : (x * y).natAbs < 2 ^ (a + b) := by
  rw [Int.natAbs_mul, Nat.pow_add]
  exact Nat.mul_lt_mul'' h1 h2
theorem runP_one {n b m : Nat} {p o q : Int} (hp : p.natAbs < 2 ^ n) (ho : o.natAbs < 2 ^ n) (hq : q.natAbs < 2 ^ n) (hm : m < 2 ^ b) : (p + ((m / 2 : Nat) : Int) * 2 * (q - o)).natAbs < 2 ^ (n + b + 2) := by
  have h1 : (q - o).natAbs < 2 ^ (n + 1) := by
    rw [Nat.pow_succ]
    omega
  have h2 : (((m / 2 : Nat) : Int) * 2).natAbs < 2 ^ b := by omega
  have h3 := mul_lt h2 h1
  have e1 : 2 ^ (b + (n + 1)) = 2 * 2 ^ (n + b) := by rw [← Nat.pow_succ']; congr 1; omega
  have e2 : 2 ^ (n + b + 2) = 4 * 2 ^ (n + b) := by rw [Nat.pow_add]; omega
  have e3 : 2 ^ n ≤ 2 ^ (n + b) := Nat.pow_le_pow_right (by decide) (by omega)
  generalize ((m / 2 : Nat) : Int) * 2 * (q - o) = z at *
  omega
theorem runP_bn {n b m : Nat} {p o q : Int × Int} (hp : p.1.natAbs < 2 ^ n ∧ p.2.natAbs < 2 ^ n) (ho : o.1.natAbs < 2 ^ n ∧ o.2.natAbs < 2 ^ n) (hq : q.1.natAbs < 2 ^ n ∧ q.2.natAbs < 2 ^ n) (hm : m < 2 ^ b) : (runP p o q m).1.natAbs < 2 ^ (n + b + 2) ∧ (runP p o q m).2.natAbs < 2 ^ (n + b + 2) :=
  ⟨runP_one hp.1 ho.1 hq.1 hm, runP_one hp.2 ho.2 hq.2 hm⟩
theorem runD_bn {n b : Nat} {l : List (Int × Int)} {x : Rn} (h : Bn n l) (hx : Rok l.length b x) : Bn (n + b + 4) (runD l x) := fun p hp => by
  rcases List.mem_or_eq_of_mem_set hp with hp | rfl
  · exact (h.mono (by omega)) p hp
  · have h1 := runP_bn (h _ (at_mem hx.h1)) (h _ (at_mem hx.h2)) (h _ (at_mem hx.h3)) hx.h7
    have ho := h _ (at_mem hx.h2)
    have ho' : (atL l x.2.1).1.natAbs < 2 ^ (n + b + 2) ∧ (atL l x.2.1).2.natAbs < 2 ^ (n + b + 2) := (h.mono (show n ≤ n + b + 2 by omega)) _ (at_mem hx.h2)
    unfold runE
    split
    · exact bey_bd h1 ho'
    · have e : 2 ^ (n + b + 2) ≤ 2 ^ (n + b + 4) := Nat.pow_le_pow_right (by decide) (by omega)
      exact ⟨Nat.lt_of_lt_of_le h1.1 e, Nat.lt_of_lt_of_le h1.2 e⟩
theorem runs_ok {n b : Nat} : ∀ {r : List Rn} {l : List (Int × Int)}, Bn n l → (∀ x, x ∈ r → Rok l.length b x) → (r.foldl runD l).length = l.length ∧ Bn (n + (b + 4) * r.length) (r.foldl runD l)
  | [], l, h, _ => ⟨rfl, h⟩
  | x :: r, l, h, hr => by
    have h1 := runs_ok (n := n + b + 4) (r := r) (l := runD l x) (runD_bn h (hr x List.mem_cons_self)) fun y hy => by rw [runD_len]; exact hr y (List.mem_cons_of_mem _ hy)
    rw [List.foldl_cons, List.length_cons]
    refine ⟨h1.1.trans runD_len, h1.2.mono ?_⟩
    rw [Nat.mul_succ]
    omega
theorem rk_rns {n b : Nat} {r : List Rn} (h : ∀ x, x ∈ r → Rok n b x) (hn : n ≤ 100) (hb : b ≤ 200) : Rk 2 (r.length * 900 + 3) (rns r) := by
  have := rk_tup (d := 1) (n := 898) (xs := r.map rn) ?_
  · rw [List.length_map] at this
    exact this
  · intro x hx
    obtain ⟨p, hp, rfl⟩ := List.mem_map.mp hx
    have hh := h p hp
    have sm : ∀ i : Nat, i < 100 → Rk 0 220 (.int (i : Int)) := fun i hi => (rk_int (a := 7) (by omega) (by omega)).mono (by omega) (by omega)
    have h1 := hh.h1
    have h2 := hh.h2
    have h3 := hh.h3
    have h7 := hh.h7
    refine (rk_tup (d := 0) (n := 220) ?_).mono (by omega) (by simp)
    intro y hy
    simp only [List.mem_cons, List.not_mem_nil, or_false] at hy
    rcases hy with rfl | rfl | rfl | rfl
    · exact sm _ (by omega)
    · exact sm _ (by omega)
    · exact sm _ (by omega)
    · exact (rk_int (a := b) (by omega) (by omega)).mono (by omega) (by omega)
/-! a run is its leaps -/
def alt (x : Rn) (n : Nat) : List (Nat × Nat) := (List.range n).map fun i => (x.1, if i % 2 = 0 then x.2.1 else x.2.2.1)
theorem at_set_ne {l : List (Int × Int)} {i j : Nat} {p : Int × Int} (h : i ≠ j) : atL (l.set i p) j = atL l j := by
  unfold atL
  rw [List.getD_eq_getElem?_getD, List.getElem?_set_ne h, List.getD_eq_getElem?_getD]
theorem at_set_same {l : List (Int × Int)} {i : Nat} {p : Int × Int} (h : i < l.length) : atL (l.set i p) i = p := by
  unfold atL
  rw [List.getD_eq_getElem?_getD, List.getElem?_set_self h]
  rfl
theorem runE_step (p o q : Int × Int) (m : Nat) : bey (runE p o q m) (if m % 2 = 0 then o else q) = runE p o q (m + 1) := by
  unfold runE
  by_cases h : m % 2 = 0
  · have e1 : ¬ m % 2 = 1 := by omega
    have e2 : (m + 1) % 2 = 1 := by omega
    have e3 : (m + 1) / 2 = m / 2 := by omega
    rw [if_pos h, if_neg e1, if_pos e2]
    unfold runP
    rw [e3]
  · have e1 : m % 2 = 1 := by omega
    have e2 : ¬ (m + 1) % 2 = 1 := by omega
    have e3 : (((m + 1) / 2 : Nat) : Int) = ((m / 2 : Nat) : Int) + 1 := by omega
    rw [if_neg h, if_pos e1, if_neg e2]
    unfold runP bey
    rw [e3]
    generalize ((m / 2 : Nat) : Int) = z
    ext
    · simp only [Int.add_mul, Int.mul_sub]
      omega
    · simp only [Int.add_mul, Int.mul_sub]
      omega
theorem runE_zero (p o q : Int × Int) : runE p o q 0 = p := by
  unfold runE runP
  ext <;> simp
theorem alt_ok {l : List (Int × Int)} {x : Rn} (h1 : x.1 < l.length) (h4 : x.1 ≠ x.2.1) (h5 : x.1 ≠ x.2.2.1) : ∀ n, (alt x n).foldl leap l = l.set x.1 (runE (atL l x.1) (atL l x.2.1) (atL l x.2.2.1) n)
  | 0 => by
    rw [runE_zero]
    show l = _
    apply List.ext_getElem?
    intro j
    rw [List.getElem?_set]
    split
    · rename_i e
      subst e
      exact at_lay h1
    · rfl
  | n + 1 => by
    have ih := alt_ok h1 h4 h5 n
    have e : alt x (n + 1) = alt x n ++ [(x.1, if n % 2 = 0 then x.2.1 else x.2.2.1)] := by
      unfold alt
      rw [List.range_succ, List.map_append]
      rfl
    rw [e, List.foldl_append, ih]
    show leap _ _ = _
    unfold leap
    simp only
    rw [at_set_same h1, List.set_set, ← runE_step]
    congr 2
    split
    · rw [at_set_ne h4]
    · rw [at_set_ne h5]
theorem run_leaps {l : List (Int × Int)} {x : Rn} {b : Nat} (h : Rok l.length b x) : (alt x x.2.2.2).foldl leap l = runD l x := alt_ok h.h1 h.h4 h.h5 _
end IP
namespace IP
open PySem PySem.Spec PyProof.Rows L2
theorem bin_p12 : binP .pow (.int 10) (.int 12) = some (.int 1000000000000) := by
  unfold binP
  rfl
theorem eq_nil_nil : eqP (.list []) (.list []) = some true := eq_nil (A := Nat × Nat) (h := lp) lp_ok []
theorem cut_to2 {A : Type} {l : List A} : cutP l none (some 2) = l.take 2 := cut_take (n := 2)
theorem rg_map (n : Nat) : intRange 0 (n : Int) = (List.range n).map fun (i : Nat) => PyData.int (i : Int) := by
  unfold intRange
  simp
def optP : Option Rn → PyData
  | none => .none
  | some x => rn x
theorem opt_filter : ∀ os : List (Option Rn), (os.filter Option.isSome).map optP = (os.filterMap id).map rn
  | [] => rfl
  | none :: os => by
    rw [List.filter_cons, List.filterMap_cons]
    exact opt_filter os
  | some x :: os => by
    rw [List.filter_cons, List.filterMap_cons]
    simp only [Option.isSome_some, if_true, List.map_cons, id_eq]
    rw [opt_filter os]
    rfl
end IP
namespace IP
theorem filt_f {A : Type} {l : List A} : l.filter (fun _ => false) = [] := by simp
end IP
namespace IP
open PySem PySem.Spec PyProof.Rows L2
theorem perm10 {A : Type} {a b : A} : permute [1, 0] [a, b] = some [b, a] := rfl
theorem ap_at {S : Store} {o : Ob} : (S ++ [o])[S.length]? = some o := by simp
theorem ap_set {S : Store} {o o' : Ob} : (S ++ [o]).set S.length o' = S ++ [o'] := by simp
/-- the store with more behind -/
structure Ex (S S' : Store) : Prop where
  len : S.length ≤ S'.length
  at_ : ∀ m, m < S.length → S'[m]? = S[m]?
theorem Ex.refl {S : Store} : Ex S S := ⟨Nat.le_refl _, fun _ _ => rfl⟩
theorem Ex.push {S X : Store} : Ex S (S ++ X) := ⟨by simp, fun m h => List.getElem?_append_left h⟩
theorem Ex.trans {S S' S'' : Store} (a : Ex S S') (b : Ex S' S'') : Ex S S'' := ⟨Nat.le_trans a.len b.len, fun m h => (b.at_ m (Nat.lt_of_lt_of_le h a.len)).trans (a.at_ m h)⟩
theorem Ex.fr {l : Nat} {S S' : Store} (a : Ex S S') : Fr l S S' := ⟨a.len, fun m h _ => a.at_ m h⟩
theorem Ex.take {S S' : Store} (a : Ex S S') : Ex S (S'.take S.length) := ⟨by rw [List.length_take]; have := a.len; omega, fun m h => by rw [List.getElem?_take, if_pos h]; exact a.at_ m h⟩
theorem Ex.pen {n l : Nat} {S S' : Store} (a : Ex S S') (h : Pen n l S) : Pen n l S' := by
  obtain ⟨x, y, z, h1, h2⟩ := h.ex
  exact ⟨x, y, z, by rw [a.at_ l h.lt]; exact h1, h2⟩
theorem call_ex {P : List (Option FD)} {W : Option Nat} {k f : Nat} {vs : List Val} {S : Store} {d : FD} {R : Val → Prop} (h : P[f]? = some (some d)) (hl : vs.length = d.n)
    (b : (evSs W (callN P W k) d.body (vs.map some ++ List.replicate (d.m - d.n) none) S).sat fun r S' => R (retOf r) ∧ Ex S S') : (callN P W (k + 1) f vs S).sat fun v S' => R v ∧ Ex S S' :=
  call_sat h hl (sat_mono b fun r S' ⟨h1, h2⟩ => ⟨⟨h1, h2⟩, h1, h2.take⟩)
mutual
theorem eqv_self : ∀ p : PyData, p.canLay0 = true → PyData.eqv p p = true
  | .none, _ => rfl
  | .bool b, _ => by simp [PyData.eqv]
  | .int i, _ => by simp [PyData.eqv]
  | .str x, _ => by simp [PyData.eqv]
  | .list xs, h => by
    simp only [PyData.canLay0] at h
    simp only [PyData.eqv]
    exact eqv_selfs xs h
  | .tuple xs, h => by
    simp only [PyData.canLay0] at h
    simp only [PyData.eqv]
    exact eqv_selfs xs h
  | .dict kvs, h => by simp [PyData.canLay0] at h
theorem eqv_selfs : ∀ xs : List PyData, PyData.canLayAll0 xs = true → PyData.eqvAll xs xs = true
  | [], _ => rfl
  | x :: xs, h => by
    simp only [PyData.canLayAll0, Bool.and_eq_true] at h
    simp only [PyData.eqvAll, eqv_self x h.1, eqv_selfs xs h.2, Bool.and_self]
end
theorem eq_tup {A : Type} {h : A → PyData} (hh : ∀ a, (h a).canLay0 = true ∧ (h a).depth ≤ 60) (ls : List A) : eqP (.tuple (ls.map h)) (.tuple (ls.map h)) = some true := by
  obtain ⟨h1, h2⟩ := canLay_pairs hh ls
  have s1 : SeqAt.shaped (.tuple (ls.map h)) = true := by
    unfold SeqAt.shaped
    simp only [PyData.canLay0, PyData.depth, h1, Bool.true_and]
    exact decide_eq_true (by omega)
  have e : eqP (.tuple (ls.map h)) (.tuple (ls.map h)) = if SeqAt.shaped (.tuple (ls.map h)) = true ∧ SeqAt.shaped (.tuple (ls.map h)) = true then some (PyData.eqv (.tuple (ls.map h)) (.tuple (ls.map h))) else none := rfl
  rw [e, if_pos ⟨s1, s1⟩, eqv_self _ (by simp only [PyData.canLay0, h1])]
theorem rn_ok (a : Rn) : (rn a).canLay0 = true ∧ (rn a).depth ≤ 60 := ⟨rfl, by simp [rn, PyData.depth, PyData.depthAll]⟩
theorem eq_lay (l : List (Int × Int)) : eqP (lay l) (lay l) = some true := eq_tup pl_ok l
theorem eq_row (l : List (Nat × Nat)) : eqP (row l) (row l) = some true := eq_tup lp_ok l
theorem eq_rns (l : List Rn) : eqP (rns l) (rns l) = some true := eq_tup rn_ok l
def bkR (x : Rn) : Rn := if x.2.2.2 % 2 = 1 then x else (x.1, x.2.2.1, x.2.1, x.2.2.2)
def backR (r : List Rn) : List Rn := r.reverse.map bkR
theorem bkR_ok {n b : Nat} {x : Rn} (h : Rok n b x) : Rok n b (bkR x) := by
  unfold bkR
  split
  · exact h
  · exact ⟨h.h1, h.h3, h.h2, h.h5, h.h4, h.h6, h.h7⟩
theorem backR_ok {n b : Nat} {r : List Rn} (h : ∀ x, x ∈ r → Rok n b x) : ∀ x, x ∈ backR r → Rok n b x := fun x hx => by
  obtain ⟨y, hy, rfl⟩ := List.mem_map.mp hx
  exact bkR_ok (h y (List.mem_reverse.mp hy))
/-- the leaps of runs, how many -/
def lvs (r : List Rn) : List (Nat × Nat) := (r.map fun x => alt x x.2.2.2).flatten
theorem alt_len {x : Rn} {n : Nat} : (alt x n).length = n := by
  unfold alt
  simp
theorem alt_mem {x : Rn} {n m b : Nat} (h : Rok m b x) : ∀ z, z ∈ alt x n → Lp m z := by
  intro z hz
  unfold alt at hz
  obtain ⟨j, _, rfl⟩ := List.mem_map.mp hz
  refine ⟨h.h1, ?_, ?_⟩
  · simp only
    split
    · exact h.h2
    · exact h.h3
  · simp only
    split
    · exact h.h4
    · exact h.h5
theorem lvs_len : ∀ {r : List Rn}, (lvs r).length = (r.map fun x => x.2.2.2).sum
  | [] => rfl
  | x :: r => by
    unfold lvs
    rw [List.map_cons, List.flatten_cons, List.length_append, List.map_cons, List.sum_cons, alt_len]
    congr 1
    exact lvs_len
theorem sum_int : ∀ {r : List Rn}, (r.map fun x => (x.2.2.2 : Int)).sum = (((r.map fun x => x.2.2.2).sum : Nat) : Int)
  | [] => rfl
  | x :: r => by
    rw [List.map_cons, List.sum_cons, List.map_cons, List.sum_cons, sum_int]
    omega
theorem lvs_mem {r : List Rn} {m b : Nat} (h : ∀ x, x ∈ r → Rok m b x) : ∀ z, z ∈ lvs r → Lp m z := by
  intro z hz
  unfold lvs at hz
  obtain ⟨l, hl, hz⟩ := List.mem_flatten.mp hz
  obtain ⟨x, hx, rfl⟩ := List.mem_map.mp hl
  exact alt_mem (h x hx) z hz
theorem lvs_ok {b : Nat} : ∀ {r : List Rn} {l : List (Int × Int)}, (∀ x, x ∈ r → Rok l.length b x) → (lvs r).foldl leap l = r.foldl runD l
  | [], _, _ => rfl
  | x :: r, l, h => by
    have e : lvs (x :: r) = alt x x.2.2.2 ++ lvs r := by
      unfold lvs
      rw [List.map_cons, List.flatten_cons]
    rw [e, List.foldl_append, run_leaps (h x List.mem_cons_self), List.foldl_cons]
    exact lvs_ok fun y hy => by rw [runD_len]; exact h y (List.mem_cons_of_mem _ hy)
end IP
namespace IP
theorem le_sum {x : Nat} : ∀ {l : List Nat}, x ∈ l → x ≤ l.sum
  | y :: l, h => by
    rw [List.sum_cons]
    rcases List.mem_cons.mp h with rfl | h
    · omega
    · have := le_sum h
      omega
theorem sum_take_le : ∀ {l : List Nat} (n : Nat), (l.take n).sum ≤ l.sum
  | [], n => by simp
  | y :: l, 0 => by simp
  | y :: l, n + 1 => by
    rw [List.take_succ_cons, List.sum_cons, List.sum_cons]
    have := sum_take_le (l := l) n
    omega
theorem sum_le_mul {m : Nat} : ∀ {l : List Nat}, (∀ y, y ∈ l → y ≤ m) → l.sum ≤ l.length * m
  | [], _ => by simp
  | y :: l, h => by
    rw [List.sum_cons, List.length_cons, Nat.succ_mul]
    have := h y List.mem_cons_self
    have := sum_le_mul (l := l) fun z hz => h z (List.mem_cons_of_mem _ hz)
    omega
end IP
namespace IP
open PySem PySem.Spec PyProof.Rows L2
theorem eq_lst {A : Type} {h : A → PyData} (hh : ∀ a, (h a).canLay0 = true ∧ (h a).depth ≤ 60) (ls : List A) : eqP (.list (ls.map h)) (.list (ls.map h)) = some true := by
  obtain ⟨h1, h2⟩ := canLay_pairs hh ls
  have s1 : SeqAt.shaped (.list (ls.map h)) = true := by
    unfold SeqAt.shaped
    simp only [PyData.canLay0, PyData.depth, h1, Bool.true_and]
    exact decide_eq_true (by omega)
  have e : eqP (.list (ls.map h)) (.list (ls.map h)) = if SeqAt.shaped (.list (ls.map h)) = true ∧ SeqAt.shaped (.list (ls.map h)) = true then some (PyData.eqv (.list (ls.map h)) (.list (ls.map h))) else none := rfl
  rw [e, if_pos ⟨s1, s1⟩, eqv_self _ (by simp only [PyData.canLay0, h1])]
theorem lvs_ones (r : List (Nat × Nat)) : lvs (r.map fun x => (x.1, x.2, x.2, 1)) = r := by
  unfold lvs
  rw [List.map_map]
  induction r with
  | nil => rfl
  | cons x r ih =>
    rw [List.map_cons, List.flatten_cons, ih]
    simp [alt]
theorem alt_get {x : Rn} {n i : Nat} : (alt x n)[i]? = if i < n then some (x.1, if i % 2 = 0 then x.2.1 else x.2.2.1) else none := by
  unfold alt
  rw [List.getElem?_map]
  by_cases h : i < n
  · rw [List.getElem?_range h, if_pos h]
    rfl
  · rw [List.getElem?_eq_none (by rw [List.length_range]; omega), if_neg h]
    rfl
theorem alt_back (x : Rn) : alt (bkR x) (bkR x).2.2.2 = (alt x x.2.2.2).reverse := by
  have e : (bkR x).2.2.2 = x.2.2.2 := by
    unfold bkR
    split <;> rfl
  rw [e]
  apply List.ext_getElem?
  intro i
  rw [alt_get]
  by_cases h : i < x.2.2.2
  · have q1 : x.2.2.2 - 1 - i < x.2.2.2 := by omega
    rw [List.getElem?_reverse (by rw [alt_len]; exact h), alt_len, alt_get]
    simp only [h, q1, if_true]
    unfold bkR
    by_cases hm : x.2.2.2 % 2 = 1
    · rw [if_pos hm]
      by_cases hi : i % 2 = 0
      · have hj : (x.2.2.2 - 1 - i) % 2 = 0 := by omega
        simp only [hi, hj, if_true]
      · have hj : ¬ (x.2.2.2 - 1 - i) % 2 = 0 := by omega
        simp only [hi, hj, if_false]
    · rw [if_neg hm]
      by_cases hi : i % 2 = 0
      · have hj : ¬ (x.2.2.2 - 1 - i) % 2 = 0 := by omega
        simp only [hi, hj, if_true, if_false]
      · have hj : (x.2.2.2 - 1 - i) % 2 = 0 := by omega
        simp only [hi, hj, if_true, if_false]
  · rw [if_neg h, List.getElem?_eq_none (by rw [List.length_reverse, alt_len]; omega)]
theorem lvs_back (r : List Rn) : lvs (backR r) = (lvs r).reverse := by
  unfold lvs backR
  rw [List.map_map, List.reverse_flatten, List.map_map, ← List.map_reverse]
  congr 1
  apply List.map_congr_left
  intro x _
  exact alt_back x
theorem alt_cut {a u w m f : Nat} (h : f ≤ m) : alt (a, u, w, m) m = alt (a, u, w, f) f ++ alt (a, if f % 2 = 0 then u else w, if f % 2 = 0 then w else u, m - f) (m - f) := by
  apply List.ext_getElem?
  intro i
  rw [alt_get]
  by_cases h1 : i < f
  · rw [List.getElem?_append_left (by rw [alt_len]; exact h1), alt_get, if_pos (by omega : i < m), if_pos h1]
  · rw [List.getElem?_append_right (by rw [alt_len]; omega), alt_len, alt_get]
    by_cases h2 : i < m
    · have q1 : i - f < m - f := by omega
      simp only [h2, q1, if_true]
      by_cases hf : f % 2 = 0
      · simp only [hf, if_true]
        by_cases hi : i % 2 = 0
        · have hj : (i - f) % 2 = 0 := by omega
          simp only [hi, hj, if_true]
        · have hj : ¬ (i - f) % 2 = 0 := by omega
          simp only [hi, hj, if_false]
      · simp only [hf, if_false]
        by_cases hi : i % 2 = 0
        · have hj : ¬ (i - f) % 2 = 0 := by omega
          simp only [hi, hj, if_true, if_false]
        · have hj : (i - f) % 2 = 0 := by omega
          simp only [hi, hj, if_true, if_false]
    · rw [if_neg h2, if_neg (by omega)]
theorem run_cut {l : List (Int × Int)} {a u w m f b : Nat} (h : Rok l.length b (a, u, w, m)) (h0 : 0 < f) (h1 : f < m) :
    Rok l.length b (a, u, w, f) ∧ Rok l.length b (a, if f % 2 = 0 then u else w, if f % 2 = 0 then w else u, m - f) ∧
    runD (runD l (a, u, w, f)) (a, if f % 2 = 0 then u else w, if f % 2 = 0 then w else u, m - f) = runD l (a, u, w, m) := by
  have g1 : Rok l.length b (a, u, w, f) := ⟨h.h1, h.h2, h.h3, h.h4, h.h5, h0, by have := h.h7; simp only at this ⊢; omega⟩
  have g2 : Rok l.length b (a, if f % 2 = 0 then u else w, if f % 2 = 0 then w else u, m - f) := by
    refine ⟨h.h1, ?_, ?_, ?_, ?_, by simp only; omega, by have := h.h7; simp only at this ⊢; omega⟩
    · simp only
      split
      · exact h.h2
      · exact h.h3
    · simp only
      split
      · exact h.h3
      · exact h.h2
    · simp only
      split
      · exact h.h4
      · exact h.h5
    · simp only
      split
      · exact h.h5
      · exact h.h4
  refine ⟨g1, g2, ?_⟩
  have g2' : Rok (runD l (a, u, w, f)).length b (a, if f % 2 = 0 then u else w, if f % 2 = 0 then w else u, m - f) := by rw [runD_len]; exact g2
  rw [← run_leaps g2', ← run_leaps g1, ← run_leaps h, ← List.foldl_append]
  simp only
  rw [← alt_cut (by omega)]
theorem runD_comm {l : List (Int × Int)} {x y : Rn} (h : x.1 ≠ y.1) (h1 : x.1 ≠ y.2.1) (h2 : x.1 ≠ y.2.2.1) (h3 : y.1 ≠ x.2.1) (h4 : y.1 ≠ x.2.2.1) : runD (runD l x) y = runD (runD l y) x := by
  unfold runD
  rw [at_set_ne h, at_set_ne h1, at_set_ne h2, at_set_ne (Ne.symm h), at_set_ne h3, at_set_ne h4, List.set_comm _ _ h]
theorem zip_erase {l : List (Int × Int)} : ∀ (i n : Nat), ((l.zipIdx n).filter fun z => decide (z.2 ≠ n + i)).map (fun z => pl z.1) = (l.eraseIdx i).map pl := by
  induction l with
  | nil => intro i n; simp
  | cons p l ih =>
    intro i n
    rw [List.zipIdx_cons, List.filter_cons]
    cases i with
    | zero =>
      have e : decide ((p, n).2 ≠ n + 0) = false := by simp
      rw [e]
      simp only [Bool.false_eq_true, if_false, List.eraseIdx_cons_zero]
      have : ∀ (l : List (Int × Int)) (m : Nat), n < m → ((l.zipIdx m).filter fun z => decide (z.2 ≠ n + 0)).map (fun z => pl z.1) = l.map pl := by
        intro l
        induction l with
        | nil => intro m _; simp
        | cons q l ih2 =>
          intro m hm
          rw [List.zipIdx_cons, List.filter_cons]
          have e : decide ((q, m).2 ≠ n + 0) = true := by simp; omega
          rw [e]
          simp only [if_true, List.map_cons]
          rw [ih2 (m + 1) (by omega)]
      exact this l (n + 1) (by omega)
    | succ i =>
      have e : decide ((p, n).2 ≠ n + (i + 1)) = true := by simp
      rw [e]
      simp only [if_true, List.map_cons, List.eraseIdx_cons_succ]
      have := ih i (n + 1)
      rw [show n + 1 + i = n + (i + 1) by omega] at this
      rw [this]
theorem cut_wo {l : List (Int × Int)} {i : Nat} {p : Int × Int} : ((l.set i p).eraseIdx i) = l.take i ++ l.drop (i + 1) := by
  rw [List.eraseIdx_set_eq, List.eraseIdx_eq_take_drop_succ]
theorem backR_app (a b : List Rn) : backR (a ++ b) = backR b ++ backR a := by
  unfold backR
  rw [List.reverse_append, List.map_append]
/-! leaps there and back -/
theorem bey_bey (p q : Int × Int) : bey (bey p q) q = p := by
  unfold bey
  ext <;> simp only <;> omega
theorem leap_leap {l : List (Int × Int)} {r : Nat × Nat} (h : Lp l.length r) : leap (leap l r) r = l := by
  unfold leap
  rw [at_set_same h.1, at_set_ne h.2.2, List.set_set, bey_bey]
  apply List.ext_getElem?
  intro j
  rw [List.getElem?_set]
  split
  · rename_i e
    subst e
    rw [if_pos h.1, at_lay h.1]
  · rfl
theorem back_ok : ∀ (r : List (Nat × Nat)) (l : List (Int × Int)), (∀ x, x ∈ r → Lp l.length x) → r.reverse.foldl leap (r.foldl leap l) = l
  | [], _, _ => rfl
  | x :: r, l, h => by
    have ih := back_ok r (leap l x) fun y hy => by rw [leap_len]; exact h y (List.mem_cons_of_mem _ hy)
    rw [List.foldl_cons, List.reverse_cons, List.foldl_append, ih]
    exact leap_leap (h x List.mem_cons_self)
theorem runs_there_back {b : Nat} {r : List Rn} {l : List (Int × Int)} (h : ∀ x, x ∈ r → Rok l.length b x) : (backR r).foldl runD (r.foldl runD l) = l := by
  have e : (r.foldl runD l).length = l.length := (runs_ok (n := (l.map fun p => p.1.natAbs + p.2.natAbs).sum) (b := b) (r := r) (l := l) (fun p hp => by
    have h1 : p.1.natAbs + p.2.natAbs ≤ (l.map fun p => p.1.natAbs + p.2.natAbs).sum := le_sum (List.mem_map_of_mem hp)
    have h2 := Nat.lt_two_pow_self (n := (l.map fun p => p.1.natAbs + p.2.natAbs).sum)
    omega) h).1
  rw [← lvs_ok (b := b) (by rw [e]; exact backR_ok h), lvs_back, ← lvs_ok h]
  exact back_ok _ _ (lvs_mem h)
end IP
namespace IP
open PySem PySem.Spec PyProof.Rows L2
theorem add_rns {a b : List Rn} : binP .add (rns a) (rns b) = if a.length + b.length ≤ sizeLine then some (rns (a ++ b)) else none := by
  have e : binP .add (rns a) (rns b) = if (a.map rn).length + (b.map rn).length ≤ sizeLine then some (.tuple (a.map rn ++ b.map rn)) else none := rfl
  rw [e, List.length_map, List.length_map]
  unfold rns
  rw [List.map_append]
/-- numbers that are left, each once -/
def nums (ts : List Nat) : List PyData := ts.map fun (i : Nat) => PyData.int (i : Int)
theorem erase_mem {ts : List Nat} {i x : Nat} (h : x ∈ ts.eraseIdx i) : x ∈ ts := List.mem_of_mem_eraseIdx h
theorem erase_not {ts : List Nat} (h : ts.Nodup) {i a : Nat} (e : ts[i]? = some a) : a ∉ ts.eraseIdx i := by
  induction ts generalizing i with
  | nil => simp at e
  | cons y ts ih =>
    rw [List.nodup_cons] at h
    cases i with
    | zero =>
      simp at e
      subst e
      simpa using h.1
    | succ i =>
      simp at e
      rw [List.eraseIdx_cons_succ, List.mem_cons, not_or]
      refine ⟨fun z => ?_, ih h.2 e⟩
      subst z
      exact h.1 (List.mem_of_getElem? e)
theorem erase_nodup {ts : List Nat} (h : ts.Nodup) (i : Nat) : (ts.eraseIdx i).Nodup := h.sublist (List.eraseIdx_sublist ts i)
theorem nums_erase {ts : List Nat} {i : Nat} : (nums ts).eraseIdx i = nums (ts.eraseIdx i) := by
  unfold nums
  rw [List.eraseIdx_eq_take_drop_succ, List.eraseIdx_eq_take_drop_succ, List.map_append, List.map_take, List.map_drop]
end IP
namespace IP
open PySem PySem.Spec PyProof.Rows L2
theorem mk_f {xs : List PyData} : mkSeq false xs = .list xs := rfl
theorem nums_at {ts : List Nat} {r a : Nat} (h : ts[r]? = some a) : (nums ts)[r]? = some (.int (a : Int)) := by
  unfold nums
  rw [List.getElem?_map, h]
  rfl
theorem nums_len {ts : List Nat} : (nums ts).length = ts.length := List.length_map ..
theorem pop_ok {cf : CallF} {e : IE} {s : Env} {S0 S : Store} {l tl i m : Nat} {ts : List Nat} (hi : s[i]? = some (some (.ref tl))) (ht : S[tl]? = some (.lst (nums ts))) (hne : tl ≠ l) (h0 : S0.length ≤ tl) (F0 : Fr l S0 S) (hl : ts.length ≤ 1000)
    (h : (evE cf e s S).sat fun v S' => (∃ r : Nat, v = Val.dat (.int (r : Int)) ∧ (r : Int) < (ts.length : Int)) ∧ Pen m l S' ∧ Fr l S S') :
    (evE cf (.pop i e) s S).sat fun v S' => ∃ a r : Nat, v = Val.dat (.int (a : Int)) ∧ ts[r]? = some a ∧ S'[tl]? = some (.lst (nums (ts.eraseIdx r))) ∧ Pen m l S' ∧ Fr l S0 S' := by
  simp only [evE, hi, ht]
  refine sat_then h ?_
  rintro v S1 ⟨⟨r, rfl, hr⟩, P1, F1⟩
  have tlt := (List.getElem?_eq_some_iff.mp ht).1
  have h1 : S1[tl]? = some (.lst (nums ts)) := (F1.at_ tl tlt hne).trans ht
  have hr' : r < ts.length := by omega
  have e1 : ts[r]? = some ts[r] := List.getElem?_eq_getElem hr'
  have hx : L2.ixN (nums ts).length (r : Int) = some r := ix_nat (by rw [nums_len]; exact hr')
  have hz : (nums ts).length ≤ 1000000 := by rw [nums_len]; omega
  simp only [h1, hx, hz, nums_at e1, if_true]
  refine .ok ⟨ts[r], r, rfl, e1, ?_, P1.set hne, (F0.trans F1).set_new h0⟩
  rw [set_at (List.getElem?_eq_some_iff.mp h1).1, nums_erase]
/-- two runs in the making -/
structure Two (b l tl ul : Nat) (ts : List Nat) (as : List Nat) (S0 : Store) (m : Nat) (i : Nat) (acc : List Rn) (S : Store) : Prop where
  u : S[ul]? = some (.lst (acc.map rn))
  t : S[tl]? = some (.lst (nums ts))
  p : Pen m l S
  f : Fr l S0 S
  n : acc.length = i
  a : ∀ (j : Nat) x, acc[j]? = some x → as[j]? = some x.1 ∧ x.2.1 ∈ ts ∧ x.2.2.1 ∈ ts ∧ 0 < x.2.2.2 ∧ x.2.2.2 < 2 ^ b
end IP
namespace IP
open PySem PySem.Spec PyProof.Rows L2
theorem rk_three {d n : Nat} {a b c : PyData} (h1 : Rk d n a) (h2 : Rk d n b) (h3 : Rk d n c) : Rk (d + 1) (3 * (n + 2) + 3) (.tuple [a, b, c]) := rk_tup (xs := [a, b, c]) fun x hx => by
  simp only [List.mem_cons, List.not_mem_nil, or_false] at hx
  rcases hx with rfl | rfl | rfl
  · exact h1
  · exact h2
  · exact h3
theorem bkR_bkR (x : Rn) : bkR (bkR x) = x := by
  unfold bkR
  by_cases h : x.2.2.2 % 2 = 1
  · rw [if_pos h, if_pos h]
  · rw [if_neg h]
    simp only
    rw [if_neg h]
theorem backR_backR (r : List Rn) : backR (backR r) = r := by
  unfold backR
  rw [← List.map_reverse, List.reverse_reverse, List.map_map]
  have : bkR ∘ bkR = id := by
    funext x
    exact bkR_bkR x
  rw [this, List.map_id]
end IP
namespace IP
open PySem PySem.Spec PyProof.Rows L2

/-! ### a law that looks at the script -/
def noList (K : PySem.W.Frag) : Bool := K.all fun p => match p.2.cls with
  | .type n => !(n == "list")
  | _ => true
theorem lookup_mem {K : PySem.W.Frag} {a : Addr} {o : Obj} (h : K.lookup a = some o) : ∃ b, (b, o) ∈ K := by
  induction K with
  | nil => cases h
  | cons p K ih =>
    obtain ⟨b, u⟩ := p
    rw [List.lookup_cons] at h
    split at h
    · cases h
      exact ⟨b, List.mem_cons_self⟩
    · obtain ⟨c, hc⟩ := ih h
      exact ⟨c, List.mem_cons_of_mem _ hc⟩
theorem no_list {K : PySem.W.Frag} {a : Addr} {o : Obj} (h : noList K = true) (e : K.lookup a = some o) : o.cls ≠ .type "list" := fun z => by
  obtain ⟨b, hb⟩ := lookup_mem e
  have := List.all_eq_true.mp h _ hb
  simp only [z] at this
  exact absurd this (by decide)
def scr0 (a : Addr) (vs : List Value) (ns : List Int) : Hp := fun b => if b = a then some (.frz { cls := .type "list", data := .seq vs.toArray } (.lst (ns.map V.int))) else none
def spScr : Sp := fun vs H Q E => ∃ a us ns, vs = [V.ref a] ∧ ns.length ≤ 63 ∧ H = scr0 a us ns ∧ ∀ v H', v = V.bl true → Q v H'
theorem walk_scr {l : PySem.W.OpenLaw} {k : Nat} {q : Program} {loose : List Str} {XP : (Str → Option Value) → Heap → Prop} {YP : World → Heap → Prop} {d : DefRec} {K : Params → PySem.W.Frag} {x : Str}
    (hi : importsNone q = true) (hn : l.most = some 63) (hdf : d.params.defaults = []) (hr : Room k callerA)
    (hY : ∀ (w : World) (h : Heap), YP w h → (K w.params).In h)
    (F : ∀ (w : World) (mg : Str → Option Value) (fa : Addr) (h : Heap), (K w.params).In h → h.Ns mainGlobals mg → mg d.name = some (.ref fa) →
      ∃ fd : FuncData, (∀ (s : Shared) (u : Value), (K w.params).In s.heap → BindsTo s fd ⟨[u], []⟩ [(x, u)]) ∧
        ∀ base : Heap, (K w.params).In base → base.Ns mainGlobals mg → Sys base → FnG l.prog w (K w.params) mg base (L2.CX l.prog w) k fa fd 1 [x] spScr)
    (nl : ∀ P, noList (K P) = true) :
    PySem.W.WalkO q loose XP YP l.row.toRowW d [] (fun f vs => PySem.call f vs) := by
  refine Att.attach_call hn hdf fun w s₀ s₁ mg mb fa o pm cd doc a vs ns G Y ho hd hcd hmg hobj hints hlen hg => ?_
  have KX := hY w _ Y
  obtain ⟨fd, hb, hF⟩ := F w mg fa _ KX G.T.g hmg
  refine law_go KX G.T.g G.T.b G.T.builtins G.T.nolimit (G.T.seer hi) hg hobj hints (Nat.le_trans hlen (by rw [sizeLine_eq]; omega)) hr hF hb ⟨a, vs, ns, rfl, hlen, ?_, fun v H' e => e⟩
  have hk : (K w.params).lookup a = none := by
    cases e : (K w.params).lookup a with
    | none => rfl
    | some u =>
      have h1 := KX a u e
      rw [hobj] at h1
      cases h1
      exact absurd rfl (no_list (nl _) e)
  funext b
  unfold scrH scr0
  rw [hk]
  simp
theorem script_imp {G : GC} {g : List Val → Store → Out Val} (h : ∀ ns : List Int, ns.length ≤ 63 → ∃ S', g [.ref 0] [.frz (ns.map .int)] = .ok (.dat (.bool true)) S') : ∀ vs H Q E, spScr vs H Q E → spC G 1 g vs H Q E := by
  rintro vs H Q E ⟨a, us, ns, rfl, hl, rfl, q⟩
  obtain ⟨S', e⟩ := h ns hl
  have one : ∀ (l : Nat) (o : Ob), ([.frz (ns.map .int)] : Store)[l]? = some o → l = 0 ∧ o = .frz (ns.map .int) := fun l o e => by
    cases l with
    | zero => exact ⟨rfl, by simpa using e.symm⟩
    | succ l => simp at e
  refine ⟨fun _ => False, fun _ => a, [.frz (ns.map .int)], [.ref 0], ⟨fun _ z => z.elim, fun l o e => ?_, fun l l' o o' e e' _ _ _ => (one l o e).1.trans (one l' o' e').1.symm, fun l o _ _ z => z⟩, .cons ⟨rfl, by simp⟩ .nil, rfl, ?_⟩
  · obtain ⟨rfl, rfl⟩ := one l o e
    exact ⟨_, _, if_pos rfl, RpL.ints ns⟩
  · rw [e]
    intro w F' loc' H' n r
    cases (show Rp G.K F' H' w (.bool true) from r)
    exact q _ _ rfl
end IP
namespace IP
open PySem PySem.Spec PyProof.Rows L2

/-! ### a law that draws by cells, so many laps each -/
def lapsOf (cellF penF : Nat) (N M : Int) (body : List IS) : List IS :=
  [.for_ (.nm 1) (.rg1 (.bf .max2 [.cst (.int 1), .bf .min2 [.bf .len [.var 0], .cst (.int N)]])) [.asg (.nm 2) (.call penF [.call cellF [.var 0, .var 1] []] []), .for_ (.nm 3) (.rg1 (.cst (.int M))) body], .ret (.cst (.bool true))]
theorem laps_ok {W : Option Nat} {cf : CallF} {cellF penF c C : Nat} {N M : Int} {body : List IS} {ns : List Int} (n0 : 0 ≤ N) (n1 : N ≤ 1000) (m0 : 0 ≤ M) (m1 : M ≤ 1000) (hC : C ≤ 2 ^ 40)
    (hcell : ∀ (i : Nat) (S : Store), S[0]? = some (.frz (ns.map .int)) → ∃ x : Int, cf cellF [.ref 0, .dat (.int (i : Int))] S = .ok (.dat (.int x)) S)
    (hpen : ∀ (x : Int) (S : Store), ∃ a b : Int, cf penF [.dat (.int x)] S = .ok (.ref S.length) (S ++ [.lst [.int a, .int b, .int 0]]) ∧ 0 ≤ b ∧ b < 2 ^ 31)
    (hbody : ∀ (n l i : Nat) (S : Store) (v1 : Option Val) (rest : Env), rest.length = c → Pen n l S → n ≤ 2 ^ 60 → l ≠ 0 → (i : Int) < M → S[0]? = some (.frz (ns.map .int)) →
      (evSs W cf body (some (.ref 0) :: v1 :: some (.ref l) :: some (.dat (.int (i : Int))) :: rest) S).sat fun r S' => ∃ rest', r = .nx (some (.ref 0) :: v1 :: some (.ref l) :: some (.dat (.int (i : Int))) :: rest') ∧ rest'.length = c ∧ Pen (n + C) l S' ∧ Fr l S S') :
    (evSs W cf (lapsOf cellF penF N M body) (some (.ref 0) :: none :: none :: none :: List.replicate c none) [.frz (ns.map .int)]).sat fun r S' => retOf r = .dat (.bool true) := by
  unfold lapsOf
  refine sat_seq ?_
  obtain ⟨m, hm, m0', m1'⟩ : ∃ m : Int, (if N < ((ns.map PyData.int).length : Int) then N else ((ns.map PyData.int).length : Int)) = m ∧ 0 ≤ m ∧ m ≤ 1000 := ⟨_, rfl, by split <;> omega, by split <;> omega⟩
  obtain ⟨q, hq, q0, q1⟩ : ∃ q : Int, (if m > 1 then m else 1) = q ∧ 0 ≤ q ∧ q ≤ 1000 := ⟨_, rfl, by split <;> omega, by split <;> omega⟩
  refine sat_for (xs := intRange 0 q) (S1 := [.frz (ns.map .int)]) ?_ ?_
  · simp only [evE, evL, Out.bind_ok, List.getElem?_cons_zero, lookF_frz (S := [.frz (ns.map .int)]) (l := 0) rfl, lookF_dat, bf_len_l, bf_min2, bf_max2, optD_some]
    rw [hm, hq, small_of (by omega) (by omega)]
    rfl
  refine for_inv (fun i s S' => (∃ v1 v2 v3 rest, s = some (Val.ref 0) :: v1 :: v2 :: v3 :: rest ∧ rest.length = c) ∧ S'[0]? = some (.frz (ns.map .int))) _ ⟨⟨_, _, _, _, rfl, List.length_replicate ..⟩, rfl⟩ ?_ ?_
  · rintro i x s S e ⟨⟨v1, v2, v3, rest, rfl, hr⟩, h0⟩
    obtain ⟨rfl, hi⟩ := rg_at e
    obtain ⟨x, hx⟩ := hcell i S h0
    obtain ⟨a, b, hp, b0, b1⟩ := hpen x S
    have sl : 0 < S.length := (List.getElem?_eq_some_iff.mp h0).1
    have l1 : (1 : Nat) < (some (Val.ref 0) :: v1 :: v2 :: v3 :: rest).length := by simp
    have l2 : ∀ u, (2 : Nat) < (some (Val.ref 0) :: u :: v2 :: v3 :: rest).length := fun u => by simp
    have l3 : ∀ u w, (3 : Nat) < (some (Val.ref 0) :: u :: w :: v3 :: rest).length := fun u w => by simp
    simp only [stepF, bind_nm, l1, if_true]
    simp only [List.set_cons_zero, List.set_cons_succ]
    refine sat_seq ?_
    simp only [evS, evE, evL, Out.bind_ok, List.getElem?_cons_zero, List.getElem?_cons_succ, dfl, List.map_nil, List.append_nil, hx, hp, asT, l2, if_true, List.set_cons_zero, List.set_cons_succ, sat_okI]
    generalize hS1 : S ++ [Ob.lst [PyData.int a, .int b, .int 0]] = S1
    have P1 : Pen 0 S.length S1 := ⟨a, b, 0, by rw [← hS1]; simp, b0, b1, by omega, by omega⟩
    have h1 : S1[0]? = some (.frz (ns.map .int)) := by rw [← hS1, List.getElem?_append_left sl]; exact h0
    have sl1 : 0 < S1.length := (List.getElem?_eq_some_iff.mp h1).1
    refine sat_seq ?_
    refine sat_for (xs := intRange 0 M) (S1 := S1) ?_ ?_
    · simp only [evE, Out.bind_ok]
      rw [small_of (by omega) (by omega)]
      rfl
    refine for_inv (fun i' s S' => (∃ v3 rest, s = some (Val.ref 0) :: some (Val.dat (.int (i : Int))) :: some (Val.ref S.length) :: v3 :: rest ∧ rest.length = c) ∧ Pen (C * i') S.length S' ∧ Fr S.length S1 S') _ ⟨⟨_, _, rfl, hr⟩, P1.mono (Nat.zero_le _), .refl⟩ ?_ ?_
    · rintro i' x s S2 e ⟨⟨v3, rest, rfl, hr⟩, P2, F2⟩
      obtain ⟨rfl, hi'⟩ := rg_at e
      have h2 : S2[0]? = some (.frz (ns.map .int)) := by rw [F2.at_ 0 sl1 (by omega)]; exact h1
      have l3 : (3 : Nat) < (some (Val.ref 0) :: some (Val.dat (.int (i : Int))) :: some (Val.ref S.length) :: v3 :: rest).length := by simp
      simp only [stepF, bind_nm, l3, if_true]
      simp only [List.set_cons_zero, List.set_cons_succ]
      have cc : C * i' ≤ 2 ^ 40 * 1000 := Nat.mul_le_mul hC (by omega)
      refine sat_mono (hbody (C * i') S.length i' S2 _ rest hr P2 (by omega) (by omega) (by omega) h2) ?_
      rintro r S3 ⟨rest', rfl, hr', P3, F3⟩
      exact ⟨_, rfl, ⟨_, _, rfl, hr'⟩, by rw [Nat.mul_succ]; exact P3, F2.trans F3⟩
    · rintro s S2 ⟨⟨v3, rest, rfl, hr⟩, P2, F2⟩
      exact sat_nil ⟨_, rfl, ⟨_, _, _, _, rfl, hr⟩, by rw [F2.at_ 0 sl1 (by omega)]; exact h1⟩
  · rintro s S ⟨⟨v1, v2, v3, rest, rfl, hr⟩, h0⟩
    refine sat_seq ?_
    simp only [evS, evE, Out.bind_ok, sat_okI, retOf]
end IP
namespace IP
open PySem PySem.Spec PyProof.Rows L2
def cellsOf (cellF penF : Nat) (N : Int) (body : List IS) : List IS :=
  [.for_ (.nm 1) (.rg1 (.bf .max2 [.cst (.int 1), .bf .min2 [.bf .len [.var 0], .cst (.int N)]])) (.asg (.nm 2) (.call penF [.call cellF [.var 0, .var 1] []] []) :: body), .ret (.cst (.bool true))]
theorem cells_ok {W : Option Nat} {cf : CallF} {cellF penF c : Nat} {N : Int} {body : List IS} {ns : List Int} (n0 : 0 ≤ N) (n1 : N ≤ 1000)
    (hcell : ∀ (i : Nat) (S : Store), S[0]? = some (.frz (ns.map .int)) → ∃ x : Int, cf cellF [.ref 0, .dat (.int (i : Int))] S = .ok (.dat (.int x)) S)
    (hpen : ∀ (x : Int) (S : Store), ∃ a b : Int, cf penF [.dat (.int x)] S = .ok (.ref S.length) (S ++ [.lst [.int a, .int b, .int 0]]) ∧ 0 ≤ b ∧ b < 2 ^ 31)
    (hbody : ∀ (l : Nat) (S : Store) (v1 : Option Val) (rest : Env), rest.length = c → Pen 0 l S → l ≠ 0 → S[0]? = some (.frz (ns.map .int)) →
      (evSs W cf body (some (.ref 0) :: v1 :: some (.ref l) :: rest) S).sat fun r S' => ∃ v1' v2' rest', r = .nx (some (.ref 0) :: v1' :: v2' :: rest') ∧ rest'.length = c ∧ Fr l S S') (v1 v2 : Option Val) (rest : Env) (hr : rest.length = c) :
    (evSs W cf (cellsOf cellF penF N body) (some (.ref 0) :: v1 :: v2 :: rest) [.frz (ns.map .int)]).sat fun r S' => retOf r = .dat (.bool true) := by
  unfold cellsOf
  refine sat_seq ?_
  obtain ⟨m, hm, m0', m1'⟩ : ∃ m : Int, (if N < ((ns.map PyData.int).length : Int) then N else ((ns.map PyData.int).length : Int)) = m ∧ 0 ≤ m ∧ m ≤ 1000 := ⟨_, rfl, by split <;> omega, by split <;> omega⟩
  obtain ⟨q, hq, q0, q1⟩ : ∃ q : Int, (if m > 1 then m else 1) = q ∧ 0 ≤ q ∧ q ≤ 1000 := ⟨_, rfl, by split <;> omega, by split <;> omega⟩
  refine sat_for (xs := intRange 0 q) (S1 := [.frz (ns.map .int)]) ?_ ?_
  · simp only [evE, evL, Out.bind_ok, List.getElem?_cons_zero, lookF_frz (S := [.frz (ns.map .int)]) (l := 0) rfl, lookF_dat, bf_len_l, bf_min2, bf_max2, optD_some]
    rw [hm, hq, small_of (by omega) (by omega)]
    rfl
  refine for_inv (fun i s S' => (∃ v1 v2 rest, s = some (Val.ref 0) :: v1 :: v2 :: rest ∧ rest.length = c) ∧ S'[0]? = some (.frz (ns.map .int))) _ ⟨⟨_, _, _, rfl, hr⟩, rfl⟩ ?_ ?_
  · rintro i x s S e ⟨⟨v1, v2, rest, rfl, hr⟩, h0⟩
    obtain ⟨rfl, hi⟩ := rg_at e
    obtain ⟨x, hx⟩ := hcell i S h0
    obtain ⟨a, b, hp, b0, b1⟩ := hpen x S
    have sl : 0 < S.length := (List.getElem?_eq_some_iff.mp h0).1
    have l1 : (1 : Nat) < (some (Val.ref 0) :: v1 :: v2 :: rest).length := by simp
    have l2 : ∀ u, (2 : Nat) < (some (Val.ref 0) :: u :: v2 :: rest).length := fun u => by simp
    simp only [stepF, bind_nm, l1, if_true]
    simp only [List.set_cons_zero, List.set_cons_succ]
    refine sat_seq ?_
    simp only [evS, evE, evL, Out.bind_ok, List.getElem?_cons_zero, List.getElem?_cons_succ, dfl, List.map_nil, List.append_nil, hx, hp, asT, l2, if_true, List.set_cons_zero, List.set_cons_succ, sat_okI]
    generalize hS1 : S ++ [Ob.lst [PyData.int a, .int b, .int 0]] = S1
    have P1 : Pen 0 S.length S1 := ⟨a, b, 0, by rw [← hS1]; simp, b0, b1, by omega, by omega⟩
    have h1 : S1[0]? = some (.frz (ns.map .int)) := by rw [← hS1, List.getElem?_append_left sl]; exact h0
    have sl1 : 0 < S1.length := (List.getElem?_eq_some_iff.mp h1).1
    refine sat_mono (hbody S.length S1 _ rest hr P1 (by omega) h1) ?_
    rintro r S2 ⟨w1, w2, rest', rfl, hr', F2⟩
    exact ⟨_, rfl, ⟨_, _, _, rfl, hr'⟩, by rw [F2.at_ 0 sl1 (by omega)]; exact h1⟩
  · rintro s S ⟨⟨v1, v2, rest, rfl, hr⟩, h0⟩
    refine sat_seq ?_
    simp only [evS, evE, Out.bind_ok, sat_okI, retOf]
end IP
/-! nets in the plane, by plain numbers -/
namespace Net
abbrev P2 := Int × Int
def det (u v : P2) : Int := u.1 * v.2 - u.2 * v.1
/-- all that ways span -/
inductive Sn (ws : List P2) : P2 → Prop
  | zero : Sn ws (0, 0)
  | add {v w : P2} (k : Int) : Sn ws v → w ∈ ws → Sn ws (v.1 + k * w.1, v.2 + k * w.2)
section
variable {ws bs : List P2} {u v w : P2} {d : Int}
theorem Sn.mem (h : w ∈ ws) : Sn ws w := by
  have := Sn.add (ws := ws) 1 .zero h
  simpa using this
theorem Sn.plus (hu : Sn ws u) (hv : Sn ws v) : Sn ws (u.1 + v.1, u.2 + v.2) := by
  induction hv with
  | zero => simpa using hu
  | add k _ hw ih =>
    have := Sn.add k ih hw
    simp only at this ⊢
    rw [← Int.add_assoc, ← Int.add_assoc]
    exact this
theorem Sn.times (k : Int) (hv : Sn ws v) : Sn ws (k * v.1, k * v.2) := by
  induction hv with
  | zero => simpa using Sn.zero
  | add m _ hw ih =>
    have := Sn.add (k * m) ih hw
    simp only at this ⊢
    rw [Int.mul_add, Int.mul_add, ← Int.mul_assoc, ← Int.mul_assoc]
    exact this
theorem Sn.lin (a b : Int) (hu : Sn ws u) (hv : Sn ws v) : Sn ws (a * u.1 + b * v.1, a * u.2 + b * v.2) := (hu.times a).plus (hv.times b)
theorem Sn.trans (h : ∀ w, w ∈ ws → Sn bs w) (hv : Sn ws v) : Sn bs v := by
  induction hv with
  | zero => exact .zero
  | add k _ hw ih => exact ih.plus ((h _ hw).times k)
theorem Sn.dvd1 (h : ∀ w, w ∈ ws → d ∣ w.1) (hv : Sn ws v) : d ∣ v.1 := by
  induction hv with
  | zero => exact Int.dvd_zero d
  | add k _ hw ih => exact Int.dvd_add ih (Int.dvd_mul_of_dvd_right (h _ hw))
theorem Sn.dvd2 (h : ∀ w, w ∈ ws → d ∣ w.2) (hv : Sn ws v) : d ∣ v.2 := by
  induction hv with
  | zero => exact Int.dvd_zero d
  | add k _ hw ih => exact Int.dvd_add ih (Int.dvd_mul_of_dvd_right (h _ hw))
theorem det_add (k : Int) : det u (v.1 + k * w.1, v.2 + k * w.2) = det u v + k * det u w := by
  unfold det
  simp only [Int.mul_add, Int.mul_sub]
  rw [Int.mul_left_comm u.1 k w.2, Int.mul_left_comm u.2 k w.1]
  omega
theorem det_swap : det v u = - det u v := by
  unfold det
  rw [Int.mul_comm v.1 u.2, Int.mul_comm v.2 u.1]
  omega
theorem det_self : det u u = 0 := by
  unfold det
  rw [Int.mul_comm]
  omega
theorem Sn.dvd_det1 (h : ∀ w, w ∈ ws → d ∣ det u w) (hv : Sn ws v) : d ∣ det u v := by
  induction hv with
  | zero =>
    unfold det
    simp
  | add k _ hw ih =>
    rw [det_add]
    exact Int.dvd_add ih (Int.dvd_mul_of_dvd_right (h _ hw))
theorem Sn.dvd_det (h : ∀ u, u ∈ ws → ∀ w, w ∈ ws → d ∣ det u w) (hu : Sn ws u) (hv : Sn ws v) : d ∣ det u v := by
  refine Sn.dvd_det1 (fun w hw => ?_) hv
  rw [det_swap]
  exact Int.dvd_neg.mpr (Sn.dvd_det1 (fun x hx => h w hw x hx) hu)
end
/-! what divides all numbers, all pairs -/
def D1 (ws : List P2) (d : Int) : Prop := ∀ w, w ∈ ws → d ∣ w.1
def D2 (ws : List P2) (d : Int) : Prop := ∀ w, w ∈ ws → d ∣ w.2
def DD (ws : List P2) (d : Int) : Prop := ∀ u, u ∈ ws → ∀ w, w ∈ ws → d ∣ det u w
/-- one spans the other -/
def Le (ws bs : List P2) : Prop := ∀ w, w ∈ ws → Sn bs w
theorem Le.d1 {ws bs : List P2} {d : Int} (h : Le ws bs) (k : D1 bs d) : D1 ws d := fun w hw => Sn.dvd1 k (h w hw)
theorem Le.d2 {ws bs : List P2} {d : Int} (h : Le ws bs) (k : D2 bs d) : D2 ws d := fun w hw => Sn.dvd2 k (h w hw)
theorem Le.dd {ws bs : List P2} {d : Int} (h : Le ws bs) (k : DD bs d) : DD ws d := fun u hu w hw => Sn.dvd_det k (h u hu) (h w hw)
theorem Le.refl {ws : List P2} : Le ws ws := fun w hw => Sn.mem hw
theorem Le.trans {ws bs cs : List P2} (a : Le ws bs) (b : Le bs cs) : Le ws cs := fun w hw => Sn.trans b (a w hw)
theorem Le.snoc {ws bs : List P2} {v : P2} (a : Le ws bs) (h : Sn bs v) : Le (ws ++ [v]) bs := fun w hw => by
  rcases List.mem_append.mp hw with hw | hw
  · exact a w hw
  · rw [List.mem_singleton.mp hw]
    exact h
theorem Le.left {ws bs : List P2} : Le ws (ws ++ bs) := fun w hw => Sn.mem (List.mem_append_left _ hw)
/-! the greatest numbers -/
/-- g is the greatest number that divides as told -/
def IsG (p : Int → Prop) (g : Nat) : Prop := ∀ d : Int, d ∣ (g : Int) ↔ p d
theorem IsG.uniq {p : Int → Prop} {g h : Nat} (a : IsG p g) (b : IsG p h) : g = h := by
  have h1 : (g : Int) ∣ (h : Int) := (b _).mpr ((a _).mp (Int.dvd_refl _))
  have h2 : (h : Int) ∣ (g : Int) := (a _).mpr ((b _).mp (Int.dvd_refl _))
  exact Nat.dvd_antisymm (Int.natCast_dvd_natCast.mp h1) (Int.natCast_dvd_natCast.mp h2)
theorem IsG.congr {p q : Int → Prop} {g : Nat} (a : IsG p g) (h : ∀ d, p d ↔ q d) : IsG q g := fun d => (a d).trans (h d)
theorem gcd_dvd {a b d : Int} : d ∣ ((Int.gcd a b : Nat) : Int) ↔ d ∣ a ∧ d ∣ b := by
  constructor
  · intro h
    exact ⟨Int.dvd_trans h (Int.gcd_dvd_left ..), Int.dvd_trans h (Int.gcd_dvd_right ..)⟩
  · rintro ⟨h1, h2⟩
    exact Int.dvd_coe_gcd h1 h2
/-- numbers folded -/
def gAll (l : List Int) (g : Nat) : Nat := l.foldl (fun g x => Int.gcd (g : Int) x) g
theorem gAll_dvd {d : Int} : ∀ {l : List Int} {g : Nat}, d ∣ ((gAll l g : Nat) : Int) ↔ d ∣ (g : Int) ∧ ∀ x, x ∈ l → d ∣ x
  | [], g => by simp [gAll]
  | x :: l, g => by
    have ih := gAll_dvd (d := d) (l := l) (g := Int.gcd (g : Int) x)
    show d ∣ ((gAll l (Int.gcd (g : Int) x) : Nat) : Int) ↔ _
    rw [ih, gcd_dvd]
    constructor
    · rintro ⟨⟨h1, h2⟩, h3⟩
      refine ⟨h1, fun y hy => ?_⟩
      rcases List.mem_cons.mp hy with rfl | hy
      · exact h2
      · exact h3 y hy
    · rintro ⟨h1, h2⟩
      exact ⟨⟨h1, h2 x List.mem_cons_self⟩, fun y hy => h2 y (List.mem_cons_of_mem _ hy)⟩
/-! a basis: one step, or two of which the second goes up -/
theorem two_sn {x y z : Int} {v : P2} : Sn [(x, y), (0, z)] v ↔ ∃ a b : Int, v = (a * x, a * y + b * z) := by
  constructor
  · intro h
    induction h with
    | zero => exact ⟨0, 0, by simp⟩
    | add k _ hw ih =>
      obtain ⟨a, b, e⟩ := ih
      rw [e]
      simp only [List.mem_cons, List.not_mem_nil, or_false] at hw
      rcases hw with rfl | rfl
      · exact ⟨a + k, b, by ext <;> simp only [Int.add_mul] <;> omega⟩
      · exact ⟨a, b + k, by ext <;> simp only [Int.add_mul, Int.mul_zero] <;> omega⟩
  · rintro ⟨a, b, rfl⟩
    have := Sn.lin a b (Sn.mem (ws := [(x, y), (0, z)]) (w := (x, y)) (by simp)) (Sn.mem (w := (0, z)) (by simp))
    simpa using this
theorem one_sn {x y : Int} {v : P2} : Sn [(x, y)] v ↔ ∃ a : Int, v = (a * x, a * y) := by
  constructor
  · intro h
    induction h with
    | zero => exact ⟨0, by simp⟩
    | add k _ hw ih =>
      obtain ⟨a, e⟩ := ih
      rw [e]
      rw [List.mem_singleton.mp hw]
      exact ⟨a + k, by ext <;> simp only [Int.add_mul]⟩
  · rintro ⟨a, rfl⟩
    exact (Sn.mem (ws := [(x, y)]) (w := (x, y)) (by simp)).times a
/-- of ways that span what a basis of two spans: the measures -/
theorem wide_dd {ws : List P2} {x y z : Int} (h1 : Le ws [(x, y), (0, z)]) (h2 : Le [(x, y), (0, z)] ws) (d : Int) : DD ws d ↔ d ∣ x * z := by
  constructor
  · intro h
    have := h2.dd h (x, y) (by simp) (0, z) (by simp)
    simpa [det] using this
  · intro h
    refine h1.dd fun u hu w hw => ?_
    simp only [List.mem_cons, List.not_mem_nil, or_false] at hu hw
    rcases hu with rfl | rfl <;> rcases hw with rfl | rfl
    · rw [det_self]; exact Int.dvd_zero d
    · simpa [det] using h
    · rw [det_swap]
      simpa [det] using h
    · rw [det_self]; exact Int.dvd_zero d
theorem wide_d1 {ws : List P2} {x y z : Int} (h1 : Le ws [(x, y), (0, z)]) (h2 : Le [(x, y), (0, z)] ws) (d : Int) : D1 ws d ↔ d ∣ x := by
  constructor
  · intro h
    exact h2.d1 h (x, y) (by simp)
  · intro h
    refine h1.d1 fun w hw => ?_
    simp only [List.mem_cons, List.not_mem_nil, or_false] at hw
    rcases hw with rfl | rfl
    · exact h
    · exact Int.dvd_zero d
theorem long_dd {ws : List P2} {x y : Int} (h1 : Le ws [(x, y)]) (d : Int) : DD ws d := by
  refine h1.dd fun u hu w hw => ?_
  rw [List.mem_singleton.mp hu, List.mem_singleton.mp hw, det_self]
  exact Int.dvd_zero d
theorem long_d1 {ws : List P2} {x y : Int} (h1 : Le ws [(x, y)]) (h2 : Le [(x, y)] ws) (d : Int) : D1 ws d ↔ d ∣ x :=
  ⟨fun h => h2.d1 h (x, y) (by simp), fun h => h1.d1 fun w hw => by rw [List.mem_singleton.mp hw]; exact h⟩
theorem long_d2 {ws : List P2} {x y : Int} (h1 : Le ws [(x, y)]) (h2 : Le [(x, y)] ws) (d : Int) : D2 ws d ↔ d ∣ y :=
  ⟨fun h => h2.d2 h (x, y) (by simp), fun h => h1.d2 fun w hw => by rw [List.mem_singleton.mp hw]; exact h⟩
end Net
namespace IP
open PySem PySem.Spec PyProof.Rows L2

/-! ### a while that ends -/
section
variable {c : Env → Store → Out Bool} {b : Env → Store → Out Fl} {s : Env} {S : Store} {Q : Fl → Store → Prop}
theorem whlN_more : ∀ (n : Nat) (s : Env) (S : Store), whlN c b n s S ≠ .err → whlN c b (n + 1) s S = whlN c b n s S
  | 0, s, S, h => absurd rfl h
  | n + 1, s, S, h => by
    have ih := whlN_more n
    rw [whlN] at h
    rw [whlN, whlN]
    cases e : c s S with
    | err => rfl
    | exc x fs S1 => rfl
    | ok t S1 =>
      rw [e] at h
      simp only [Out.bind_ok] at h ⊢
      cases t with
      | false => rfl
      | true =>
        simp only [if_true] at h ⊢
        cases e2 : b s S1 with
        | err => rfl
        | exc x fs S2 => rfl
        | ok r S2 =>
          rw [e2] at h
          simp only [Out.bind_ok] at h ⊢
          cases r with
          | nx s' => exact ih s' S2 h
          | rt v => rfl
theorem whlN_le {n m : Nat} (h : n ≤ m) (k : whlN c b n s S ≠ .err) : whlN c b m s S = whlN c b n s S := by
  induction h with
  | refl => rfl
  | step h ih => rw [whlN_more _ s S (by rw [ih]; exact k), ih]
theorem whl_of {n : Nat} (h : (whlN c b n s S).sat Q) : (whl none c b s S).sat Q := by
  obtain ⟨a, S', e, q⟩ := sat_ex h
  have k : whlN c b n s S ≠ .err := by rw [e]; exact fun z => by cases z
  have hx : ∃ n, whlN c b n s S ≠ .err := ⟨n, k⟩
  have e2 : whl none c b s S = whlN c b n s S := by
    show whlC c b s S = _
    unfold whlC
    rw [dif_pos hx]
    rcases Nat.le_total n hx.choose with h1 | h1
    · exact whlN_le h1 k
    · exact (whlN_le h1 hx.choose_spec).symm
  rw [e2]
  exact h
/-- by an invariant and a number that gets less -/
theorem while_inv (I : Nat → Env → Store → Prop) (m : Nat) (h0 : I m s S)
    (st : ∀ m s S, I m s S → (c s S).sat fun t S1 => if t = true then (b s S1).sat fun r S2 => (∃ s' m', r = .nx s' ∧ m' < m ∧ I m' s' S2) ∨ ∃ v, r = .rt v ∧ Q r S2 else Q (.nx s) S1) : (whl none c b s S).sat Q := by
  suffices H : ∀ m s S, I m s S → ∃ n, (whlN c b n s S).sat Q by
    obtain ⟨n, h⟩ := H m s S h0
    exact whl_of h
  intro m
  induction m using Nat.strongRecOn with
  | ind m ih =>
    intro s S h
    obtain ⟨t, S1, e1, h1⟩ := sat_ex (st m s S h)
    cases t with
    | false =>
      refine ⟨1, ?_⟩
      rw [whlN, e1]
      exact .ok h1
    | true =>
      simp only [if_true] at h1
      obtain ⟨r, S2, e2, h2⟩ := sat_ex h1
      rcases h2 with ⟨s', m', rfl, hm, hi⟩ | ⟨v, rfl, hq⟩
      · obtain ⟨n, hn⟩ := ih m' hm s' S2 hi
        refine ⟨n + 1, ?_⟩
        rw [whlN, e1]
        simp only [Out.bind_ok, if_true, e2]
        exact hn
      · refine ⟨1, ?_⟩
        rw [whlN, e1]
        simp only [Out.bind_ok, if_true, e2]
        exact .ok hq
end
theorem sat_whl {cf : CallF} {e : IE} {body : List IS} {s : Env} {S : Store} {Q : Fl → Store → Prop} (I : Nat → Env → Store → Prop) (m : Nat) (h0 : I m s S)
    (st : ∀ m s S, I m s S → (evT cf e s S).sat fun t S1 => if t = true then (evSs none cf body s S1).sat fun r S2 => (∃ s' m', r = .nx s' ∧ m' < m ∧ I m' s' S2) ∨ ∃ v, r = .rt v ∧ Q r S2 else Q (.nx s) S1) : (evS none cf (.whl e body) s S).sat Q := by
  simp only [evS]
  exact while_inv I m h0 st
end IP
namespace Net
/-! the remainder way -/
theorem gcd_step (a b : Int) (h : b ≠ 0) : Int.gcd b (a.fmod b) = Int.gcd a b := by
  apply Nat.dvd_antisymm
  · apply Int.natCast_dvd_natCast.mp
    rw [gcd_dvd]
    have h1 : ((Int.gcd b (a.fmod b) : Nat) : Int) ∣ b := Int.gcd_dvd_left ..
    have h2 : ((Int.gcd b (a.fmod b) : Nat) : Int) ∣ a.fmod b := Int.gcd_dvd_right ..
    refine ⟨?_, h1⟩
    have e := Int.mul_fdiv_add_fmod a b
    have h3 := Int.dvd_add (Int.dvd_mul_of_dvd_left h1 (c := a.fdiv b)) h2
    rw [e] at h3
    exact h3
  · apply Int.natCast_dvd_natCast.mp
    rw [gcd_dvd]
    have h1 : ((Int.gcd a b : Nat) : Int) ∣ a := Int.gcd_dvd_left ..
    have h2 : ((Int.gcd a b : Nat) : Int) ∣ b := Int.gcd_dvd_right ..
    refine ⟨h2, ?_⟩
    have e : a.fmod b = a - b * a.fdiv b := by
      have := Int.mul_fdiv_add_fmod a b
      omega
    rw [e]
    exact Int.dvd_sub h1 (Int.dvd_mul_of_dvd_left h2)
theorem fmod_less {a b : Int} (h : b ≠ 0) : (a.fmod b).natAbs < b.natAbs := by
  have h1 := Int.emod_nonneg a h
  have h2 := Int.emod_lt a h
  rw [Int.fmod_eq_emod]
  split
  · omega
  · rename_i k
    have k1 : b < 0 := by
      by_cases z : 0 ≤ b
      · exact absurd (.inl z) k
      · omega
    have k2 : a % b ≠ 0 := fun z => k (.inr (Int.dvd_of_emod_eq_zero z))
    omega
end Net
namespace Net
theorem dd_take {ws : List P2} {i : Nat} {v : P2} (h : ws[i]? = some v) (d : Int) : DD (ws.take (i + 1)) d ↔ DD (ws.take i) d ∧ ∀ w, w ∈ ws.take i → d ∣ det v w := by
  rw [List.take_add_one, h]
  constructor
  · intro k
    refine ⟨fun u hu w hw => k u (List.mem_append_left _ hu) w (List.mem_append_left _ hw), fun w hw => k v (List.mem_append_right _ (by simp)) w (List.mem_append_left _ hw)⟩
  · rintro ⟨k1, k2⟩ u hu w hw
    rcases List.mem_append.mp hu with hu | hu <;> rcases List.mem_append.mp hw with hw | hw
    · exact k1 u hu w hw
    · have e : w = v := by simpa using hw
      rw [e, det_swap]
      exact Int.dvd_neg.mpr (k2 u hu)
    · have e : u = v := by simpa using hu
      rw [e]
      exact k2 w hw
    · have e : u = v := by simpa using hu
      have e2 : w = v := by simpa using hw
      rw [e, e2, det_self]
      exact Int.dvd_zero d
def D12 (ws : List P2) (d : Int) : Prop := D1 ws d ∧ D2 ws d
theorem d12_take {ws : List P2} {i : Nat} {v : P2} (h : ws[i]? = some v) (d : Int) : D12 (ws.take (i + 1)) d ↔ D12 (ws.take i) d ∧ d ∣ v.1 ∧ d ∣ v.2 := by
  rw [List.take_add_one, h]
  constructor
  · rintro ⟨k1, k2⟩
    exact ⟨⟨fun w hw => k1 w (List.mem_append_left _ hw), fun w hw => k2 w (List.mem_append_left _ hw)⟩, k1 v (List.mem_append_right _ (by simp)), k2 v (List.mem_append_right _ (by simp))⟩
  · rintro ⟨⟨k1, k2⟩, k3, k4⟩
    refine ⟨fun w hw => ?_, fun w hw => ?_⟩
    · rcases List.mem_append.mp hw with hw | hw
      · exact k1 w hw
      · have e : w = v := by simpa using hw
        rw [e]; exact k3
    · rcases List.mem_append.mp hw with hw | hw
      · exact k2 w hw
      · have e : w = v := by simpa using hw
        rw [e]; exact k4
end Net
namespace IP
open PySem PySem.Spec PyProof.Rows L2
/-- what the law measures: the number and its word -/
def mes (M G : Nat) : PyData := if M ≠ 0 then .tuple [.int (M : Int), .str "wide"] else .tuple [.int (G : Int), .str "long"]
theorem abs_nat {x : Int} : (if x < 0 then -x else x) = (x.natAbs : Int) := by
  split <;> omega
def waysOf (l : List (Int × Int)) : List (Int × Int) := l.map fun p => (p.1 - (atL l 0).1, p.2 - (atL l 0).2)
end IP
namespace Net
theorem step_wide {ws : List P2} {X Y Z : Int} {v : P2} (h2 : Le [(X, Y), (0, Z)] ws) (h1 : Le ws [(X, Y), (0, Z)]) (hX : X ≠ 0) (hZ : Z ≠ 0) (h : ∀ d, DD ws d ↔ DD (ws ++ [v]) d) : Sn [(X, Y), (0, Z)] v := by
  have k : DD (ws ++ [v]) (X * Z) := (h _).mp ((wide_dd h1 h2 _).mpr (Int.dvd_refl _))
  have up : Le [(X, Y), (0, Z)] (ws ++ [v]) := h2.trans Le.left
  have hv : Sn (ws ++ [v]) v := Sn.mem (by simp)
  have d1 := Sn.dvd_det k (up (0, Z) (by simp)) hv
  have d2 := Sn.dvd_det k (up (X, Y) (by simp)) hv
  unfold det at d1 d2
  simp only [Int.zero_mul, Int.zero_sub] at d1 d2
  obtain ⟨a, ha⟩ : X ∣ v.1 := by
    obtain ⟨c, hc⟩ := Int.dvd_neg.mp d1
    refine ⟨c, ?_⟩
    have : Z * v.1 = Z * (X * c) := by rw [hc, Int.mul_comm X Z, Int.mul_assoc]
    exact Int.eq_of_mul_eq_mul_left hZ this
  obtain ⟨b, hb⟩ : Z ∣ v.2 - a * Y := by
    obtain ⟨c, hc⟩ := d2
    refine ⟨c, ?_⟩
    have : X * (v.2 - a * Y) = X * (Z * c) := by
      rw [← Int.mul_assoc, ← hc, ha, Int.mul_sub]
      congr 1
      rw [Int.mul_comm a Y, Int.mul_left_comm]
    exact Int.eq_of_mul_eq_mul_left hX this
  rw [two_sn]
  refine ⟨a, b, ?_⟩
  ext
  · simp only
    rw [ha, Int.mul_comm]
  · simp only
    rw [Int.mul_comm b Z]
    omega
end Net
namespace IP
open PySem PySem.Spec PyProof.Rows L2
/-! a step with its numbers, as the program keeps it -/
structure Rw where
  p : Int × Int
  ns : List Int
def rw_ (r : Rw) : PyData := .tuple [pl r.p, .tuple (r.ns.map .int)]
def optR : Option Rw → PyData
  | none => .none
  | some r => rw_ r
/-- a row so often another one added -/
def sumR (r q : Rw) (m : Int) : Rw := ⟨(r.p.1 + m * q.p.1, r.p.2 + m * q.p.2), List.zipWith (fun a b => a + m * b) r.ns q.ns⟩
def timR (r : Rw) (m : Int) : Rw := ⟨(0 + m * r.p.1, 0 + m * r.p.2), r.ns.map fun a => m * a⟩
/-- all numbers of a row are within so many bits -/
def Rb (n : Nat) (r : Rw) : Prop := r.p.1.natAbs < 2 ^ n ∧ r.p.2.natAbs < 2 ^ n ∧ ∀ a, a ∈ r.ns → a.natAbs < 2 ^ n
theorem Rb.mono {n m : Nat} {r : Rw} (h : Rb n r) (hn : n ≤ m) : Rb m r := by
  have e := Nat.pow_le_pow_right (n := 2) (by decide) hn
  exact ⟨Nat.lt_of_lt_of_le h.1 e, Nat.lt_of_lt_of_le h.2.1 e, fun a ha => Nat.lt_of_lt_of_le (h.2.2 a ha) e⟩
theorem zip_map {A B : Type} {f : A → PyData} {g : B → PyData} : ∀ (l : List A) (m : List B), ((l.map f).zip (m.map g)).map (fun z => PyData.tuple [z.1, z.2]) = (l.zip m).map fun z => .tuple [f z.1, g z.2]
  | [], _ => rfl
  | _ :: _, [] => rfl
  | a :: l, b :: m => by
    rw [List.map_cons, List.map_cons, List.zip_cons_cons, List.map_cons, List.zip_cons_cons, List.map_cons, zip_map l m]
end IP
namespace Net
/-- one step of the remainder way: what grows is kept below by what gets less -/
theorem euc {B x F t r : Nat} (e : x = t * F + r) (hr : r < F) : B * (1 + t) * (F * r) ≤ B * (x * F) := by
  have h1 : (1 + t) * r ≤ x := by
    rw [e, Nat.add_mul, Nat.one_mul]
    have := Nat.mul_le_mul_left t (Nat.le_of_lt hr)
    omega
  calc B * (1 + t) * (F * r) = B * ((1 + t) * r * F) := by rw [Nat.mul_assoc, Nat.mul_comm F r, Nat.mul_assoc (1 + t)]
    _ ≤ B * (x * F) := Nat.mul_le_mul_left B (Nat.mul_le_mul_right F h1)
end Net
namespace IP
open PySem
theorem zip_sum {m : Int} : ∀ (l q : List Int), ((l.zip q).map fun z => PyData.int (z.1 + m * z.2)) = (List.zipWith (fun a b => a + m * b) l q).map PyData.int
  | [], _ => rfl
  | _ :: _, [] => rfl
  | a :: l, b :: q => by
    rw [List.zip_cons_cons, List.map_cons, List.zipWith_cons_cons, List.map_cons, zip_sum l q]
end IP
namespace IP
open PySem PySem.Spec PyProof.Rows L2
/-- the object that holds a basis in the making -/
def kob (f g : Option Rw) : Ob := .ins 0 [(0, .dat (optR f)), (1, .dat (optR g))]
theorem kob_0 {a b : Val} : [(0, a), (1, b)].lookup (0 : Nat) = some a := rfl
theorem kob_1 {a b : Val} : [(0, a), (1, b)].lookup (1 : Nat) = some b := rfl
theorem kput_0 {a b v : Val} : putFd 0 v [(0, a), (1, b)] = [(0, v), (1, b)] := rfl
theorem kput_1 {a b v : Val} : putFd 1 v [(0, a), (1, b)] = [(0, a), (1, v)] := rfl
theorem idx_rw0 {r : Rw} : idxP (rw_ r) (.int 0) = some (pl r.p) := rfl
/-- all numbers of a row are at most so great -/
def Rm (B : Nat) (r : Rw) : Prop := r.p.1.natAbs ≤ B ∧ r.p.2.natAbs ≤ B ∧ ∀ a, a ∈ r.ns → a.natAbs ≤ B
theorem Rm.mono {B C : Nat} {r : Rw} (h : Rm B r) (k : B ≤ C) : Rm C r := ⟨Nat.le_trans h.1 k, Nat.le_trans h.2.1 k, fun a ha => Nat.le_trans (h.2.2 a ha) k⟩
theorem Rm.rb {B n : Nat} {r : Rw} (h : Rm B r) (k : B < 2 ^ n) : Rb n r := ⟨Nat.lt_of_le_of_lt h.1 k, Nat.lt_of_le_of_lt h.2.1 k, fun a ha => Nat.lt_of_le_of_lt (h.2.2 a ha) k⟩
theorem add_mul_le {a m b : Int} {B : Nat} (h1 : a.natAbs ≤ B) (h2 : b.natAbs ≤ B) : (a + m * b).natAbs ≤ B * (1 + m.natAbs) := by
  have h3 : (m * b).natAbs ≤ m.natAbs * B := by
    rw [Int.natAbs_mul]
    exact Nat.mul_le_mul_left _ h2
  have h4 : B * (1 + m.natAbs) = B + m.natAbs * B := by rw [Nat.mul_add, Nat.mul_one, Nat.mul_comm B]
  generalize m * b = z at *
  omega
theorem sum_rm {B : Nat} {r q : Rw} {m : Int} (h1 : Rm B r) (h2 : Rm B q) : Rm (B * (1 + m.natAbs)) (sumR r q m) := by
  refine ⟨add_mul_le h1.1 h2.1, add_mul_le h1.2.1 h2.2.1, fun a ha => ?_⟩
  unfold sumR at ha
  obtain ⟨i, hi, rfl⟩ := List.mem_iff_getElem.mp ha
  rw [List.getElem_zipWith]
  exact add_mul_le (h1.2.2 _ (List.getElem_mem _)) (h2.2.2 _ (List.getElem_mem _))
theorem tim_rm {B : Nat} {r : Rw} (h : Rm B r) : Rm B (timR r (-1)) := by
  refine ⟨?_, ?_, fun a ha => ?_⟩
  · have := h.1
    show (0 + -1 * r.p.1).natAbs ≤ B
    omega
  · have := h.2.1
    show (0 + -1 * r.p.2).natAbs ≤ B
    omega
  · unfold timR at ha
    obtain ⟨x, hx, rfl⟩ := List.mem_map.mp ha
    have := h.2.2 x hx
    omega
def pts : Option Rw → List (Int × Int)
  | none => []
  | some r => [r.p]
end IP
namespace Net
/-- a step and another one so often: the same span -/
theorem pair_swap {p q : P2} {m : Int} : Le [q, (p.1 + m * q.1, p.2 + m * q.2)] [q, p] ∧ Le [q, p] [q, (p.1 + m * q.1, p.2 + m * q.2)] := by
  constructor
  · intro w hw
    simp only [List.mem_cons, List.not_mem_nil, or_false] at hw
    rcases hw with rfl | rfl
    · exact Sn.mem (by simp)
    · have := Sn.lin 1 m (Sn.mem (ws := [q, p]) (w := p) (by simp)) (Sn.mem (w := q) (by simp))
      simpa using this
  · intro w hw
    simp only [List.mem_cons, List.not_mem_nil, or_false] at hw
    rcases hw with rfl | rfl
    · exact Sn.mem (by simp)
    · have := Sn.lin 1 (-m) (Sn.mem (ws := [q, (w.1 + m * q.1, w.2 + m * q.2)]) (w := (w.1 + m * q.1, w.2 + m * q.2)) (by simp)) (Sn.mem (w := q) (by simp))
      simp only [Int.one_mul, Int.neg_mul] at this
      have e : (w.1 + m * q.1 + -(m * q.1), w.2 + m * q.2 + -(m * q.2)) = w := by
        ext <;> simp only <;> omega
      rw [e] at this
      exact this
theorem Le.swap {p q : P2} : Le [p, q] [q, p] := fun w hw => Sn.mem (by simp only [List.mem_cons, List.not_mem_nil, or_false] at hw ⊢; exact hw.symm)
theorem Le.nil0 {q : P2} : Le [q, (0, 0)] [q] := fun w hw => by
  simp only [List.mem_cons, List.not_mem_nil, or_false] at hw
  rcases hw with rfl | rfl
  · exact Sn.mem (by simp)
  · exact .zero
theorem neg_le {p : P2} : Le [(0 + -1 * p.1, 0 + -1 * p.2)] [p] ∧ Le [p] [(0 + -1 * p.1, 0 + -1 * p.2)] := by
  constructor
  · intro w hw
    rw [List.mem_singleton.mp hw]
    have := (Sn.mem (ws := [p]) (w := p) (by simp)).times (-1)
    simpa using this
  · intro w hw
    rw [List.mem_singleton.mp hw]
    have := (Sn.mem (ws := [(0 + -1 * p.1, 0 + -1 * p.2)]) (w := (0 + -1 * p.1, 0 + -1 * p.2)) (by simp)).times (-1)
    simpa using this
/-- the first step of the remainder way, whatever the sign -/
theorem euc0 {B F : Nat} {z t : Int} {r : Nat} (e : z = t * F + r) (hr : r < F) : B * (1 + t.natAbs) * (F * r) ≤ B * (F * (2 * F + z.natAbs)) := by
  have h1 : (1 + t.natAbs) * r ≤ 2 * F + z.natAbs := by
    have h2 : t.natAbs * F ≤ F + z.natAbs := by
      have : ((t.natAbs * F : Nat) : Int) = t.natAbs * F := by simp
      rcases Int.le_total 0 t with h | h
      · have e2 : ((t.natAbs : Nat) : Int) = t := by omega
        have : ((t.natAbs * F : Nat) : Int) = t * F := by rw [Int.natCast_mul, e2]
        generalize t * (F : Int) = tf at *
        omega
      · have e2 : ((t.natAbs : Nat) : Int) = -t := by omega
        have : ((t.natAbs * F : Nat) : Int) = -(t * F) := by rw [Int.natCast_mul, e2, Int.neg_mul]
        generalize t * (F : Int) = tf at *
        omega
    have h3 : t.natAbs * r ≤ t.natAbs * F := Nat.mul_le_mul_left _ (Nat.le_of_lt hr)
    rw [Nat.add_mul, Nat.one_mul]
    omega
  calc B * (1 + t.natAbs) * (F * r) = B * (F * ((1 + t.natAbs) * r)) := by rw [Nat.mul_assoc, Nat.mul_left_comm (1 + t.natAbs) F r]
    _ ≤ B * (F * (2 * F + z.natAbs)) := Nat.mul_le_mul_left B (Nat.mul_le_mul_left F h1)
end Net
namespace IP
open PySem PySem.Spec PyProof.Rows L2
theorem set_same {S : Store} {l : Nat} {o : Ob} (h : S[l]? = some o) : S.set l o = S := by
  apply List.ext_getElem?
  intro j
  rw [List.getElem?_set]
  split
  · rename_i e
    subst e
    rw [if_pos (List.getElem?_eq_some_iff.mp h).1, h]
  · rfl
/-- a basis in the making, of steps straight up -/
structure Lw (C : Rw → Prop) (g : Option Rw) : Prop where
  z : ∀ q, g = some q → q.p.1 = 0 ∧ 0 < q.p.2 ∧ C q
def mz (g : Option Rw) (r : Rw) : Nat := if r.p.2 = 0 then 0 else match g with
  | none => 1
  | some q => q.p.2.natAbs + 1
/-- the one number that gets less is within a bits, all others within b -/
def Mb (a b : Nat) (r : Rw) : Prop := r.p.2.natAbs < 2 ^ a ∧ r.p.1.natAbs < 2 ^ b ∧ ∀ x, x ∈ r.ns → x.natAbs < 2 ^ b
theorem Mb.mono {a a' b b' : Nat} {r : Rw} (h : Mb a b r) (ha : a ≤ a') (hb : b ≤ b') : Mb a' b' r := by
  have e1 := Nat.pow_le_pow_right (n := 2) (by decide) ha
  have e2 := Nat.pow_le_pow_right (n := 2) (by decide) hb
  exact ⟨Nat.lt_of_lt_of_le h.1 e1, Nat.lt_of_lt_of_le h.2.1 e2, fun x hx => Nat.lt_of_lt_of_le (h.2.2 x hx) e2⟩
theorem Mb.rb {a b n : Nat} {r : Rw} (h : Mb a b r) (ha : a ≤ n) (hb : b ≤ n) : Rb n r :=
  ⟨Nat.lt_of_lt_of_le h.2.1 (Nat.pow_le_pow_right (by decide) hb), Nat.lt_of_lt_of_le h.1 (Nat.pow_le_pow_right (by decide) ha), fun x hx => Nat.lt_of_lt_of_le (h.2.2 x hx) (Nat.pow_le_pow_right (by decide) hb)⟩
/-- all but the one are at most so great -/
def Ro (B : Nat) (r : Rw) : Prop := r.p.1.natAbs ≤ B ∧ ∀ a, a ∈ r.ns → a.natAbs ≤ B
theorem Ro.mono {B C : Nat} {r : Rw} (h : Ro B r) (k : B ≤ C) : Ro C r := ⟨Nat.le_trans h.1 k, fun a ha => Nat.le_trans (h.2 a ha) k⟩
theorem sum_ro {B : Nat} {r q : Rw} {m : Int} (h1 : Ro B r) (h2 : Ro B q) : Ro (B * (1 + m.natAbs)) (sumR r q m) := by
  refine ⟨add_mul_le h1.1 h2.1, fun a ha => ?_⟩
  unfold sumR at ha
  obtain ⟨i, hi, rfl⟩ := List.mem_iff_getElem.mp ha
  rw [List.getElem_zipWith]
  exact add_mul_le (h1.2 _ (List.getElem_mem _)) (h2.2 _ (List.getElem_mem _))
theorem Mb.ro {a b : Nat} {r : Rw} (h : Mb a b r) : Ro (2 ^ b - 1) r := ⟨by have := h.2.1; omega, fun x hx => by have := h.2.2 x hx; omega⟩
theorem tim_mb {a b : Nat} {r : Rw} (h : Mb a b r) : Mb a b (timR r (-1)) := by
  refine ⟨?_, ?_, fun x hx => ?_⟩
  · have := h.1
    show (0 + -1 * r.p.2).natAbs < _
    omega
  · have := h.2.1
    show (0 + -1 * r.p.1).natAbs < _
    omega
  · unfold timR at hx
    obtain ⟨y, hy, rfl⟩ := List.mem_map.mp hx
    have := h.2.2 y hy
    omega
/-- how great the numbers may be on the way -/
inductive Ph (a b : Nat) : Option Rw → Rw → Prop
  | beg {g : Option Rw} {r : Rw} : Mb a b r → (∀ q, g = some q → Mb a b q) → Ph a b g r
  | mid {q r : Rw} (B : Nat) : Ro B r → Ro B q → r.p.2.natAbs < 2 ^ a → q.p.2.natAbs < 2 ^ a → 0 < r.p.2 → 0 < q.p.2 → B * (r.p.2.natAbs * q.p.2.natAbs) ≤ 2 ^ (b + 2 * a + 2) → Ph a b (some q) r
  | fin {g : Option Rw} {r : Rw} : r.p.2 = 0 → (∀ q, g = some q → Mb a (b + 2 * a + 3) q) → Ph a b g r
theorem ro_mb {a b B : Nat} {r : Rw} (h : Ro B r) (h1 : r.p.2.natAbs < 2 ^ a) (k : B < 2 ^ b) : Mb a b r := ⟨h1, Nat.lt_of_le_of_lt h.1 k, fun x hx => Nat.lt_of_le_of_lt (h.2 x hx) k⟩
theorem mid_lt {a b B x y : Nat} (hx : 0 < x) (hy : 0 < y) (h : B * (x * y) ≤ 2 ^ (b + 2 * a + 2)) : B < 2 ^ (b + 2 * a + 3) := by
  have p1 : 1 ≤ x * y := Nat.mul_pos hx hy
  have p2 : B * 1 ≤ B * (x * y) := Nat.mul_le_mul_left B p1
  have p3 : 2 ^ (b + 2 * a + 2) < 2 ^ (b + 2 * a + 3) := Nat.pow_lt_pow_right (by decide) (by omega)
  omega
theorem ph_low {a b : Nat} {g : Option Rw} {r : Rw} (h : Ph a b g r) : ∀ q, g = some q → Mb a (b + 2 * a + 3) q := by
  cases h with
  | beg h1 h2 => exact fun q e => (h2 q e).mono (Nat.le_refl _) (by omega)
  | @mid q r B h1 h2 h6 h7 h3 h4 h5 =>
    intro q' e
    cases e
    exact ro_mb h2 h7 (mid_lt (by omega) (by omega) h5)
  | fin h1 h2 => exact h2
theorem ph_row {a b : Nat} {q r : Rw} (h : Ph a b (some q) r) (h0 : r.p.2 ≠ 0) : Mb a (b + 2 * a + 3) r := by
  cases h with
  | beg h1 h2 => exact h1.mono (Nat.le_refl _) (by omega)
  | mid B h1 h2 h6 h7 h3 h4 h5 => exact ro_mb h1 h6 (mid_lt (by omega) (by omega) h5)
  | fin h1 h2 => exact absurd h1 h0
/-- one turn -/
theorem ph_turn {a b : Nat} {q r : Rw} {t : Int} (h : Ph a b (some q) r) (hq : 0 < q.p.2) (h0 : r.p.2 ≠ 0) (ht : t = r.p.2.fdiv q.p.2) (hz : 0 < (sumR r q (0 - t)).p.2) : Ph a b (some (sumR r q (0 - t))) q := by
  have e := Int.mul_fdiv_add_fmod r.p.2 q.p.2
  have f1 := fm_ge (x := r.p.2) hq
  have f2 := fm_lt (x := r.p.2) hq
  have ez : (sumR r q (0 - t)).p.2 = r.p.2.fmod q.p.2 := by
    show r.p.2 + (0 - t) * q.p.2 = _
    rw [Int.zero_sub, Int.neg_mul, ht, Int.mul_comm]
    omega
  rw [ez] at hz
  have en : (0 - t).natAbs = t.natAbs := by omega
  have e2 : r.p.2 = t * (q.p.2.natAbs : Int) + ((r.p.2.fmod q.p.2).natAbs : Int) := by
    rw [ht]
    have e3 : ((q.p.2.natAbs : Nat) : Int) = q.p.2 := by omega
    have e4 : (((r.p.2.fmod q.p.2).natAbs : Nat) : Int) = r.p.2.fmod q.p.2 := by omega
    rw [e3, e4, Int.mul_comm]
    omega
  cases h with
  | beg h1 h2 =>
    have h2 := h2 q rfl
    have p0 : 1 ≤ 2 ^ b := Nat.one_le_two_pow
    have m1 := h1.ro
    have m2 := h2.ro
    have m3 := sum_ro (m := 0 - t) m1 m2
    rw [en] at m3
    refine .mid ((2 ^ b - 1) * (1 + t.natAbs)) (m2.mono (Nat.le_mul_of_pos_right _ (by omega))) m3 h2.1 (by rw [ez]; have := h2.1; omega) hq (by rw [ez]; exact hz) ?_
    rw [ez]
    have b1 := Net.euc0 (B := 2 ^ b - 1) e2 (show (r.p.2.fmod q.p.2).natAbs < q.p.2.natAbs by omega)
    refine Nat.le_trans b1 ?_
    have c1 : q.p.2.natAbs ≤ 2 ^ a := by have := h2.1; omega
    have c2 : 2 * q.p.2.natAbs + r.p.2.natAbs ≤ 4 * 2 ^ a := by have := h2.1; have := h1.1; omega
    have c3 : (2 ^ b - 1) * (q.p.2.natAbs * (2 * q.p.2.natAbs + r.p.2.natAbs)) ≤ 2 ^ b * (2 ^ a * (4 * 2 ^ a)) := Nat.mul_le_mul (by omega) (Nat.mul_le_mul c1 c2)
    have c4 : 2 ^ b * (2 ^ a * (4 * 2 ^ a)) = 2 ^ (b + 2 * a + 2) := by
      rw [show b + 2 * a + 2 = b + (a + (2 + a)) by omega, Nat.pow_add, Nat.pow_add, Nat.pow_add]
    omega
  | mid B h1 h2 h6 h7 h3 h4 h5 =>
    have m3 := sum_ro (m := 0 - t) h1 h2
    rw [en] at m3
    refine .mid (B * (1 + t.natAbs)) (h2.mono (Nat.le_mul_of_pos_right _ (by omega))) m3 h7 (by rw [ez]; omega) hq (by rw [ez]; exact hz) ?_
    rw [ez]
    have t0 : 0 ≤ t := by
      rw [ht]
      exact Int.fdiv_nonneg (by omega) (by omega)
    have e5 : r.p.2.natAbs = t.natAbs * q.p.2.natAbs + (r.p.2.fmod q.p.2).natAbs := by
      have : ((t.natAbs * q.p.2.natAbs : Nat) : Int) = t * (q.p.2.natAbs : Int) := by
        rw [Int.natCast_mul]
        congr 1
        omega
      omega
    exact Nat.le_trans (Net.euc e5 (by omega)) h5
  | fin h1 h2 => exact absurd h1 h0
end IP
namespace IP
open PySem PySem.Spec PyProof.Rows L2
theorem Le_app {a b c : List (Int × Int)} (h : Net.Le a b) : Net.Le (a ++ c) (b ++ c) := fun w hw => by
  rcases List.mem_append.mp hw with hw | hw
  · exact Net.Sn.trans Net.Le.left (h w hw)
  · exact Net.Sn.mem (List.mem_append_right _ hw)
/-- what rows keep, however they are put together -/
structure Clo (N : Nat) (C : Rw → Prop) : Prop where
  len : ∀ r, C r → r.ns.length = N
  sum : ∀ r q m, C r → C q → C (sumR r q m)
  tim : ∀ r m, C r → C (timR r m)
/-- what is kept while a step straight up is put in -/
structure Lo (C : Rw → Prop) (a b : Nat) (g0 : Option Rw) (r0 : Rw) (g : Option Rw) (r : Rw) : Prop where
  w : Lw C g
  x : r.p.1 = 0
  l : C r
  ph : Ph a b g r
  le : Net.Le (pts g ++ [r.p]) (pts g0 ++ [r0.p])
  ge : Net.Le (pts g0 ++ [r0.p]) (pts g ++ [r.p])
theorem Lo.turn {N a b : Nat} {C : Rw → Prop} (hC : Clo N C) {g0 : Option Rw} {r0 q r : Rw} {t : Int} (h : Lo C a b g0 r0 (some q) r) (h0 : r.p.2 ≠ 0) (ht : t = r.p.2.fdiv q.p.2) :
    (0 < (sumR r q (0 - t)).p.2 → Lo C a b g0 r0 (some (sumR r q (0 - t))) q ∧ (sumR r q (0 - t)).p.2.natAbs < q.p.2.natAbs) ∧
    ((sumR r q (0 - t)).p.2 = 0 → Lo C a b g0 r0 (some q) (sumR r q (0 - t))) ∧ 0 ≤ (sumR r q (0 - t)).p.2 := by
  obtain ⟨q1, q2, q3⟩ := h.w.z q rfl
  have e := Int.mul_fdiv_add_fmod r.p.2 q.p.2
  have f1 := fm_ge (x := r.p.2) q2
  have f2 := fm_lt (x := r.p.2) q2
  have ez : (sumR r q (0 - t)).p.2 = r.p.2.fmod q.p.2 := by
    show r.p.2 + (0 - t) * q.p.2 = _
    rw [Int.zero_sub, Int.neg_mul, ht, Int.mul_comm]
    omega
  have ex : (sumR r q (0 - t)).p.1 = 0 := by
    show r.p.1 + (0 - t) * q.p.1 = 0
    rw [h.x, q1]
    simp
  have el : C (sumR r q (0 - t)) := hC.sum _ _ _ h.l q3
  have sw := Net.pair_swap (p := r.p) (q := q.p) (m := 0 - t)
  have le := h.le
  have ge := h.ge
  simp only [pts, List.singleton_append] at le ge
  have s1 : Net.Le [q.p, (sumR r q (0 - t)).p] (pts g0 ++ [r0.p]) := sw.1.trans le
  have s2 : Net.Le (pts g0 ++ [r0.p]) [q.p, (sumR r q (0 - t)).p] := ge.trans sw.2
  refine ⟨fun hz => ⟨⟨⟨fun p hp => ?_⟩, q1, q3, ph_turn h.ph q2 h0 ht hz, ?_, ?_⟩, by rw [ez]; omega⟩, fun hz => ⟨h.w, ex, el, .fin hz (ph_low h.ph), s1, s2⟩, by rw [ez]; exact f1⟩
  · cases hp
    exact ⟨ex, hz, el⟩
  · exact Net.Le.swap.trans s1
  · exact s2.trans Net.Le.swap
end IP
namespace IP
open PySem PySem.Spec PyProof.Rows L2
theorem optR_n : optR none = .none := rfl
theorem optR_s {r : Rw} : optR (some r) = rw_ r := rfl
theorem kob_at {S : Store} {l : Nat} {f g : Option Rw} (h : l < S.length) : (S.set l (kob f g))[l]? = some (.ins 0 [(0, .dat (optR f)), (1, .dat (optR g))]) := set_at h
theorem isc_rw {n : Bool} {r : Rw} {S : Store} {R : Out Val} (h : R = .ok (.dat (.bool n)) S) : (match (Val.dat (rw_ r) : Val), PyData.none with
    | .dat .none, .none => .ok (.dat (.bool (!n))) S
    | .dat _, .none => .ok (.dat (.bool n)) S
    | .ref _, .none => .ok (.dat (.bool n)) S
    | .dat (.bool b), .bool c => .ok (.dat (.bool (if n = true then !(decide (b = c)) else decide (b = c)))) S
    | _, _ => .err : Out Val) = R := h.symm ▸ rfl
end IP
namespace IP
open PySem PySem.Spec PyProof.Rows L2
/-- how great a row is that the last turn leaves -/
theorem ph_last {a b : Nat} {q r : Rw} {t : Int} (h : Ph a b (some q) r) (hq : 0 < q.p.2) (h0 : r.p.2 ≠ 0) (ht : t = r.p.2.fdiv q.p.2) (hz : (sumR r q (0 - t)).p.2 = 0) : Mb a (b + 2 * a + 4) (sumR r q (0 - t)) := by
  have e := Int.mul_fdiv_add_fmod r.p.2 q.p.2
  have ez : (sumR r q (0 - t)).p.2 = r.p.2.fmod q.p.2 := by
    show r.p.2 + (0 - t) * q.p.2 = _
    rw [Int.zero_sub, Int.neg_mul, ht, Int.mul_comm]
    omega
  have hz0 := hz
  rw [ez] at hz
  have en : (0 - t).natAbs = t.natAbs := by omega
  have e2 : r.p.2.natAbs = q.p.2.natAbs * t.natAbs := by
    rw [← Int.natAbs_mul, ht]
    congr 1
    omega
  have q1 : 1 ≤ q.p.2.natAbs := by omega
  have t1 : t.natAbs ≤ r.p.2.natAbs := by
    rw [e2]
    exact Nat.le_mul_of_pos_left _ q1
  have p0 : 0 < 2 ^ a := Nat.two_pow_pos a
  have z0 : (sumR r q (0 - t)).p.2.natAbs < 2 ^ a := by rw [hz0]; exact p0
  cases h with
  | beg h1 h2 =>
    have h2 := h2 q rfl
    have m3 := sum_ro (m := 0 - t) h1.ro h2.ro
    rw [en] at m3
    refine ro_mb m3 z0 ?_
    have pb : 0 < 2 ^ b := Nat.two_pow_pos b
    have c1 : (2 ^ b - 1) * (1 + t.natAbs) ≤ 2 ^ b * 2 ^ a := Nat.mul_le_mul (by omega) (by have := h1.1; omega)
    have c2 : 2 ^ b * 2 ^ a = 2 ^ (b + a) := (Nat.pow_add ..).symm
    have c3 : 2 ^ (b + a) < 2 ^ (b + 2 * a + 4) := Nat.pow_lt_pow_right (by decide) (by omega)
    omega
  | mid B h1 h2 h6 h7 h3 h4 h5 =>
    have m3 := sum_ro (m := 0 - t) h1 h2
    rw [en] at m3
    refine ro_mb m3 z0 ?_
    have r1 : 1 ≤ r.p.2.natAbs := by omega
    have d1 : r.p.2.natAbs * 1 ≤ r.p.2.natAbs * q.p.2.natAbs := Nat.mul_le_mul_left _ q1
    have c1 : B * (1 + t.natAbs) ≤ B * (2 * (r.p.2.natAbs * q.p.2.natAbs)) := Nat.mul_le_mul_left B (by omega)
    have c2 : B * (2 * (r.p.2.natAbs * q.p.2.natAbs)) = 2 * (B * (r.p.2.natAbs * q.p.2.natAbs)) := Nat.mul_left_comm ..
    have c3 : 2 * 2 ^ (b + 2 * a + 2) = 2 ^ (b + 2 * a + 3) := by
      rw [show b + 2 * a + 3 = (b + 2 * a + 2) + 1 by omega, Nat.pow_succ 2 (b + 2 * a + 2), Nat.mul_comm]
    have c4 : 2 ^ (b + 2 * a + 3) < 2 ^ (b + 2 * a + 4) := Nat.pow_lt_pow_right (by decide) (by omega)
    omega
  | fin h1 h2 => exact absurd h1 h0
/-- a row with its step turned over -/
def swR (r : Rw) : Rw := ⟨(r.p.2, r.p.1), r.ns⟩
theorem sw_rb {a b n : Nat} {r : Rw} (h : Mb a b (swR r)) (ha : a ≤ n) (hb : b ≤ n) : Rb n r :=
  ⟨Nat.lt_of_lt_of_le h.1 (Nat.pow_le_pow_right (by decide) ha), Nat.lt_of_lt_of_le h.2.1 (Nat.pow_le_pow_right (by decide) hb), fun x hx => Nat.lt_of_lt_of_le (h.2.2 x hx) (Nat.pow_le_pow_right (by decide) hb)⟩
structure Fw (C : Rw → Prop) (g : Option Rw) : Prop where
  z : ∀ q, g = some q → 0 < q.p.1 ∧ C q
/-- what is kept while a step is put in first -/
structure Fo (C : Rw → Prop) (a b : Nat) (g0 : Option Rw) (r0 : Rw) (g : Option Rw) (r : Rw) : Prop where
  w : Fw C g
  l : C r
  ph : Ph a b (g.map swR) (swR r)
  e : r.p.1 = 0 → Mb a (b + 2 * a + 4) (swR r)
  le : Net.Le (pts g ++ [r.p]) (pts g0 ++ [r0.p])
  ge : Net.Le (pts g0 ++ [r0.p]) (pts g ++ [r.p])
section
variable {N a b : Nat} {C : Rw → Prop} {g0 g : Option Rw} {r0 q r : Rw} {t : Int}
theorem Fo.low (h : Fo C a b g0 r0 g r) : ∀ q, g = some q → Mb a (b + 2 * a + 3) (swR q) := fun q e => ph_low h.ph (swR q) (by rw [e]; rfl)
theorem Fo.row (h : Fo C a b g0 r0 (some q) r) (h0 : r.p.1 ≠ 0) : Mb a (b + 2 * a + 3) (swR r) := ph_row (q := swR q) h.ph h0
theorem Fo.turn (hC : Clo N C) (h : Fo C a b g0 r0 (some q) r) (h0 : r.p.1 ≠ 0) (ht : t = r.p.1.fdiv q.p.1) :
    (0 < (sumR r q (0 - t)).p.1 → Fo C a b g0 r0 (some (sumR r q (0 - t))) q ∧ (sumR r q (0 - t)).p.1.natAbs < q.p.1.natAbs) ∧
    ((sumR r q (0 - t)).p.1 = 0 → Fo C a b g0 r0 (some q) (sumR r q (0 - t))) ∧ 0 ≤ (sumR r q (0 - t)).p.1 := by
  obtain ⟨q2, q3⟩ := h.w.z q rfl
  have e := Int.mul_fdiv_add_fmod r.p.1 q.p.1
  have f1 := fm_ge (x := r.p.1) q2
  have f2 := fm_lt (x := r.p.1) q2
  have ez : (sumR r q (0 - t)).p.1 = r.p.1.fmod q.p.1 := by
    show r.p.1 + (0 - t) * q.p.1 = _
    rw [Int.zero_sub, Int.neg_mul, ht, Int.mul_comm]
    omega
  have el : C (sumR r q (0 - t)) := hC.sum _ _ _ h.l q3
  have sw := Net.pair_swap (p := r.p) (q := q.p) (m := 0 - t)
  have le := h.le
  have ge := h.ge
  simp only [pts, List.singleton_append] at le ge
  have s1 : Net.Le [q.p, (sumR r q (0 - t)).p] (pts g0 ++ [r0.p]) := sw.1.trans le
  have s2 : Net.Le (pts g0 ++ [r0.p]) [q.p, (sumR r q (0 - t)).p] := ge.trans sw.2
  refine ⟨fun hz => ⟨⟨⟨fun p hp => ?_⟩, q3, ph_turn (q := swR q) (r := swR r) h.ph q2 h0 ht hz, fun a => absurd a (by omega), ?_, ?_⟩, by rw [ez]; omega⟩, fun hz => ⟨h.w, el, .fin hz (ph_low h.ph), fun _ => ph_last (q := swR q) (r := swR r) h.ph q2 h0 ht hz, s1, s2⟩, by rw [ez]; exact f1⟩
  · cases hp
    exact ⟨hz, el⟩
  · exact Net.Le.swap.trans s1
  · exact s2.trans Net.Le.swap
end
theorem Le_put {f g f' g' : List (Int × Int)} {p q : Int × Int} (h1 : Net.Le (f' ++ [q]) (f ++ [p])) (h2 : Net.Le g' (g ++ [q])) : Net.Le (f' ++ g') (f ++ g ++ [p]) := fun w hw => by
  have t1 : Net.Le (f ++ [p]) (f ++ g ++ [p]) := fun v hv => by
    refine Net.Sn.mem ?_
    simp only [List.mem_append] at hv ⊢
    rcases hv with hv | hv
    · exact .inl (.inl hv)
    · exact .inr hv
  have t2 := h1.trans t1
  have t3 : Net.Le (g ++ [q]) (f ++ g ++ [p]) := fun v hv => by
    rcases List.mem_append.mp hv with hv | hv
    · exact Net.Sn.mem (by simp only [List.mem_append]; exact .inl (.inr hv))
    · exact t2 v (List.mem_append_right _ hv)
  rcases List.mem_append.mp hw with hw | hw
  · exact t2 w (List.mem_append_left _ hw)
  · exact (h2.trans t3) w hw
theorem Le_tup {f g f' g' : List (Int × Int)} {p q : Int × Int} (h1 : Net.Le (f ++ [p]) (f' ++ [q])) (h2 : Net.Le (g ++ [q]) g') : Net.Le (f ++ g ++ [p]) (f' ++ g') := fun w hw => by
  have r1 : Net.Le g' (f' ++ g') := fun v hv => Net.Sn.mem (List.mem_append_right _ hv)
  have t1 : Net.Le (f' ++ [q]) (f' ++ g') := fun v hv => by
    rcases List.mem_append.mp hv with hv | hv
    · exact Net.Sn.mem (List.mem_append_left _ hv)
    · exact (h2.trans r1) v (List.mem_append_right _ hv)
  have t2 := h1.trans t1
  simp only [List.mem_append] at hw
  rcases hw with (hw | hw) | hw
  · exact t2 w (List.mem_append_left _ hw)
  · exact (h2.trans r1) w (List.mem_append_left _ hw)
  · exact t2 w (List.mem_append_right _ hw)
theorem Le_one {f g : List (Int × Int)} {p q : Int × Int} (h : Net.Le [q] (f ++ [p])) : Net.Le ([q] ++ g) (f ++ g ++ [p]) :=
  Le_put (f' := [q]) (q := (0, 0)) (fun w hw => by
    rcases List.mem_append.mp hw with hw | hw
    · exact h w hw
    · rw [List.mem_singleton.mp hw]; exact .zero) (fun w hw => Net.Sn.mem (List.mem_append_left _ hw))
theorem Le_one' {f g : List (Int × Int)} {p q : Int × Int} (h : Net.Le (f ++ [p]) [q]) : Net.Le (f ++ g ++ [p]) ([q] ++ g) :=
  Le_tup (f' := [q]) (q := (0, 0)) (fun w hw => Net.Sn.trans (fun v hv => Net.Sn.mem (List.mem_append_left _ hv)) (h w hw)) (fun w hw => by
    rcases List.mem_append.mp hw with hw | hw
    · exact Net.Sn.mem hw
    · rw [List.mem_singleton.mp hw]; exact .zero)
/-- the rows that are handed out -/
def rowsOf : Option Rw → Option Rw → List Rw
  | some f, some g => [sumR f g (0 - f.p.2.fdiv g.p.2), g]
  | some f, none => [f]
  | none, some g => [g]
  | none, none => []
/-- the form of a net -/
inductive Nf : List (Int × Int) → Prop
  | nil : Nf []
  | one {x y : Int} : 0 < x → Nf [(x, y)]
  | low {z : Int} : 0 < z → Nf [(0, z)]
  | two {x y z : Int} : 0 < x → 0 ≤ y → y < z → Nf [(x, y), (0, z)]
theorem rows_nf {C : Rw → Prop} {f g : Option Rw} (hf : Fw C f) (hg : Lw C g) : Nf ((rowsOf f g).map (·.p)) := by
  cases f with
  | none =>
    cases g with
    | none => exact .nil
    | some g =>
      obtain ⟨h1, h2, _⟩ := hg.z g rfl
      show Nf [g.p]
      have e : g.p = (0, g.p.2) := by ext; exact h1; rfl
      rw [e]
      exact .low h2
  | some f =>
    obtain ⟨h0, _⟩ := hf.z f rfl
    cases g with
    | none => exact .one h0
    | some g =>
      obtain ⟨h1, h2, _⟩ := hg.z g rfl
      have e : g.p = (0, g.p.2) := by ext; exact h1; rfl
      have e1 := Int.mul_fdiv_add_fmod f.p.2 g.p.2
      have f1 := fm_ge (x := f.p.2) h2
      have f2 := fm_lt (x := f.p.2) h2
      show Nf [(f.p.1 + (0 - f.p.2.fdiv g.p.2) * g.p.1, f.p.2 + (0 - f.p.2.fdiv g.p.2) * g.p.2), g.p]
      have ez : f.p.2 + (0 - f.p.2.fdiv g.p.2) * g.p.2 = f.p.2.fmod g.p.2 := by
        rw [Int.zero_sub, Int.neg_mul, Int.mul_comm]
        omega
      rw [ez, h1, e]
      exact .two (by simp; exact h0) f1 f2
theorem rows_le {f g : Option Rw} : Net.Le ((rowsOf f g).map (·.p)) (pts f ++ pts g) ∧ Net.Le (pts f ++ pts g) ((rowsOf f g).map (·.p)) := by
  cases f with
  | none =>
    cases g with
    | none => exact ⟨Net.Le.refl, Net.Le.refl⟩
    | some g => exact ⟨Net.Le.refl, Net.Le.refl⟩
  | some f =>
    cases g with
    | none => exact ⟨Net.Le.refl, Net.Le.refl⟩
    | some g =>
      have sw := Net.pair_swap (p := f.p) (q := g.p) (m := 0 - f.p.2.fdiv g.p.2)
      exact ⟨(Net.Le.swap.trans sw.1).trans Net.Le.swap, (Net.Le.swap.trans sw.2).trans Net.Le.swap⟩
theorem rows_c {N : Nat} {C : Rw → Prop} (hC : Clo N C) {f g : Option Rw} (hf : Fw C f) (hg : Lw C g) : ∀ r, r ∈ rowsOf f g → C r := by
  cases f with
  | none =>
    cases g with
    | none => exact nofun
    | some g => exact fun r hr => by rw [List.mem_singleton.mp hr]; exact (hg.z g rfl).2.2
  | some f =>
    cases g with
    | none => exact fun r hr => by rw [List.mem_singleton.mp hr]; exact (hf.z f rfl).2
    | some g =>
      intro r hr
      rcases List.mem_cons.mp hr with rfl | hr
      · exact hC.sum _ _ _ (hf.z f rfl).2 (hg.z g rfl).2.2
      · rw [List.mem_singleton.mp hr]
        exact (hg.z g rfl).2.2
/-- bits of the rows after so many steps -/
def bF (n i : Nat) : Nat := n + 8 + i * (2 * n + 4)
def bA (n : Nat) : Nat := bF n 6
def bG (n i : Nat) : Nat := bA n + i * (2 * bA n + 4)
theorem bF_succ {n i : Nat} : bF n (i + 1) = bF n i + 2 * n + 4 := by
  unfold bF
  rw [Nat.succ_mul]
  omega
theorem bG_succ {n i : Nat} : bG n (i + 1) = bG n i + 2 * bA n + 4 := by
  unfold bG
  rw [Nat.succ_mul]
  omega
theorem bF_le {n i j : Nat} (h : i ≤ j) : bF n i ≤ bF n j := by
  unfold bF
  exact Nat.add_le_add_left (Nat.mul_le_mul_right _ h) _
theorem bA_le {n : Nat} (h : n ≤ 501) : bA n ≤ 8900 := by
  unfold bA bF
  omega
theorem bG_le {n i : Nat} (h : n ≤ 501) (hi : i ≤ 6) : bG n i ≤ 95000 := by
  unfold bG
  have a : bA n ≤ 6545 := by unfold bA bF; omega
  have b : i * (2 * bA n + 4) ≤ 6 * (2 * bA n + 4) := Nat.mul_le_mul_right _ hi
  omega
theorem bG_ge {n i : Nat} : bA n ≤ bG n i := by unfold bG; omega
/-- the numbers of the row for a token -/
def numsOf (N : Nat) (t : Int) : List Int := (List.range N).map fun (a : Nat) => (if decide ((a : Int) = t) = true then 1 else 0) - (if decide ((a : Int) = 0) = true then 1 else 0)
theorem numsOf_len {N : Nat} {t : Int} : (numsOf N t).length = N := by unfold numsOf; rw [List.length_map, List.length_range]
theorem numsOf_at {N : Nat} {t : Int} : ∀ a, a ∈ numsOf N t → a.natAbs < 2 ^ 8 := fun a ha => by
  unfold numsOf at ha
  obtain ⟨b, _, rfl⟩ := List.mem_map.mp ha
  split <;> split <;> decide
theorem numsOf_py {N : Nat} {t : Int} : ((List.range N).map fun (a : Nat) => PyData.int ((if decide ((a : Int) = t) = true then 1 else 0) - (if decide ((a : Int) = 0) = true then 1 else 0))) = (numsOf N t).map .int := by
  unfold numsOf
  rw [List.map_map]
  rfl
theorem rg2_at {N i : Nat} {x : PyData} (e : (intRange 1 (N : Int))[i]? = some x) : x = .int (1 + (i : Int)) ∧ i + 1 < N := by
  unfold intRange at e
  rw [List.getElem?_map] at e
  cases q : (List.range ((N : Int) - 1).toNat)[i]? with
  | none => rw [q] at e; cases e
  | some y =>
    rw [q] at e
    have hi := (List.getElem?_eq_some_iff.mp q).1
    rw [List.length_range] at hi
    rw [List.getElem?_range hi] at q
    cases q
    cases e
    exact ⟨rfl, by omega⟩
theorem rg2_len {N : Nat} : (intRange 1 (N : Int)).length = N - 1 := by
  unfold intRange
  rw [List.length_map, List.length_range]
  omega
/-- what comes of places taken so often -/
def cmb : List Int → List (Int × Int) → Int × Int
  | n :: ns, p :: l => (n * p.1 + (cmb ns l).1, n * p.2 + (cmb ns l).2)
  | _, _ => (0, 0)
/-- a row's numbers show its step -/
def Cf (l : List (Int × Int)) (r : Rw) : Prop := r.ns.length = l.length ∧ r.ns.sum = 0 ∧ r.p = cmb r.ns l
theorem cmb_sum {m : Int} : ∀ {l : List (Int × Int)} {ns ms : List Int}, ns.length = ms.length → cmb (List.zipWith (fun a b => a + m * b) ns ms) l = ((cmb ns l).1 + m * (cmb ms l).1, (cmb ns l).2 + m * (cmb ms l).2)
  | _, [], [], _ => by simp [cmb]
  | [], n :: ns, k :: ms, _ => by simp [cmb]
  | p :: l, n :: ns, k :: ms, h => by
    rw [List.zipWith_cons_cons]
    simp only [cmb]
    rw [cmb_sum (by simpa using h)]
    ext
    · simp only [Int.add_mul, Int.mul_add, Int.mul_assoc]
      omega
    · simp only [Int.add_mul, Int.mul_add, Int.mul_assoc]
      omega
theorem cmb_tim {m : Int} : ∀ {l : List (Int × Int)} {ns : List Int}, cmb (ns.map fun a => m * a) l = (m * (cmb ns l).1, m * (cmb ns l).2)
  | _, [] => by simp [cmb]
  | [], n :: ns => by simp [cmb]
  | p :: l, n :: ns => by
    rw [List.map_cons]
    simp only [cmb]
    rw [cmb_tim]
    ext
    · simp only [Int.mul_add, Int.mul_assoc]
    · simp only [Int.mul_add, Int.mul_assoc]
theorem sum_zip {m : Int} : ∀ {ns ms : List Int}, ns.length = ms.length → (List.zipWith (fun a b => a + m * b) ns ms).sum = ns.sum + m * ms.sum
  | [], [], _ => by simp
  | n :: ns, k :: ms, h => by
    rw [List.zipWith_cons_cons, List.sum_cons, List.sum_cons, List.sum_cons, sum_zip (by simpa using h), Int.mul_add]
    omega
theorem sum_tim {m : Int} : ∀ {ns : List Int}, (ns.map fun a => m * a).sum = m * ns.sum
  | [] => by simp
  | n :: ns => by
    rw [List.map_cons, List.sum_cons, List.sum_cons, sum_tim, Int.mul_add]
theorem cf_clo (l : List (Int × Int)) : Clo l.length (Cf l) := by
  refine ⟨fun r h => h.1, fun r q m h1 h2 => ?_, fun r m h => ?_⟩
  · obtain ⟨a1, a2, a3⟩ := h1
    obtain ⟨b1, b2, b3⟩ := h2
    refine ⟨?_, ?_, ?_⟩
    · unfold sumR
      simp only [List.length_zipWith, a1, b1, Nat.min_self]
    · unfold sumR
      simp only
      rw [sum_zip (a1.trans b1.symm), a2, b2]
      simp
    · unfold sumR
      simp only
      rw [cmb_sum (a1.trans b1.symm), ← a3, ← b3]
  · obtain ⟨a1, a2, a3⟩ := h
    refine ⟨?_, ?_, ?_⟩
    · unfold timR
      simp only [List.length_map, a1]
    · unfold timR
      simp only
      rw [sum_tim, a2]
      simp
    · unfold timR
      simp only
      rw [cmb_tim, ← a3]
      simp
/-- 1 at one place, 0 at all others -/
def dl : Nat → Nat → List Int
  | 0, _ => []
  | n + 1, 0 => 1 :: List.replicate n 0
  | n + 1, t + 1 => 0 :: dl n t
theorem dl_len : ∀ {n t : Nat}, (dl n t).length = n
  | 0, _ => rfl
  | n + 1, 0 => by simp [dl]
  | n + 1, t + 1 => by simp [dl, dl_len]
theorem dl_get : ∀ {n t a : Nat}, a < n → (dl n t)[a]? = some (if a = t then 1 else 0)
  | n + 1, 0, 0, _ => rfl
  | n + 1, 0, a + 1, h => by
    simp only [dl, List.getElem?_cons_succ]
    rw [List.getElem?_replicate, if_pos (by omega)]
    rfl
  | n + 1, t + 1, 0, _ => rfl
  | n + 1, t + 1, a + 1, h => by
    simp only [dl, List.getElem?_cons_succ]
    rw [dl_get (by omega)]
    by_cases e : a = t
    · rw [if_pos e, if_pos (by omega)]
    · rw [if_neg e, if_neg (by omega)]
theorem cmb_zero : ∀ {n : Nat} {l : List (Int × Int)}, cmb (List.replicate n 0) l = (0, 0)
  | 0, _ => rfl
  | n + 1, [] => rfl
  | n + 1, p :: l => by simp [List.replicate_succ, cmb, cmb_zero]
theorem cmb_dl : ∀ {l : List (Int × Int)} {t : Nat}, t < l.length → cmb (dl l.length t) l = atL l t
  | p :: l, 0, _ => by
    simp only [List.length_cons, dl, cmb, cmb_zero, atL]
    simp
  | p :: l, t + 1, h => by
    simp only [List.length_cons, dl, cmb]
    rw [cmb_dl (by simpa using h)]
    simp [atL]
theorem sum_dl : ∀ {n t : Nat}, t < n → (dl n t).sum = 1
  | n + 1, 0, _ => by simp [dl]
  | n + 1, t + 1, h => by
    simp only [dl, List.sum_cons]
    rw [sum_dl (by omega)]
    rfl
theorem numsOf_dl {N t : Nat} : numsOf N (t : Int) = List.zipWith (fun a b => a + (-1) * b) (dl N t) (dl N 0) := by
  apply List.ext_getElem?
  intro a
  unfold numsOf
  rw [List.getElem?_map, List.getElem?_zipWith]
  by_cases h : a < N
  · rw [List.getElem?_range h, dl_get h, dl_get h]
    simp only [Option.map_some, decide_eq_true_eq]
    congr 1
    by_cases e1 : a = t <;> by_cases e2 : a = 0 <;> simp [e1, e2] <;> omega
  · rw [List.getElem?_eq_none (by rw [List.length_range]; omega), List.getElem?_eq_none (by rw [dl_len]; omega)]
    rfl
theorem numsOf_cf {l : List (Int × Int)} {t : Nat} (h : t < l.length) : Cf l ⟨((atL l t).1 - (atL l 0).1, (atL l t).2 - (atL l 0).2), numsOf l.length (t : Int)⟩ := by
  have e : (dl l.length t).length = (dl l.length 0).length := dl_len.trans dl_len.symm
  refine ⟨numsOf_len, ?_, ?_⟩
  · simp only
    rw [numsOf_dl, sum_zip e, sum_dl h, sum_dl (by omega)]
    rfl
  · simp only
    rw [numsOf_dl, cmb_sum e, cmb_dl h, cmb_dl (by omega)]
    ext <;> simp only <;> omega
/-- what the program's Known holds after so many steps -/
structure Ko (l : List (Int × Int)) (n i : Nat) (f g : Option Rw) : Prop where
  fw : Fw (Cf l) f
  gw : Lw (Cf l) g
  fb : ∀ q, f = some q → Mb n (bF n i) (swR q)
  gb : ∀ q, g = some q → Mb (bA n) (bG n i) q
  le : Net.Le (pts f ++ pts g) ((waysOf l).take (i + 1))
  ge : Net.Le ((waysOf l).take (i + 1)) (pts f ++ pts g)
/-- what is told of a net -/
structure Nt (l nt : List (Int × Int)) : Prop where
  nf : Nf nt
  le : Net.Le nt (waysOf l)
  ge : Net.Le (waysOf l) nt
/-- there is a greatest number of each sort -/
theorem isg_dd (ws : List (Int × Int)) : ∃ M, Net.IsG (Net.DD ws) M := by
  refine ⟨Net.gAll (ws.flatMap fun u => ws.map fun w => Net.det u w) 0, fun d => ?_⟩
  rw [Net.gAll_dvd]
  constructor
  · exact fun h u hu w hw => h.2 _ (List.mem_flatMap.mpr ⟨u, hu, List.mem_map.mpr ⟨w, hw, rfl⟩⟩)
  · refine fun h => ⟨Int.dvd_zero d, fun x hx => ?_⟩
    obtain ⟨u, hu, hx⟩ := List.mem_flatMap.mp hx
    obtain ⟨w, hw, rfl⟩ := List.mem_map.mp hx
    exact h u hu w hw
theorem isg_d12 (ws : List (Int × Int)) : ∃ G, Net.IsG (Net.D12 ws) G := by
  refine ⟨Net.gAll (ws.flatMap fun u => [u.1, u.2]) 0, fun d => ?_⟩
  rw [Net.gAll_dvd]
  constructor
  · exact fun h => ⟨fun u hu => h.2 _ (List.mem_flatMap.mpr ⟨u, hu, by simp⟩), fun u hu => h.2 _ (List.mem_flatMap.mpr ⟨u, hu, by simp⟩)⟩
  · refine fun h => ⟨Int.dvd_zero d, fun x hx => ?_⟩
    obtain ⟨u, hu, hx⟩ := List.mem_flatMap.mp hx
    simp only [List.mem_cons, List.not_mem_nil, or_false] at hx
    rcases hx with rfl | rfl
    · exact h.1 u hu
    · exact h.2 u hu
theorem isg_1 (ws : List (Int × Int)) : Net.IsG (Net.D1 ws) (Net.gAll (ws.map (·.1)) 0) := fun d => by
  rw [Net.gAll_dvd]
  constructor
  · exact fun h w hw => h.2 _ (List.mem_map_of_mem hw)
  · refine fun h => ⟨Int.dvd_zero d, fun x hx => ?_⟩
    obtain ⟨w, hw, rfl⟩ := List.mem_map.mp hx
    exact h w hw
theorem isg_2 (ws : List (Int × Int)) : Net.IsG (Net.D2 ws) (Net.gAll (ws.map (·.2)) 0) := fun d => by
  rw [Net.gAll_dvd]
  constructor
  · exact fun h w hw => h.2 _ (List.mem_map_of_mem hw)
  · refine fun h => ⟨Int.dvd_zero d, fun x hx => ?_⟩
    obtain ⟨w, hw, rfl⟩ := List.mem_map.mp hx
    exact h w hw
theorem isg_abs {p : Int → Prop} {x : Int} (h : ∀ d, p d ↔ d ∣ x) : Net.IsG p x.natAbs := fun d => by
  rw [h d]
  exact Int.dvd_natAbs
theorem nt_one {ws : List (Int × Int)} {x y : Int} {M G : Nat} (h1 : Net.Le [(x, y)] ws) (h2 : Net.Le ws [(x, y)]) (h0 : x ≠ 0 ∨ y ≠ 0) (hM : Net.IsG (Net.DD ws) M) (hG : Net.IsG (Net.D12 ws) G) :
    M = 0 ∧ G ≠ 0 ∧ Net.gAll (ws.map (·.1)) 0 = x.natAbs ∧ Net.gAll (ws.map (·.2)) 0 = y.natAbs := by
  have d1 := Net.long_d1 h2 h1
  have d2 := Net.long_d2 h2 h1
  refine ⟨?_, fun e => ?_, (isg_1 ws).uniq (isg_abs d1), (isg_2 ws).uniq (isg_abs d2)⟩
  · exact Net.IsG.uniq hM (isg_abs (x := 0) fun d => ⟨fun _ => Int.dvd_zero d, fun _ => Net.long_dd h2 d⟩)
  · have z := (hG 0).mp (by rw [e]; exact Int.dvd_refl 0)
    have zx := (d1 0).mp z.1
    have zy := (d2 0).mp z.2
    have := Int.zero_dvd.mp zx
    have := Int.zero_dvd.mp zy
    omega
theorem nt_two {ws : List (Int × Int)} {x y z : Int} {M : Nat} (h1 : Net.Le [(x, y), (0, z)] ws) (h2 : Net.Le ws [(x, y), (0, z)]) (hM : Net.IsG (Net.DD ws) M) :
    M = (x * z).natAbs ∧ Net.gAll (ws.map (·.1)) 0 = x.natAbs := 
  ⟨hM.uniq (isg_abs (Net.wide_dd h2 h1)), (isg_1 ws).uniq (isg_abs (Net.wide_d1 h2 h1))⟩
theorem nt_nil {ws : List (Int × Int)} {M G : Nat} (h2 : Net.Le ws []) (hM : Net.IsG (Net.DD ws) M) (hG : Net.IsG (Net.D12 ws) G) : M = 0 ∧ G = 0 := by
  have h3 : Net.Le ws [(0, 0)] := h2.trans nofun
  have z : ∀ w, w ∈ ws → w = (0, 0) := fun w hw => by
    obtain ⟨a, e⟩ := Net.one_sn.mp (h3 w hw)
    rw [e]
    simp
  refine ⟨Net.IsG.uniq hM (isg_abs (x := 0) fun d => ⟨fun _ => Int.dvd_zero d, fun _ => Net.long_dd h3 d⟩), Net.IsG.uniq hG (isg_abs (x := 0) fun d => ⟨fun _ => Int.dvd_zero d, fun _ => ?_⟩)⟩
  exact ⟨fun w hw => by rw [z w hw]; exact Int.dvd_zero d, fun w hw => by rw [z w hw]; exact Int.dvd_zero d⟩
theorem dd_small {ws : List (Int × Int)} {M B : Nat} (hM : Net.IsG (Net.DD ws) M) (hB : ∀ u, u ∈ ws → ∀ w, w ∈ ws → (Net.det u w).natAbs ≤ B) : M ≤ B := by
  by_cases h : Net.DD ws 0
  · have e := (hM 0).mpr h
    have := Int.zero_dvd.mp e
    omega
  · refine Classical.byContradiction fun hb => h fun u hu w hw => ?_
    have d := (hM (M : Int)).mp (Int.dvd_refl _) u hu w hw
    have b := hB u hu w hw
    have e : Net.det u w = 0 := by
      refine Classical.byContradiction fun h0 => ?_
      have := Int.natAbs_dvd_natAbs.mpr d
      have := Nat.le_of_dvd (by omega) this
      omega
    rw [e]
    exact Int.dvd_refl 0
theorem det_small {u w : Int × Int} {n : Nat} (h1 : u.1.natAbs < 2 ^ n ∧ u.2.natAbs < 2 ^ n) (h2 : w.1.natAbs < 2 ^ n ∧ w.2.natAbs < 2 ^ n) : (Net.det u w).natAbs ≤ 2 ^ n * 2 ^ n + 2 ^ n * 2 ^ n := by
  unfold Net.det
  have a1 : (u.1 * w.2).natAbs ≤ 2 ^ n * 2 ^ n := by
    rw [Int.natAbs_mul]
    exact Nat.mul_le_mul (by omega) (by omega)
  have a2 : (u.2 * w.1).natAbs ≤ 2 ^ n * 2 ^ n := by
    rw [Int.natAbs_mul]
    exact Nat.mul_le_mul (by omega) (by omega)
  omega
theorem ways_len {l : List (Int × Int)} : (waysOf l).length = l.length := List.length_map ..
theorem ways_bn {n : Nat} {l : List (Int × Int)} (h : Bn n l) (h0 : 1 ≤ l.length) : Bn (n + 1) (waysOf l) := fun p hp => by
  unfold waysOf at hp
  obtain ⟨q, hq, rfl⟩ := List.mem_map.mp hp
  have a := h q hq
  have b := h _ (at_mem (show 0 < l.length by omega))
  rw [Nat.pow_succ]
  simp only
  omega
theorem gAll_le {B : Nat} {xs : List Int} (h : ∀ x, x ∈ xs → x.natAbs ≤ B) : Net.gAll xs 0 ≤ B := by
  have d := (Net.gAll_dvd (d := (Net.gAll xs 0 : Nat)) (l := xs) (g := 0)).mp (Int.dvd_refl _)
  by_cases z : ∀ x, x ∈ xs → x = 0
  · have := (Net.gAll_dvd (d := 0) (l := xs) (g := 0)).mpr ⟨Int.dvd_refl 0, fun x hx => by rw [z x hx]; exact Int.dvd_refl 0⟩
    have := Int.zero_dvd.mp this
    omega
  · refine Classical.byContradiction fun hb => z fun x hx => ?_
    refine Classical.byContradiction fun h0 => ?_
    have := Int.natAbs_dvd_natAbs.mpr (d.2 x hx)
    have := Nat.le_of_dvd (by omega) this
    have := h x hx
    omega
/-- the numbers of a net are small where the lay's are -/
theorem nt_small {n : Nat} {l nt : List (Int × Int)} (h : Nt l nt) (hb : Bn n l) (h0 : 1 ≤ l.length) : Bn (2 * n + 5) nt := by
  obtain ⟨M, hM⟩ := isg_dd (waysOf l)
  obtain ⟨G, hG⟩ := isg_d12 (waysOf l)
  have wb := ways_bn hb h0
  have g1 : Net.gAll ((waysOf l).map (·.1)) 0 ≤ 2 ^ (n + 1) := gAll_le fun x hx => by
    obtain ⟨w, hw, rfl⟩ := List.mem_map.mp hx
    have := (wb w hw).1
    omega
  have g2 : Net.gAll ((waysOf l).map (·.2)) 0 ≤ 2 ^ (n + 1) := gAll_le fun x hx => by
    obtain ⟨w, hw, rfl⟩ := List.mem_map.mp hx
    have := (wb w hw).2
    omega
  have mb : M ≤ 2 ^ (n + 1) * 2 ^ (n + 1) + 2 ^ (n + 1) * 2 ^ (n + 1) := dd_small hM fun u hu w hw => det_small (wb u hu) (wb w hw)
  have e1 : 2 ^ (n + 1) * 2 ^ (n + 1) = 2 ^ (2 * n + 2) := by rw [← Nat.pow_add]; congr 1; omega
  have e2 : 2 ^ (2 * n + 5) = 8 * 2 ^ (2 * n + 2) := by rw [show 2 * n + 5 = (2 * n + 2) + 3 by omega, Nat.pow_add]; omega
  have e3 : 2 ^ (n + 1) ≤ 2 ^ (2 * n + 2) := Nat.pow_le_pow_right (by decide) (by omega)
  have e4 : 0 < 2 ^ (2 * n + 2) := Nat.two_pow_pos _
  rw [e1] at mb
  show ∀ p, p ∈ nt → p.1.natAbs < 2 ^ (2 * n + 5) ∧ p.2.natAbs < 2 ^ (2 * n + 5)
  rw [e2]
  generalize 2 ^ (2 * n + 2) = P at *
  obtain ⟨nf, le, ge⟩ := h
  cases nf with
  | nil => intro p hp; cases hp
  | @one x y hx =>
    obtain ⟨h1, h2, h3, h4⟩ := nt_one le ge (.inl (by omega)) hM hG
    intro p hp
    rw [List.mem_singleton.mp hp]
    simp only
    omega
  | @low z hz =>
    obtain ⟨h1, h2, h3, h4⟩ := nt_one le ge (.inr (by omega)) hM hG
    intro p hp
    rw [List.mem_singleton.mp hp]
    simp only
    omega
  | @two x y z hx hy hz =>
    obtain ⟨h1, h2⟩ := nt_two le ge hM
    have p : 0 < x * z := Int.mul_pos hx (by omega)
    have a1 := Int.mul_le_mul_of_nonneg_right (show 1 ≤ x by omega) (show 0 ≤ z by omega)
    have a2 := Int.mul_le_mul_of_nonneg_left (show 1 ≤ z by omega) (show 0 ≤ x by omega)
    intro p hp
    rcases List.mem_cons.mp hp with rfl | hp
    · simp only
      omega
    · rw [List.mem_singleton.mp hp]
      simp only
      omega
theorem sn_same {ws : List (Int × Int)} {v : Int × Int} (h : Net.Sn ws v) : (∀ d, Net.DD ws d ↔ Net.DD (ws ++ [v]) d) ∧ (Net.DD ws 0 → ∀ d, Net.D12 ws d ↔ Net.D12 (ws ++ [v]) d) := by
  have l1 : Net.Le ws (ws ++ [v]) := Net.Le.left
  have l2 : Net.Le (ws ++ [v]) ws := Net.Le.refl.snoc h
  exact ⟨fun d => ⟨l2.dd, l1.dd⟩, fun _ d => ⟨fun k => ⟨l2.d1 k.1, l2.d2 k.2⟩, fun k => ⟨l1.d1 k.1, l1.d2 k.2⟩⟩⟩
/-- what the law's sizes must be -/
def szP : List (Int × Int) → PyData
  | [] => .none
  | [p] => .tuple [.int p.1, .int (p.2.natAbs : Nat)]
  | p :: q :: _ => .tuple [.int p.1, .int q.2]
theorem nt_key {n : Nat} {l nt : List (Int × Int)} {M G : Nat} (h : Nt l nt) (hb : Bn n l) (hl : 1 ≤ l.length) (hn : n ≤ 4000) (hM : Net.IsG (Net.DD (waysOf l)) M) (hG : Net.IsG (Net.D12 (waysOf l)) G) :
    (nt = [] ∧ M = 0 ∧ G = 0) ∨ (nt ≠ [] ∧ M = 0 ∧ G ≠ 0 ∧ szP nt = .tuple [.int (Net.gAll ((waysOf l).map (·.1)) 0 : Nat), .int (Net.gAll ((waysOf l).map (·.2)) 0 : Nat)]) ∨
      (nt ≠ [] ∧ M ≠ 0 ∧ szP nt = .tuple [.int (Net.gAll ((waysOf l).map (·.1)) 0 : Nat), .int ((M : Int).fdiv (Net.gAll ((waysOf l).map (·.1)) 0 : Nat))] ∧ divOk (Net.gAll ((waysOf l).map (·.1)) 0 : Nat) = true) := by
  have bn := nt_small h hb hl
  obtain ⟨nf, le, ge⟩ := h
  cases nf with
  | nil => exact .inl ⟨rfl, nt_nil ge hM hG⟩
  | @one x y hx =>
    obtain ⟨h1, h2, h3, h4⟩ := nt_one le ge (.inl (by omega)) hM hG
    refine .inr (.inl ⟨nofun, h1, h2, ?_⟩)
    rw [h3, h4]
    have e : ((x.natAbs : Nat) : Int) = x := by omega
    rw [e]
    rfl
  | @low z hz =>
    obtain ⟨h1, h2, h3, h4⟩ := nt_one le ge (.inr (by omega)) hM hG
    refine .inr (.inl ⟨nofun, h1, h2, ?_⟩)
    rw [h3, h4]
    rfl
  | @two x y z hx hy hz =>
    obtain ⟨h1, h2⟩ := nt_two le ge hM
    have e : ((x.natAbs : Nat) : Int) = x := by omega
    have p : 0 < x * z := Int.mul_pos hx (by omega)
    have eM : ((M : Nat) : Int) = x * z := by rw [h1]; omega
    refine .inr (.inr ⟨nofun, by omega, ?_, ?_⟩)
    · rw [h2, eM, e, Int.mul_fdiv_cancel_left _ (by omega)]
      rfl
    · rw [h2, e]
      unfold divOk
      rw [Bool.and_eq_true]
      have b := bn (x, y) (by simp)
      refine ⟨decide_eq_true (by omega), decide_eq_true ?_⟩
      have := log2_le b.1
      simp only at this
      omega
theorem lin_one {x y a : Int} (hx : 0 < x) (e : x = a * x) : a = 1 := by
  have : (a - 1) * x = 0 := by rw [Int.sub_mul, Int.one_mul]; omega
  rcases Int.mul_eq_zero.mp this with h | h <;> omega
theorem mod_one {y y' b z : Int} (h1 : 0 ≤ y) (h2 : y < z) (h3 : 0 ≤ y') (h4 : y' < z) (e : y = y' + b * z) : y = y' := by
  have hb : b = 0 := by
    rcases Int.lt_trichotomy b 0 with k | k | k
    · have := Int.mul_le_mul_of_nonneg_right (show b ≤ -1 by omega) (show 0 ≤ z by omega)
      omega
    · exact k
    · have := Int.mul_le_mul_of_nonneg_right (show 1 ≤ b by omega) (show 0 ≤ z by omega)
      omega
  rw [e, hb]
  simp
theorem nt_uniq {l nt nt' : List (Int × Int)} (h : Nt l nt) (h' : Nt l nt') : nt = nt' := by
  obtain ⟨M, hM⟩ := isg_dd (waysOf l)
  obtain ⟨G, hG⟩ := isg_d12 (waysOf l)
  obtain ⟨nf, le, ge⟩ := h
  obtain ⟨nf', le', ge'⟩ := h'
  have cr := le.trans ge'
  cases nf with
  | nil =>
    obtain ⟨a1, a2⟩ := nt_nil ge hM hG
    cases nf' with
    | nil => rfl
    | @one x y hx => exact absurd a2 (nt_one le' ge' (.inl (by omega)) hM hG).2.1
    | @low z hz => exact absurd a2 (nt_one le' ge' (.inr (by omega)) hM hG).2.1
    | @two x y z hx hy hz =>
      have p : 0 < x * z := Int.mul_pos hx (by omega)
      have := (nt_two le' ge' hM).1
      omega
  | @one x y hx =>
    obtain ⟨a1, a2, a3, a4⟩ := nt_one le ge (.inl (by omega)) hM hG
    cases nf' with
    | nil => exact absurd (nt_nil ge' hM hG).2 a2
    | @one x' y' hx' =>
      obtain ⟨b1, b2, b3, b4⟩ := nt_one le' ge' (.inl (by omega)) hM hG
      have ex : x = x' := by omega
      subst ex
      obtain ⟨a, e⟩ := Net.one_sn.mp (cr (x, y) (by simp))
      simp only [Prod.mk.injEq] at e
      have ha := lin_one (y := 0) hx e.1
      rw [ha] at e
      rw [show y = y' by omega]
    | @low z hz =>
      obtain ⟨b1, b2, b3, b4⟩ := nt_one le' ge' (.inr (by omega)) hM hG
      omega
    | @two x' y' z hx' hy hz =>
      have p : 0 < x' * z := Int.mul_pos hx' (by omega)
      have := (nt_two le' ge' hM).1
      omega
  | @low z hz =>
    obtain ⟨a1, a2, a3, a4⟩ := nt_one le ge (.inr (by omega)) hM hG
    cases nf' with
    | nil => exact absurd (nt_nil ge' hM hG).2 a2
    | @one x' y' hx' =>
      obtain ⟨b1, b2, b3, b4⟩ := nt_one le' ge' (.inl (by omega)) hM hG
      omega
    | @low z' hz' =>
      obtain ⟨b1, b2, b3, b4⟩ := nt_one le' ge' (.inr (by omega)) hM hG
      have ez : z = z' := by omega
      rw [ez]
    | @two x' y' z' hx' hy hz' =>
      have p : 0 < x' * z' := Int.mul_pos hx' (by omega)
      have := (nt_two le' ge' hM).1
      omega
  | @two x y z hx hy hz =>
    obtain ⟨a1, a2⟩ := nt_two le ge hM
    have p : 0 < x * z := Int.mul_pos hx (by omega)
    cases nf' with
    | nil =>
      have := (nt_nil ge' hM hG).1
      omega
    | @one x' y' hx' =>
      have := (nt_one le' ge' (.inl (by omega)) hM hG).1
      omega
    | @low z' hz' =>
      have := (nt_one le' ge' (.inr (by omega)) hM hG).1
      omega
    | @two x' y' z' hx' hy' hz' =>
      obtain ⟨b1, b2⟩ := nt_two le' ge' hM
      have p' : 0 < x' * z' := Int.mul_pos hx' (by omega)
      have ex : x = x' := by omega
      subst ex
      have ez : z = z' := Int.eq_of_mul_eq_mul_left (show x ≠ 0 by omega) (by omega)
      subst ez
      obtain ⟨a, b, e⟩ := Net.two_sn.mp (cr (x, y) (by simp))
      simp only [Prod.mk.injEq] at e
      have ha := lin_one (y := 0) hx e.1
      rw [ha] at e
      rw [mod_one (b := b) hy hz hy' hz' (by omega)]
theorem step_only {ws : List (Int × Int)} {x y y' z : Int} (h1 : Net.Le [(x, y), (0, z)] ws) (h2 : Net.Le ws [(x, y), (0, z)]) (hx : 0 < x) (y0 : 0 ≤ y) (y1 : y < z) (z0 : 0 ≤ y') (z1 : y' < z)
    (hd : ∀ d, Net.DD ws d ↔ Net.DD (ws ++ [(x, y')]) d) : y' = y := by
  have d1 : Net.DD (ws ++ [(x, y')]) (x * z) := (hd _).mp ((Net.wide_dd h2 h1 _).mpr (Int.dvd_refl _))
  have s1 : Net.Sn (ws ++ [(x, y')]) (x, y) := Net.Sn.trans Net.Le.left (h1 (x, y) (by simp))
  have s2 : Net.Sn (ws ++ [(x, y')]) (x, y') := Net.Sn.mem (by simp)
  have d2 : x * z ∣ Net.det (x, y) (x, y') := Net.Sn.dvd_det d1 s1 s2
  have e : Net.det (x, y) (x, y') = x * (y' - y) := by
    unfold Net.det
    simp only
    rw [Int.mul_sub, Int.mul_comm y x]
  rw [e] at d2
  have d3 : z ∣ y' - y := Int.dvd_of_mul_dvd_mul_left (by omega) d2
  obtain ⟨b, hb⟩ := d3
  exact mod_one (b := b) z0 z1 y0 y1 (by rw [Int.mul_comm b z]; omega)
/-- a way of a net in a line, and what the law makes of it -/
theorem long_way {x y a : Int} {g : Nat} (ha : a ≠ 0) (hg : g = Int.gcd x y) (h0 : g ≠ 0) : ((Int.gcd (a * x) (a * y) : Nat) : Int).fdiv g = (a.natAbs : Nat) := by
  rw [Int.gcd_mul_left, hg, Int.natCast_mul, Int.mul_fdiv_cancel _ (by omega)]
theorem sgn_div {a x : Int} (ha : a ≠ 0) : (a * x).fdiv (a.natAbs : Nat) = if 0 < a then x else -x := by
  by_cases h : 0 < a
  · rw [if_pos h, show ((a.natAbs : Nat) : Int) = a by omega, Int.mul_fdiv_cancel_left _ ha]
  · rw [if_neg h, show a * x = ((a.natAbs : Nat) : Int) * (-x) by rw [show ((a.natAbs : Nat) : Int) = -a by omega, Int.neg_mul_neg], Int.mul_fdiv_cancel_left _ (by omega)]
theorem long_g {ws : List (Int × Int)} {x y : Int} {G : Nat} (h1 : Net.Le [(x, y)] ws) (h2 : Net.Le ws [(x, y)]) (hG : Net.IsG (Net.D12 ws) G) : G = Int.gcd x y := by
  refine hG.uniq fun d => ?_
  rw [Net.gcd_dvd]
  exact ⟨fun h => ⟨(Net.long_d1 h2 h1 d).mpr h.1, (Net.long_d2 h2 h1 d).mpr h.2⟩, fun h => ⟨(Net.long_d1 h2 h1 d).mp h.1, (Net.long_d2 h2 h1 d).mp h.2⟩⟩
theorem eq_pl (p q : Int × Int) : eqP (pl p) (pl q) = some (decide (p = q)) := by
  have sh : ∀ a : Int × Int, SeqAt.shaped (pl a) = true := fun a => by
    obtain ⟨h1, h2⟩ := pl_ok a
    unfold SeqAt.shaped
    rw [h1, Bool.true_and]
    exact decide_eq_true (by omega)
  have e : eqP (pl p) (pl q) = if SeqAt.shaped (pl p) = true ∧ SeqAt.shaped (pl q) = true then some (PyData.eqv (pl p) (pl q)) else none := rfl
  rw [e, if_pos ⟨sh _, sh _⟩]
  congr 1
  rw [Bool.eq_iff_iff, decide_eq_true_eq]
  simp only [pl, PyData.eqv, PyData.eqvAll, Bool.and_true, Bool.and_eq_true, beq_iff_eq]
  exact ⟨fun h => Prod.ext h.1 h.2, fun h => by rw [h]; exact ⟨rfl, rfl⟩⟩
/-- the first way of a net in a line that is no rest -/
theorem long_first {ws : List (Int × Int)} {x y : Int} {G : Nat} (h2 : Net.Le ws [(x, y)]) (hG : Net.IsG (Net.D12 ws) G) (h0 : G ≠ 0) :
    ∃ w a, (ws.filter fun w => !decide (w = (0, 0)))[0]? = some w ∧ w ∈ ws ∧ a ≠ 0 ∧ w = (a * x, a * y) := by
  cases q : (ws.filter fun w => !decide (w = (0, 0)))[0]? with
  | none =>
    have e0 : (ws.filter fun w => !decide (w = (0, 0))) = [] := List.eq_nil_of_length_eq_zero (by have := List.getElem?_eq_none_iff.mp q; omega)
    have z : ∀ w, w ∈ ws → w = (0, 0) := fun w hw => by
      have := List.filter_eq_nil_iff.mp e0 w hw
      simpa using this
    have d : Net.D12 ws 0 := ⟨fun w hw => by rw [z w hw]; exact Int.dvd_refl 0, fun w hw => by rw [z w hw]; exact Int.dvd_refl 0⟩
    have := Int.zero_dvd.mp ((hG 0).mpr d)
    omega
  | some w =>
    obtain ⟨m, c⟩ := List.mem_filter.mp (List.mem_of_getElem? q)
    obtain ⟨a, e⟩ := Net.one_sn.mp (h2 w m)
    refine ⟨w, a, rfl, m, fun ha => ?_, e⟩
    rw [e, ha] at c
    simp at c
end IP
namespace Net
theorem least {p : Nat → Prop} (h : ∃ n, p n) : ∃ n, p n ∧ ∀ m, p m → n ≤ m := by
  obtain ⟨n, hn⟩ := h
  induction n using Nat.strongRecOn with
  | ind n ih =>
    by_cases q : ∃ m, m < n ∧ p m
    · obtain ⟨m, hm, pm⟩ := q
      exact ih m hm pm
    · exact ⟨n, hn, fun m pm => Classical.byContradiction fun hm => q ⟨m, by omega, pm⟩⟩
/-- all with first number 0 are multiples of one, or (0, 0) alone -/
theorem low_ex (ws : List P2) : (∀ b, Sn ws (0, b) → b = 0) ∨ ∃ z, 0 < z ∧ Sn ws (0, z) ∧ ∀ b, Sn ws (0, b) → ∃ k, b = k * z := by
  by_cases h : ∃ n : Nat, 0 < n ∧ Sn ws (0, (n : Int))
  · obtain ⟨n, ⟨n0, hn⟩, hm⟩ := least h
    refine .inr ⟨n, by omega, hn, fun b hb => ⟨b.fdiv n, ?_⟩⟩
    have e := Int.mul_fdiv_add_fmod b n
    have f1 := Int.fmod_nonneg_of_pos b (show 0 < (n : Int) by omega)
    have f2 := Int.fmod_lt_of_pos b (show 0 < (n : Int) by omega)
    have s := Sn.lin 1 (-(b.fdiv n)) hb hn
    simp only [Int.mul_zero, Int.add_zero, Int.one_mul] at s
    have e2 : b + -(b.fdiv n) * n = b.fmod n := by rw [Int.neg_mul, Int.mul_comm]; omega
    rw [e2] at s
    by_cases z : b.fmod n = 0
    · rw [Int.mul_comm]; omega
    · have := hm (b.fmod n).toNat ⟨by omega, by rw [Int.toNat_of_nonneg f1]; exact s⟩
      omega
  · refine .inl fun b hb => Classical.byContradiction fun b0 => h ⟨b.natAbs, by omega, ?_⟩
    by_cases p : 0 ≤ b
    · rw [Int.natAbs_of_nonneg p]
      exact hb
    · have s := hb.times (-1)
      simp only [Int.mul_zero] at s
      have e : ((b.natAbs : Nat) : Int) = -1 * b := by omega
      rw [e]
      exact s
theorem first_ex (ws : List P2) : (∀ v, Sn ws v → v.1 = 0) ∨ ∃ p : P2, 0 < p.1 ∧ Sn ws p ∧ ∀ v, Sn ws v → ∃ k, v.1 = k * p.1 := by
  by_cases h : ∃ n : Nat, 0 < n ∧ ∃ y, Sn ws ((n : Int), y)
  · obtain ⟨n, ⟨n0, y, hn⟩, hm⟩ := least h
    refine .inr ⟨((n : Int), y), by simp only; omega, hn, fun v hv => ⟨v.1.fdiv n, ?_⟩⟩
    have e := Int.mul_fdiv_add_fmod v.1 n
    have f1 := Int.fmod_nonneg_of_pos v.1 (show 0 < (n : Int) by omega)
    have f2 := Int.fmod_lt_of_pos v.1 (show 0 < (n : Int) by omega)
    have s := Sn.lin 1 (-(v.1.fdiv n)) hv hn
    simp only [Int.one_mul] at s
    have e2 : v.1 + -(v.1.fdiv n) * n = v.1.fmod n := by rw [Int.neg_mul, Int.mul_comm]; omega
    rw [e2] at s
    by_cases z : v.1.fmod n = 0
    · simp only
      rw [Int.mul_comm]; omega
    · have := hm (v.1.fmod n).toNat ⟨by omega, _, by rw [Int.toNat_of_nonneg f1]; exact s⟩
      omega
  · refine .inl fun v hv => Classical.byContradiction fun b0 => h ⟨v.1.natAbs, by omega, ?_⟩
    by_cases p : 0 ≤ v.1
    · rw [Int.natAbs_of_nonneg p]
      exact ⟨v.2, hv⟩
    · have s := hv.times (-1)
      have e : ((v.1.natAbs : Nat) : Int) = -1 * v.1 := by omega
      rw [e]
      exact ⟨_, s⟩
end Net
namespace IP
open PySem PySem.Spec PyProof.Rows L2
theorem nf_ex (ws : List (Int × Int)) : ∃ nt, Nf nt ∧ Net.Le nt ws ∧ Net.Le ws nt := by
  rcases Net.first_ex ws with h | ⟨p, p0, hp, h⟩
  · rcases Net.low_ex ws with k | ⟨z, z0, hz, k⟩
    · refine ⟨[], .nil, nofun, fun w hw => ?_⟩
      have s := Net.Sn.mem hw
      have e1 := h w s
      have e : w = (0, w.2) := by ext; exact e1; rfl
      rw [e] at s ⊢
      rw [k _ s]
      exact .zero
    · refine ⟨[(0, z)], .low z0, fun w hw => by rw [List.mem_singleton.mp hw]; exact hz, fun w hw => ?_⟩
      have s := Net.Sn.mem hw
      have e1 := h w s
      have e : w = (0, w.2) := by ext; exact e1; rfl
      rw [e] at s ⊢
      obtain ⟨a, ea⟩ := k _ s
      rw [Net.one_sn]
      exact ⟨a, by rw [← ea]; simp⟩
  · rcases Net.low_ex ws with k | ⟨z, z0, hz, k⟩
    · refine ⟨[p], .one p0, fun w hw => by rw [List.mem_singleton.mp hw]; exact hp, fun w hw => ?_⟩
      have s := Net.Sn.mem hw
      obtain ⟨a, ea⟩ := h w s
      have t := Net.Sn.lin 1 (-a) s hp
      simp only [Int.one_mul, Int.neg_mul] at t
      have e0 : w.1 + -(a * p.1) = 0 := by omega
      rw [e0] at t
      have := k _ t
      show Net.Sn [(p.1, p.2)] w
      rw [Net.one_sn]
      exact ⟨a, by ext; exact ea; simp only; omega⟩
    · refine ⟨[(p.1, p.2.fmod z), (0, z)], .two p0 (Int.fmod_nonneg_of_pos _ z0) (Int.fmod_lt_of_pos _ z0), fun w hw => ?_, fun w hw => ?_⟩
      · simp only [List.mem_cons, List.not_mem_nil, or_false] at hw
        rcases hw with rfl | rfl
        · have t := Net.Sn.lin 1 (-(p.2.fdiv z)) hp hz
          simp only [Int.one_mul, Int.mul_zero, Int.add_zero] at t
          have e := Int.mul_fdiv_add_fmod p.2 z
          have e2 : p.2 + -(p.2.fdiv z) * z = p.2.fmod z := by rw [Int.neg_mul, Int.mul_comm]; omega
          rw [e2] at t
          exact t
        · exact hz
      · have s := Net.Sn.mem hw
        obtain ⟨a, ea⟩ := h w s
        have t := Net.Sn.lin 1 (-a) s hp
        simp only [Int.one_mul, Int.neg_mul] at t
        have e0 : w.1 + -(a * p.1) = 0 := by omega
        rw [e0] at t
        obtain ⟨b, eb⟩ := k _ t
        rw [Net.two_sn]
        have e := Int.mul_fdiv_add_fmod p.2 z
        refine ⟨a, b + a * p.2.fdiv z, ?_⟩
        ext
        · exact ea
        · simp only
          have e3 : a * p.2 = a * (z * p.2.fdiv z) + a * p.2.fmod z := by rw [← Int.mul_add, e]
          rw [Int.add_mul, Int.mul_assoc a, Int.mul_comm (p.2.fdiv z) z]
          omega
theorem nt_ex (l : List (Int × Int)) : ∃ nt, Nt l nt := by
  obtain ⟨nt, h1, h2, h3⟩ := nf_ex (waysOf l)
  exact ⟨nt, h1, h2, h3⟩
theorem coprime_mul {x y a b : Int} (hx : x ≠ 0) (h : x * b = y * a) (g1 : (Int.gcd x y : Int) ∣ a) (g2 : (Int.gcd x y : Int) ∣ b) : ∃ k : Int, a = k * x ∧ b = k * y := by
  obtain ⟨c, hc⟩ := g1
  obtain ⟨d, hd⟩ := g2
  have g0 : (Int.gcd x y : Int) ≠ 0 := by
    intro z
    have := Int.gcd_eq_zero_iff.mp (show Int.gcd x y = 0 by omega)
    exact hx this.1
  -- x d = y c
  have e1 : x * d = y * c := by
    have : (Int.gcd x y : Int) * (x * d) = (Int.gcd x y : Int) * (y * c) := by
      rw [Int.mul_left_comm, ← hd, h, hc, Int.mul_left_comm]
    exact Int.eq_of_mul_eq_mul_left g0 this
  have d1 : x ∣ c * y := ⟨d, by rw [Int.mul_comm c]; exact e1.symm⟩
  have d2 := Int.dvd_mul_gcd_iff_dvd_mul.mpr d1
  rw [Int.mul_comm, ← hc] at d2
  obtain ⟨k, hk⟩ := d2
  refine ⟨k, by rw [hk, Int.mul_comm], Int.eq_of_mul_eq_mul_left hx ?_⟩
  rw [h, hk, Int.mul_left_comm, Int.mul_comm y k]
/-- a step that makes no measure less is a step -/
theorem step_iff {ws : List (Int × Int)} {v : Int × Int} : ((∀ d, Net.DD ws d ↔ Net.DD (ws ++ [v]) d) ∧ (Net.DD ws 0 → ∀ d, Net.D12 ws d ↔ Net.D12 (ws ++ [v]) d)) ↔ Net.Sn ws v := by
  refine ⟨fun ⟨h1, h2⟩ => ?_, sn_same⟩
  obtain ⟨nt, nf, le, ge⟩ := nf_ex ws
  have long : ∀ x y : Int, (x ≠ 0 ∨ y ≠ 0) → Net.Le [(x, y)] ws → Net.Le ws [(x, y)] → Net.Sn ws v := fun x y hxy le ge => by
    have d0 : Net.DD ws 0 := Net.long_dd ge 0
    have h2 := h2 d0
    have s1 : Net.Sn (ws ++ [v]) (x, y) := Net.Sn.trans Net.Le.left (le (x, y) (by simp))
    have s2 : Net.Sn (ws ++ [v]) v := Net.Sn.mem (by simp)
    have dt := Int.zero_dvd.mp (Net.Sn.dvd_det ((h1 0).mp d0) s1 s2)
    unfold Net.det at dt
    have dg : Net.D12 ws (Int.gcd x y : Nat) := ⟨(Net.long_d1 ge le _).mpr (Int.gcd_dvd_left ..), (Net.long_d2 ge le _).mpr (Int.gcd_dvd_right ..)⟩
    have dv := (h2 _).mp dg
    have v1 := dv.1 v (by simp)
    have v2 := dv.2 v (by simp)
    refine Net.Sn.trans le (Net.one_sn.mpr ?_)
    rcases hxy with hx | hy
    · obtain ⟨k, e1, e2⟩ := coprime_mul hx (show x * v.2 = y * v.1 by simp only at dt; omega) v1 v2
      exact ⟨k, Prod.ext e1 e2⟩
    · rw [Int.gcd_comm] at v1 v2
      obtain ⟨k, e1, e2⟩ := coprime_mul hy (show y * v.1 = x * v.2 by simp only at dt; omega) v2 v1
      exact ⟨k, Prod.ext e2 e1⟩
  cases nf with
  | nil =>
    have z : ∀ w, w ∈ ws → w = (0, 0) := fun w hw => by
      have h3 : Net.Le ws [(0, 0)] := ge.trans nofun
      obtain ⟨a, e⟩ := Net.one_sn.mp (h3 w hw)
      rw [e]
      simp
    have d0 : Net.DD ws 0 := fun u hu w hw => by
      rw [z u hu, z w hw]
      exact Int.dvd_refl 0
    have d1 : Net.D12 ws 0 := ⟨fun w hw => by rw [z w hw]; exact Int.dvd_refl 0, fun w hw => by rw [z w hw]; exact Int.dvd_refl 0⟩
    have dv := (h2 d0 0).mp d1
    have e1 := Int.zero_dvd.mp (dv.1 v (by simp))
    have e2 := Int.zero_dvd.mp (dv.2 v (by simp))
    have e : v = (0, 0) := Prod.ext e1 e2
    rw [e]
    exact .zero
  | @one x y hx => exact long x y (.inl (by omega)) le ge
  | @low z hz => exact long 0 z (.inr (by omega)) le ge
  | @two x y z hx hy hz => exact Net.Sn.trans le (Net.step_wide le ge (by omega) (by omega) h1)
open Classical in
/-- whether a step is of what is spanned -/
noncomputable def snB (ws : List (Int × Int)) (v : Int × Int) : Bool := decide (Net.Sn ws v)
open Classical in
theorem snB_iff {ws : List (Int × Int)} {v : Int × Int} : snB ws v = true ↔ Net.Sn ws v := by
  unfold snB
  exact decide_eq_true_iff
theorem snB_of {ws : List (Int × Int)} {v : Int × Int} {r : Bool} (h : r = true ↔ Net.Sn ws v) : r = snB ws v := by
  rw [Bool.eq_iff_iff, h, snB_iff]
end IP
namespace IP
open PySem PySem.Spec PyProof.Rows L2
/-- the number of a place that a step of a basis is measured by -/
def ax (s p : Int × Int) : Int := if s.1 ≠ 0 then p.1 else p.2
def mor (p s : Int × Int) (m : Int) : Int × Int := (p.1 + m * s.1, p.2 + m * s.2)
def brg1 (p s : Int × Int) : Int × Int := mor p s (0 - (ax s p).fdiv (2 * ax s s) * 2)
def brg (nt : List (Int × Int)) (p : Int × Int) : Int × Int := nt.foldl brg1 p
/-- how often each step of a basis comes in a step -/
def shr : List (Int × Int) → Int × Int → Option (List Int)
  | [], v => if v = (0, 0) then some [] else none
  | s :: nt, v => if (ax s v).fmod (ax s s) ≠ 0 then none else (shr nt (mor v s (0 - (ax s v).fdiv (ax s s)))).map ((ax s v).fdiv (ax s s) :: ·)
theorem nf_pos {nt : List (Int × Int)} (h : Nf nt) : ∀ s, s ∈ nt → 0 < ax s s := by
  intro s hs
  unfold ax
  cases h with
  | nil => cases hs
  | @one x y hx =>
    rw [List.mem_singleton.mp hs]
    simp only
    rw [if_pos (by omega)]
    exact hx
  | @low z hz =>
    rw [List.mem_singleton.mp hs]
    simp only
    rw [if_neg (by simp)]
    exact hz
  | @two x y z hx hy hz =>
    rcases List.mem_cons.mp hs with rfl | hs
    · simp only
      rw [if_pos (by omega)]
      exact hx
    · rw [List.mem_singleton.mp hs]
      simp only
      rw [if_neg (by simp)]
      omega
theorem mor_zero {p s : Int × Int} : mor p s 0 = p := by
  unfold mor
  simp
theorem shr_cmb : ∀ {nt : List (Int × Int)} {v : Int × Int} {cs : List Int}, shr nt v = some cs → cs.length = nt.length ∧ v = cmb cs nt
  | [], v, cs, h => by
    unfold shr at h
    split at h
    · cases h
      exact ⟨rfl, by assumption⟩
    · cases h
  | s :: nt, v, cs, h => by
    unfold shr at h
    split at h
    · cases h
    · cases q : shr nt (mor v s (0 - (ax s v).fdiv (ax s s))) with
      | none => rw [q] at h; cases h
      | some ds =>
        rw [q] at h
        cases h
        obtain ⟨h1, h2⟩ := shr_cmb q
        refine ⟨by rw [List.length_cons, List.length_cons, h1], ?_⟩
        simp only [cmb]
        rw [← h2]
        unfold mor
        ext
        · simp only [Int.zero_sub, Int.neg_mul]; omega
        · simp only [Int.zero_sub, Int.neg_mul]; omega
theorem cmb_sn : ∀ {cs : List Int} {nt : List (Int × Int)}, Net.Sn nt (cmb cs nt)
  | [], _ => .zero
  | _ :: _, [] => .zero
  | c :: cs, s :: nt => by
    have h1 : Net.Sn (s :: nt) (cmb cs nt) := Net.Sn.trans (fun w hw => Net.Sn.mem (List.mem_cons_of_mem _ hw)) (cmb_sn (cs := cs) (nt := nt))
    have h2 := (Net.Sn.mem (ws := s :: nt) (w := s) List.mem_cons_self).times c
    exact h2.plus h1
theorem shr_some {nt : List (Int × Int)} (h : Nf nt) {v : Int × Int} (hv : Net.Sn nt v) : ∃ cs, shr nt v = some cs := by
  cases h with
  | nil =>
    have h3 : Net.Le ([] : List (Int × Int)) [(0, 0)] := nofun
    obtain ⟨a, e⟩ := Net.one_sn.mp (Net.Sn.trans h3 hv)
    have e : v = (0, 0) := by rw [e]; simp
    exact ⟨[], by rw [e]; rfl⟩
  | @one x y hx =>
    obtain ⟨a, rfl⟩ := Net.one_sn.mp hv
    have e1 : ax (x, y) (a * x, a * y) = a * x := by unfold ax; rw [if_pos (by simp only; omega)]
    have e2 : ax (x, y) (x, y) = x := by unfold ax; rw [if_pos (by simp only; omega)]
    refine ⟨[a], ?_⟩
    unfold shr
    rw [e1, e2, Int.mul_fmod_left, if_neg (by simp), Int.mul_fdiv_cancel _ (by omega)]
    have e3 : mor (a * x, a * y) (x, y) (0 - a) = (0, 0) := by unfold mor; ext <;> simp only [Int.zero_sub, Int.neg_mul] <;> omega
    rw [e3]
    rfl
  | @low z hz =>
    obtain ⟨a, rfl⟩ := Net.one_sn.mp hv
    have e1 : ax (0, z) (a * 0, a * z) = a * z := by unfold ax; rw [if_neg (by simp)]
    have e2 : ax (0, z) (0, z) = z := by unfold ax; rw [if_neg (by simp)]
    refine ⟨[a], ?_⟩
    unfold shr
    rw [e1, e2, Int.mul_fmod_left, if_neg (by simp), Int.mul_fdiv_cancel _ (by omega)]
    have e3 : mor (a * 0, a * z) (0, z) (0 - a) = (0, 0) := by unfold mor; ext <;> simp only [Int.zero_sub, Int.neg_mul] <;> omega
    rw [e3]
    rfl
  | @two x y z hx hy hz =>
    obtain ⟨a, b, rfl⟩ := Net.two_sn.mp hv
    have e1 : ax (x, y) (a * x, a * y + b * z) = a * x := by unfold ax; rw [if_pos (by simp only; omega)]
    have e2 : ax (x, y) (x, y) = x := by unfold ax; rw [if_pos (by simp only; omega)]
    refine ⟨[a, b], ?_⟩
    unfold shr
    rw [e1, e2, Int.mul_fmod_left, if_neg (by simp), Int.mul_fdiv_cancel _ (by omega)]
    have e3 : mor (a * x, a * y + b * z) (x, y) (0 - a) = (0, b * z) := by unfold mor; ext <;> simp only [Int.zero_sub, Int.neg_mul] <;> omega
    rw [e3]
    unfold shr
    have e4 : ax (0, z) (0, b * z) = b * z := by unfold ax; rw [if_neg (by simp)]
    have e5 : ax (0, z) (0, z) = z := by unfold ax; rw [if_neg (by simp)]
    rw [e4, e5, Int.mul_fmod_left, if_neg (by simp), Int.mul_fdiv_cancel _ (by omega)]
    have e6 : mor (0, b * z) (0, z) (0 - b) = (0, 0) := by unfold mor; ext <;> simp only [Int.zero_sub, Int.neg_mul] <;> omega
    rw [e6]
    rfl
/-- the program's look at a step -/
theorem shr_snB {l nt : List (Int × Int)} (N : Nt l nt) (v : Int × Int) : (shr nt v).isSome = snB (waysOf l) v := by
  refine snB_of ?_
  constructor
  · intro h
    obtain ⟨cs, e⟩ := Option.isSome_iff_exists.mp h
    obtain ⟨_, rfl⟩ := shr_cmb e
    exact Net.Sn.trans N.le cmb_sn
  · intro h
    obtain ⟨cs, e⟩ := shr_some N.nf (Net.Sn.trans N.ge h)
    rw [e]
    rfl
/-! ### alike by halves -/
def Al (ws : List (Int × Int)) (p q : Int × Int) : Prop := ∃ s, Net.Sn ws s ∧ p = (q.1 + 2 * s.1, q.2 + 2 * s.2)
noncomputable def alB (ws : List (Int × Int)) (p q : Int × Int) : Bool := decide ((p.1 - q.1).fmod 2 = 0) && (decide ((p.2 - q.2).fmod 2 = 0) && snB ws ((p.1 - q.1).fdiv 2, (p.2 - q.2).fdiv 2))
theorem alB_iff {ws : List (Int × Int)} {p q : Int × Int} : alB ws p q = true ↔ Al ws p q := by
  unfold alB Al
  rw [Bool.and_eq_true, Bool.and_eq_true, decide_eq_true_eq, decide_eq_true_eq, snB_iff]
  have e1 := Int.mul_fdiv_add_fmod (p.1 - q.1) 2
  have e2 := Int.mul_fdiv_add_fmod (p.2 - q.2) 2
  constructor
  · rintro ⟨h1, h2, h3⟩
    exact ⟨_, h3, by ext <;> simp only <;> omega⟩
  · rintro ⟨s, hs, e⟩
    have f1 : p.1 - q.1 = 2 * s.1 := by rw [e]; simp only; omega
    have f2 : p.2 - q.2 = 2 * s.2 := by rw [e]; simp only; omega
    rw [f1, f2, Int.mul_fmod_right, Int.mul_fmod_right, Int.mul_fdiv_cancel_left _ (by decide), Int.mul_fdiv_cancel_left _ (by decide)]
    exact ⟨rfl, rfl, hs⟩
section
variable {ws : List (Int × Int)} {p q r : Int × Int}
theorem Al.refl : Al ws p p := ⟨(0, 0), .zero, by simp⟩
theorem Al.symm (h : Al ws p q) : Al ws q p := by
  obtain ⟨s, hs, rfl⟩ := h
  exact ⟨(-1 * s.1, -1 * s.2), hs.times (-1), by ext <;> simp only <;> omega⟩
theorem Al.trans (h : Al ws p q) (k : Al ws q r) : Al ws p r := by
  obtain ⟨s, hs, rfl⟩ := h
  obtain ⟨t, ht, rfl⟩ := k
  exact ⟨(s.1 + t.1, s.2 + t.2), hs.plus ht, by ext <;> simp only <;> omega⟩
theorem Al.le {vs : List (Int × Int)} (h : Al ws p q) (k : Net.Le ws vs) : Al vs p q := by
  obtain ⟨s, hs, rfl⟩ := h
  exact ⟨s, Net.Sn.trans k hs, rfl⟩
end
theorem mor_al {ws : List (Int × Int)} {s p : Int × Int} {m : Int} (h : Net.Sn ws s) : Al ws (mor p s (m * 2)) p := by
  refine ⟨(m * s.1, m * s.2), h.times m, ?_⟩
  unfold mor
  ext
  · simp only
    rw [Int.mul_comm m 2, Int.mul_assoc]
  · simp only
    rw [Int.mul_comm m 2, Int.mul_assoc]
theorem brg_al : ∀ {nt ws : List (Int × Int)} {p : Int × Int}, (∀ s, s ∈ nt → Net.Sn ws s) → Al ws (brg nt p) p
  | [], _, _, _ => .refl
  | s :: nt, ws, p, h => by
    have h1 : Al ws (brg1 p s) p := by
      unfold brg1
      rw [Int.zero_sub, ← Int.neg_mul]
      exact mor_al (h s List.mem_cons_self)
    exact (brg_al (nt := nt) (p := brg1 p s) fun t ht => h t (List.mem_cons_of_mem _ ht)).trans h1
/-- where the stand may lie -/
def InC : List (Int × Int) → Int × Int → Int × Int → Prop
  | [], p, q => q = p
  | [s], _, q => if s.1 ≠ 0 then 0 ≤ q.1 ∧ q.1 < 2 * s.1 else 0 ≤ q.2 ∧ q.2 < 2 * s.2
  | s :: t :: _, _, q => (0 ≤ q.1 ∧ q.1 < 2 * s.1) ∧ 0 ≤ q.2 ∧ q.2 < 2 * t.2
theorem two_fm {a x : Int} (hx : 0 < x) : a + (0 - a.fdiv (2 * x) * 2) * x = a.fmod (2 * x) := by
  have e := Int.mul_fdiv_add_fmod a (2 * x)
  have e2 : (0 - a.fdiv (2 * x) * 2) * x = -(2 * x * a.fdiv (2 * x)) := by
    rw [Int.zero_sub, Int.neg_mul, Int.mul_assoc, Int.mul_comm]
  rw [e2]
  omega
theorem brg_in {nt : List (Int × Int)} (h : Nf nt) (p : Int × Int) : InC nt p (brg nt p) := by
  cases h with
  | nil => rfl
  | @one x y hx =>
    have e1 : ∀ p, ax (x, y) p = p.1 := fun p => by unfold ax; rw [if_pos (by simp only; omega)]
    simp only [brg, List.foldl_cons, List.foldl_nil, brg1, mor, e1, InC]
    rw [if_pos (by omega), two_fm hx]
    exact ⟨Int.fmod_nonneg_of_pos _ (by omega), Int.fmod_lt_of_pos _ (by omega)⟩
  | @low z hz =>
    have e1 : ∀ p, ax (0, z) p = p.2 := fun p => by unfold ax; rw [if_neg (by simp)]
    simp only [brg, List.foldl_cons, List.foldl_nil, brg1, mor, e1, InC]
    rw [if_neg (by simp), two_fm hz]
    exact ⟨Int.fmod_nonneg_of_pos _ (by omega), Int.fmod_lt_of_pos _ (by omega)⟩
  | @two x y z hx hy hz =>
    have e1 : ∀ p, ax (x, y) p = p.1 := fun p => by unfold ax; rw [if_pos (by simp only; omega)]
    have e2 : ∀ p, ax (0, z) p = p.2 := fun p => by unfold ax; rw [if_neg (by simp)]
    simp only [brg, List.foldl_cons, List.foldl_nil, brg1, mor, e1, e2, InC, Int.mul_zero, Int.add_zero]
    rw [two_fm hx, two_fm (by omega)]
    exact ⟨⟨Int.fmod_nonneg_of_pos _ (by omega), Int.fmod_lt_of_pos _ (by omega)⟩, Int.fmod_nonneg_of_pos _ (by omega), Int.fmod_lt_of_pos _ (by omega)⟩
/-- there is just one such place -/
theorem mul_near {a x : Int} (hx : 0 < x) (h1 : -x < a * x) (h2 : a * x < x) : a = 0 := by
  rcases Int.lt_trichotomy a 0 with h | h | h
  · have := Int.mul_le_mul_of_nonneg_right (show a ≤ -1 by omega) (show 0 ≤ x by omega)
    omega
  · exact h
  · have := Int.mul_le_mul_of_nonneg_right (show 1 ≤ a by omega) (show 0 ≤ x by omega)
    omega
theorem in_uniq {nt : List (Int × Int)} (h : Nf nt) {p q r p' : Int × Int} (h1 : InC nt p q) (h2 : InC nt p' r) (hp : nt = [] → p = p') (k : Al nt q r) : q = r := by
  obtain ⟨s, hs, e⟩ := k
  cases h with
  | nil =>
    have e1 : q = p := h1
    have e2 : r = p' := h2
    rw [e1, e2]
    exact hp rfl
  | @one x y hx =>
    obtain ⟨a, rfl⟩ := Net.one_sn.mp hs
    simp only [InC] at h1 h2
    rw [if_pos (by omega)] at h1 h2
    have e1 := congrArg Prod.fst e
    simp only at e1
    have a0 : a = 0 := mul_near hx (by omega) (by omega)
    rw [e, a0]
    simp
  | @low z hz =>
    obtain ⟨a, rfl⟩ := Net.one_sn.mp hs
    simp only [InC] at h1 h2
    rw [if_neg (by simp)] at h1 h2
    have e1 := congrArg Prod.snd e
    simp only at e1
    have a0 : a = 0 := mul_near hz (by omega) (by omega)
    rw [e, a0]
    simp
  | @two x y z hx hy hz =>
    obtain ⟨a, b, rfl⟩ := Net.two_sn.mp hs
    simp only [InC] at h1 h2
    have e1 := congrArg Prod.fst e
    have e2 := congrArg Prod.snd e
    simp only at e1 e2
    have a0 : a = 0 := mul_near hx (by omega) (by omega)
    subst a0
    simp only [Int.zero_mul, Int.zero_add] at e2
    have b0 : b = 0 := mul_near (show 0 < z by omega) (by omega) (by omega)
    rw [e, b0]
    simp
/-- alike places are brought to one -/
theorem brg_eq {nt : List (Int × Int)} (h : Nf nt) {p q : Int × Int} : brg nt p = brg nt q ↔ Al nt p q := by
  have a1 : Al nt (brg nt p) p := brg_al fun s hs => Net.Sn.mem hs
  have a2 : Al nt (brg nt q) q := brg_al fun s hs => Net.Sn.mem hs
  constructor
  · intro e
    rw [e] at a1
    exact a1.symm.trans a2
  · intro k
    refine in_uniq h (brg_in h p) (brg_in h q) (fun e => ?_) (a1.trans (k.trans a2.symm))
    subst e
    obtain ⟨s, hs, e⟩ := k
    have h3 : Net.Le ([] : List (Int × Int)) [(0, 0)] := nofun
    obtain ⟨a, e2⟩ := Net.one_sn.mp (Net.Sn.trans h3 hs)
    rw [e, e2]
    simp
/-! sizes -/
theorem mor_bn {p s : Int × Int} {m : Int} {a b c n : Nat} (h1 : p.1.natAbs < 2 ^ a ∧ p.2.natAbs < 2 ^ a) (h2 : s.1.natAbs < 2 ^ b ∧ s.2.natAbs < 2 ^ b) (h3 : m.natAbs < 2 ^ c) (ha : a < n) (hb : b + c < n) : (mor p s m).1.natAbs < 2 ^ n ∧ (mor p s m).2.natAbs < 2 ^ n := by
  have k : ∀ x y : Int, x.natAbs < 2 ^ a → y.natAbs < 2 ^ b → (x + m * y).natAbs < 2 ^ n := fun x y hx hy => by
    have h4 := mul_lt h3 hy
    obtain ⟨j, rfl⟩ : ∃ j, n = j + 1 := ⟨n - 1, by omega⟩
    have e1 : 2 ^ a ≤ 2 ^ j := Nat.pow_le_pow_right (by decide) (by omega)
    have e2 : 2 ^ (c + b) ≤ 2 ^ j := Nat.pow_le_pow_right (by decide) (by omega)
    rw [Nat.pow_succ]
    generalize m * y = z at *
    omega
  exact ⟨k _ _ h1.1 h2.1, k _ _ h1.2 h2.2⟩
theorem ax_bd {s p : Int × Int} {a : Nat} (h : p.1.natAbs < 2 ^ a ∧ p.2.natAbs < 2 ^ a) : (ax s p).natAbs < 2 ^ a := by
  unfold ax
  split
  · exact h.1
  · exact h.2
theorem brg1_bn {p s : Int × Int} {a b : Nat} (h1 : p.1.natAbs < 2 ^ a ∧ p.2.natAbs < 2 ^ a) (h2 : s.1.natAbs < 2 ^ b ∧ s.2.natAbs < 2 ^ b) (h3 : 0 < ax s s) : (brg1 p s).1.natAbs < 2 ^ (a + b + 4) ∧ (brg1 p s).2.natAbs < 2 ^ (a + b + 4) := by
  unfold brg1
  refine mor_bn (c := a + 2) h1 h2 ?_ (by omega) (by omega)
  have h4 := fd_nat (m := 2 * ax s s) (by omega) (ax_bd (s := s) h1)
  rw [Nat.pow_succ]
  omega
theorem brg_bn {b : Nat} : ∀ {nt : List (Int × Int)} {p : Int × Int} {a : Nat}, Bn b nt → (∀ s, s ∈ nt → 0 < ax s s) → (p.1.natAbs < 2 ^ a ∧ p.2.natAbs < 2 ^ a) → (brg nt p).1.natAbs < 2 ^ (a + nt.length * (b + 4)) ∧ (brg nt p).2.natAbs < 2 ^ (a + nt.length * (b + 4))
  | [], p, a, _, _, h => by simpa [brg] using h
  | s :: nt, p, a, hb, hp, h => by
    have h1 := brg1_bn h (hb s List.mem_cons_self) (hp s List.mem_cons_self)
    have h2 := brg_bn (nt := nt) (p := brg1 p s) (fun t ht => hb t (List.mem_cons_of_mem _ ht)) (fun t ht => hp t (List.mem_cons_of_mem _ ht)) h1
    have e : a + b + 4 + nt.length * (b + 4) = a + (s :: nt).length * (b + 4) := by
      rw [List.length_cons, Nat.succ_mul]
      omega
    rw [e] at h2
    exact h2
end IP
namespace IP
open PySem PySem.Spec PyProof.Rows L2
/-- a loop that may be left -/
theorem for_ret {f : PyData → Env → Store → Out Fl} {Q : Fl → Store → Prop} (I : Nat → Env → Store → Prop) (xs : List PyData) {s : Env} {S : Store} (h0 : I 0 s S)
    (st : ∀ (i : Nat) (x : PyData) (s : Env) (S : Store), xs[i]? = some x → I i s S → (f x s S).sat fun r S' => (∃ s', r = .nx s' ∧ I (i + 1) s' S') ∨ ∃ v, r = .rt v ∧ Q (.rt v) S') (fin : ∀ s S, I xs.length s S → Q (.nx s) S) : (forL f xs s S).sat Q := by
  induction xs generalizing s S I with
  | nil => exact .ok (fin _ _ h0)
  | cons x xs ih =>
    unfold forL
    refine sat_then (st 0 x s S rfl h0) ?_
    rintro r S1 (⟨s', rfl, h1⟩ | ⟨v, rfl, h1⟩)
    · refine ih (fun i => I (i + 1)) h1 (fun i y s S e h => st (i + 1) y s S (by simpa using e) h) ?_
      intro s S h
      exact fin s S h
    · exact .ok h1
theorem comp_mapE {A : Type} {f : PyData → Store → Out (Option PyData)} {h g : A → PyData} : ∀ {l : List A} {S : Store}, (∀ a, a ∈ l → ∀ S', Ex S S' → (f (h a) S').sat fun o S'' => o = some (g a) ∧ Ex S' S'') → (compL f (l.map h) S).sat fun ys S' => ys = l.map g ∧ Ex S S'
  | [], S, _ => .ok ⟨rfl, .refl⟩
  | a :: l, S, k => by
    rw [List.map_cons]
    unfold compL
    refine sat_then (k a List.mem_cons_self S .refl) ?_
    rintro o S1 ⟨rfl, X1⟩
    refine sat_then (comp_mapE (l := l) (S := S1) fun b hb S' X => k b (List.mem_cons_of_mem _ hb) S' (X1.trans X)) ?_
    rintro ys S2 ⟨rfl, X2⟩
    exact .ok ⟨rfl, X1.trans X2⟩
theorem comp_filterE {A : Type} {f : PyData → Store → Out (Option PyData)} {h g : A → PyData} {c : A → Bool} : ∀ {l : List A} {S : Store}, (∀ a, a ∈ l → ∀ S', Ex S S' → (f (h a) S').sat fun o S'' => o = (if c a = true then some (g a) else none) ∧ Ex S' S'') → (compL f (l.map h) S).sat fun ys S' => ys = (l.filter c).map g ∧ Ex S S'
  | [], S, _ => .ok ⟨rfl, .refl⟩
  | a :: l, S, k => by
    rw [List.map_cons]
    unfold compL
    refine sat_then (k a List.mem_cons_self S .refl) ?_
    rintro o S1 ⟨rfl, X1⟩
    refine sat_then (comp_filterE (l := l) (S := S1) fun b hb S' X => k b (List.mem_cons_of_mem _ hb) S' (X1.trans X)) ?_
    rintro ys S2 ⟨rfl, X2⟩
    refine .ok ⟨?_, X1.trans X2⟩
    cases e : c a with
    | true => simp [e, consO]
    | false => simp [e, consO]
/-- an answer and more behind -/
theorem sat_val {v : Val} {o : Out Val} {S : Store} (h : o.sat fun w S' => w = v ∧ Ex S S') : ∃ S', o = .ok v S' ∧ Ex S S' := by
  obtain ⟨w, S', e, rfl, X⟩ := sat_ex h
  exact ⟨S', e, X⟩
def optI : Option (List Int) → PyData
  | none => .none
  | some cs => .list (cs.map .int)
theorem at_last {A : Type} {l : List A} {a : A} : L2.atI (l ++ [a]) (-1) = some a := by
  have e : L2.ixN (l ++ [a]).length (-1) = some l.length := by
    unfold L2.ixN
    rw [if_neg (by omega), List.length_append, List.length_cons, List.length_nil]
    rw [if_pos (by omega)]
    congr 1
    omega
  unfold L2.atI
  rw [e]
  simp
end IP
namespace IP
open PySem PySem.Spec PyProof.Rows L2
/-- the places of a cell -/
def cor (nt : List (Int × Int)) : List (Int × Int) := nt.foldl (fun f s => f ++ f.map fun p => mor p s 1) [(0, 0)]
/-- the same from another place on -/
def corB (nt : List (Int × Int)) (b : Int × Int) : List (Int × Int) := nt.foldl (fun f s => f ++ f.map fun p => mor p s 1) [b]
theorem cor_from {b : Int × Int} : ∀ {nt f : List (Int × Int)}, nt.foldl (fun f s => f ++ f.map fun p => mor p s 1) (f.map fun c => mor b c 1) = (nt.foldl (fun f s => f ++ f.map fun p => mor p s 1) f).map fun c => mor b c 1
  | [], f => rfl
  | s :: nt, f => by
    rw [List.foldl_cons, List.foldl_cons, ← cor_from]
    congr 1
    rw [List.map_append, List.map_map, List.map_map]
    congr 1
    apply List.map_congr_left
    intro c _
    simp only [Function.comp, mor]
    ext <;> simp only <;> omega
theorem corB_eq {nt : List (Int × Int)} {b : Int × Int} : corB nt b = (cor nt).map fun c => mor b c 1 := by
  unfold corB cor
  rw [← cor_from]
  congr 1
  simp [mor]
theorem cor_len : ∀ {nt f : List (Int × Int)}, (nt.foldl (fun f s => f ++ f.map fun p => mor p s 1) f).length = f.length * 2 ^ nt.length
  | [], f => by simp
  | s :: nt, f => by
    rw [List.foldl_cons, cor_len, List.length_append, List.length_map, List.length_cons, Nat.pow_succ, ← Nat.two_mul, Nat.mul_comm 2, Nat.mul_assoc, Nat.mul_comm 2]
theorem cor_len' {nt : List (Int × Int)} (h : Nf nt) : (cor nt).length ≤ 4 := by
  unfold cor
  rw [cor_len]
  cases h <;> simp
/-- where a token stands at home -/
def hm1 (nt : List (Int × Int)) (p0 p : Int × Int) : Int × Int := (((cor nt).map fun c => mor (brg nt p0) c 1).filter fun c => decide (brg nt c = brg nt p)).headD (0, 0)
def hmL (nt l : List (Int × Int)) : List (Int × Int) := l.map (hm1 nt (atL l 0))
theorem par (a : Int) : ∃ k : Int, ∃ e : Int, a = e + 2 * k ∧ (e = 0 ∨ e = 1) := ⟨a.fdiv 2, a.fmod 2, by have := Int.mul_fdiv_add_fmod a 2; omega, by
  have h1 := Int.fmod_nonneg_of_pos a (show (0 : Int) < 2 by decide)
  have h2 := Int.fmod_lt_of_pos a (show (0 : Int) < 2 by decide)
  omega⟩
/-- one of the places of the cell is alike -/
theorem cor_has {nt : List (Int × Int)} (h : Nf nt) {b p : Int × Int} (k : Net.Sn nt (p.1 - b.1, p.2 - b.2)) : ∃ c, c ∈ cor nt ∧ Al nt (mor b c 1) p := by
  cases h with
  | nil =>
    have h3 : Net.Le ([] : List (Int × Int)) [(0, 0)] := nofun
    obtain ⟨a, e⟩ := Net.one_sn.mp (Net.Sn.trans h3 k)
    have e1 := congrArg Prod.fst e
    have e2 := congrArg Prod.snd e
    simp only [Int.mul_zero] at e1 e2
    refine ⟨(0, 0), by simp [cor], ?_⟩
    have : mor b (0, 0) 1 = p := by unfold mor; ext <;> simp only <;> omega
    rw [this]
    exact .refl
  | @one x y hx =>
    obtain ⟨a, e⟩ := Net.one_sn.mp k
    have e1 := congrArg Prod.fst e
    have e2 := congrArg Prod.snd e
    simp only at e1 e2
    obtain ⟨j, u, ea, hu⟩ := par a
    refine ⟨(u * x, u * y), ?_, Al.symm ⟨(j * x, j * y), Net.one_sn.mpr ⟨j, rfl⟩, ?_⟩⟩
    · rcases hu with rfl | rfl <;> simp [cor, mor]
    · rw [ea] at e1 e2
      unfold mor
      ext
      · simp only
        rw [Int.add_mul, Int.mul_assoc] at e1
        omega
      · simp only
        rw [Int.add_mul, Int.mul_assoc] at e2
        omega
  | @low z hz =>
    obtain ⟨a, e⟩ := Net.one_sn.mp k
    have e1 := congrArg Prod.fst e
    have e2 := congrArg Prod.snd e
    simp only at e1 e2
    obtain ⟨j, u, ea, hu⟩ := par a
    refine ⟨(u * 0, u * z), ?_, Al.symm ⟨(j * 0, j * z), Net.one_sn.mpr ⟨j, rfl⟩, ?_⟩⟩
    · rcases hu with rfl | rfl <;> simp [cor, mor]
    · rw [ea] at e1 e2
      unfold mor
      ext
      · simp only
        omega
      · simp only
        rw [Int.add_mul, Int.mul_assoc] at e2
        omega
  | @two x y z hx hy hz =>
    obtain ⟨a, b', e⟩ := Net.two_sn.mp k
    have e1 := congrArg Prod.fst e
    have e2 := congrArg Prod.snd e
    simp only at e1 e2
    obtain ⟨j, u, ea, hu⟩ := par a
    obtain ⟨i, w, eb, hw⟩ := par b'
    refine ⟨(u * x, u * y + w * z), ?_, Al.symm ⟨(j * x, j * y + i * z), Net.two_sn.mpr ⟨j, i, rfl⟩, ?_⟩⟩
    · rcases hu with rfl | rfl <;> rcases hw with rfl | rfl <;> simp [cor, mor]
    · rw [ea] at e1 e2
      rw [eb] at e2
      unfold mor
      ext
      · simp only
        rw [Int.add_mul, Int.mul_assoc] at e1
        omega
      · simp only
        rw [Int.add_mul, Int.mul_assoc, Int.add_mul, Int.mul_assoc] at e2
        omega
/-- the look at each place of the cell finds one -/
theorem hm1_some {nt : List (Int × Int)} (h : Nf nt) {p0 p : Int × Int} (k : Net.Sn nt (p.1 - p0.1, p.2 - p0.2)) :
    ∃ t, ((cor nt).map fun c => mor (brg nt p0) c 1).filter (fun c => decide (brg nt c = brg nt p)) = hm1 nt p0 p :: t := by
  have a1 : Al nt (brg nt p0) p0 := brg_al fun s hs => Net.Sn.mem hs
  obtain ⟨s, hs, e⟩ := a1
  have k2 : Net.Sn nt (p.1 - (brg nt p0).1, p.2 - (brg nt p0).2) := by
    have t := k.plus (hs.times (-2))
    have e1 : (p.1 - p0.1 + -2 * s.1, p.2 - p0.2 + -2 * s.2) = (p.1 - (brg nt p0).1, p.2 - (brg nt p0).2) := by
      rw [e]
      ext <;> simp only <;> omega
    simp only at t
    rw [e1] at t
    exact t
  obtain ⟨c, hc, al⟩ := cor_has h k2
  have m : mor (brg nt p0) c 1 ∈ ((cor nt).map fun c => mor (brg nt p0) c 1).filter (fun c => decide (brg nt c = brg nt p)) :=
    List.mem_filter.mpr ⟨List.mem_map.mpr ⟨c, hc, rfl⟩, decide_eq_true ((brg_eq h).mpr al)⟩
  unfold hm1
  cases q : ((cor nt).map fun c => mor (brg nt p0) c 1).filter (fun c => decide (brg nt c = brg nt p)) with
  | nil => rw [q] at m; cases m
  | cons x t => exact ⟨t, rfl⟩
theorem hm1_al {nt : List (Int × Int)} (h : Nf nt) {p0 p : Int × Int} (k : Net.Sn nt (p.1 - p0.1, p.2 - p0.2)) : Al nt (hm1 nt p0 p) p ∧ ∃ c, c ∈ cor nt ∧ hm1 nt p0 p = mor (brg nt p0) c 1 := by
  obtain ⟨t, e⟩ := hm1_some h k
  have m : hm1 nt p0 p ∈ ((cor nt).map fun c => mor (brg nt p0) c 1).filter (fun c => decide (brg nt c = brg nt p)) := by rw [e]; exact List.mem_cons_self
  obtain ⟨m1, m2⟩ := List.mem_filter.mp m
  obtain ⟨c, hc, e⟩ := List.mem_map.mp m1
  exact ⟨(brg_eq h).mp (of_decide_eq_true m2), c, hc, e.symm⟩
theorem way_sn {l nt : List (Int × Int)} (N : Nt l nt) {p : Int × Int} (hp : p ∈ l) : Net.Sn nt (p.1 - (atL l 0).1, p.2 - (atL l 0).2) := by
  refine Net.Sn.trans N.ge (Net.Sn.mem ?_)
  unfold waysOf
  exact List.mem_map.mpr ⟨p, hp, rfl⟩
/-! ### what leaps keep -/
theorem diff_sn {l : List (Int × Int)} {p q : Int × Int} (hp : p ∈ l) (hq : q ∈ l) : Net.Sn (waysOf l) (p.1 - q.1, p.2 - q.2) := by
  have h1 : Net.Sn (waysOf l) (p.1 - (atL l 0).1, p.2 - (atL l 0).2) := Net.Sn.mem (List.mem_map.mpr ⟨p, hp, rfl⟩)
  have h2 : Net.Sn (waysOf l) (q.1 - (atL l 0).1, q.2 - (atL l 0).2) := Net.Sn.mem (List.mem_map.mpr ⟨q, hq, rfl⟩)
  have t := h1.plus (h2.times (-1))
  have e : (p.1 - (atL l 0).1 + -1 * (q.1 - (atL l 0).1), p.2 - (atL l 0).2 + -1 * (q.2 - (atL l 0).2)) = (p.1 - q.1, p.2 - q.2) := by ext <;> simp only <;> omega
  simp only at t
  rw [e] at t
  exact t
/-- lays of which each place is alike -/
def AlL (l l' : List (Int × Int)) : Prop := l'.length = l.length ∧ ∀ i, i < l.length → Al (waysOf l) (atL l' i) (atL l i)
theorem AlL.le {l l' : List (Int × Int)} (h : AlL l l') : Net.Le (waysOf l') (waysOf l) := by
  intro w hw
  unfold waysOf at hw
  obtain ⟨p, hp, rfl⟩ := List.mem_map.mp hw
  obtain ⟨i, hi, rfl⟩ := List.mem_iff_getElem.mp hp
  have hl := h.1
  have e1 : l'[i] = atL l' i := by
    have := at_lay hi
    rw [List.getElem?_eq_getElem hi] at this
    exact Option.some.inj this
  obtain ⟨s, hs, es⟩ := h.2 i (by omega)
  obtain ⟨t, ht, et⟩ := h.2 0 (by omega)
  rw [e1, es, et]
  have d := diff_sn (at_mem (show i < l.length by omega)) (at_mem (show 0 < l.length by omega))
  have z := (d.plus (hs.times 2)).plus (ht.times (-2))
  simp only at z
  have e : ((atL l i).1 + 2 * s.1 - ((atL l 0).1 + 2 * t.1), (atL l i).2 + 2 * s.2 - ((atL l 0).2 + 2 * t.2)) = ((atL l i).1 - (atL l 0).1 + 2 * s.1 + -2 * t.1, (atL l i).2 - (atL l 0).2 + 2 * s.2 + -2 * t.2) := by ext <;> simp only <;> omega
  rw [e]
  exact z
theorem leap_al {l : List (Int × Int)} {r : Nat × Nat} (h : Lp l.length r) : AlL l (leap l r) := by
  refine ⟨leap_len, fun i hi => ?_⟩
  by_cases e : r.1 = i
  · subst e
    unfold leap
    rw [at_set_same h.1]
    refine ⟨((atL l r.2).1 - (atL l r.1).1, (atL l r.2).2 - (atL l r.1).2), diff_sn (at_mem h.2.1) (at_mem h.1), ?_⟩
    unfold bey
    ext <;> simp only <;> omega
  · unfold leap
    rw [at_set_ne e]
    exact .refl
/-- both nets are one, each token's places are alike -/
structure Same (l l' : List (Int × Int)) : Prop where
  al : AlL l l'
  le : Net.Le (waysOf l') (waysOf l)
  ge : Net.Le (waysOf l) (waysOf l')
theorem Same.refl {l : List (Int × Int)} : Same l l := ⟨⟨rfl, fun _ _ => .refl⟩, .refl, .refl⟩
theorem Same.symm {l l' : List (Int × Int)} (h : Same l l') : Same l' l := by
  refine ⟨⟨h.al.1.symm, fun i hi => ?_⟩, h.ge, h.le⟩
  exact (h.al.2 i (by rw [← h.al.1]; exact hi)).symm.le h.ge
theorem Same.trans {l l' l'' : List (Int × Int)} (h : Same l l') (k : Same l' l'') : Same l l'' := by
  refine ⟨⟨k.al.1.trans h.al.1, fun i hi => ?_⟩, k.le.trans h.le, h.ge.trans k.ge⟩
  exact ((k.al.2 i (by rw [h.al.1]; exact hi)).le h.le).trans (h.al.2 i hi)
theorem leap_same {l : List (Int × Int)} {r : Nat × Nat} (h : Lp l.length r) : Same l (leap l r) := by
  have h2 : AlL (leap l r) (leap (leap l r) r) := leap_al (by rw [leap_len]; exact h)
  rw [leap_leap h] at h2
  exact ⟨leap_al h, (leap_al h).le, h2.le⟩
theorem row_same : ∀ {r : List (Nat × Nat)} {l : List (Int × Int)}, (∀ x, x ∈ r → Lp l.length x) → Same l (r.foldl leap l)
  | [], _, _ => .refl
  | x :: r, l, h => by
    rw [List.foldl_cons]
    exact (leap_same (h x List.mem_cons_self)).trans (row_same fun y hy => by rw [leap_len]; exact h y (List.mem_cons_of_mem _ hy))
theorem Nt.same {l l' nt : List (Int × Int)} (N : Nt l nt) (h : Same l l') : Nt l' nt := ⟨N.nf, N.le.trans h.ge, h.le.trans N.ge⟩
theorem brg_same {l l' nt : List (Int × Int)} (N : Nt l nt) (h : Same l l') {i : Nat} (hi : i < l.length) : brg nt (atL l' i) = brg nt (atL l i) := (brg_eq N.nf).mpr ((h.al.2 i hi).le N.ge)
theorem map_at {A : Type} {l : List (Int × Int)} {f : Int × Int → A} {i : Nat} : (l.map f)[i]? = if i < l.length then some (f (atL l i)) else none := by
  rw [List.getElem?_map]
  by_cases h : i < l.length
  · rw [at_lay h, if_pos h]
    rfl
  · rw [List.getElem?_eq_none (by omega), if_neg h]
    rfl
theorem hmL_same {l l' nt : List (Int × Int)} (N : Nt l nt) (h : Same l l') : hmL nt l' = hmL nt l := by
  apply List.ext_getElem?
  intro i
  unfold hmL
  rw [map_at, map_at, h.al.1]
  by_cases hi : i < l.length
  · rw [if_pos hi, if_pos hi]
    unfold hm1
    rw [brg_same N h (show 0 < l.length by omega), brg_same N h hi]
  · rw [if_neg hi, if_neg hi]
theorem alB_brg {l nt : List (Int × Int)} (N : Nt l nt) (p q : Int × Int) : alB (waysOf l) p q = decide (brg nt p = brg nt q) := by
  rw [Bool.eq_iff_iff, alB_iff, decide_eq_true_eq, brg_eq N.nf]
  exact ⟨fun h => h.le N.ge, fun h => h.le N.le⟩
/-- the stand as the law reckons it -/
theorem brg_two {x y z : Int} (hx : 0 < x) (hz : 0 < z) (p : Int × Int) : brg [(x, y), (0, z)] p = (p.1.fmod (2 * x), (p.2 - p.1.fdiv (2 * x) * 2 * y).fmod (2 * z)) := by
  have e1 : ∀ p, ax (x, y) p = p.1 := fun p => by unfold ax; rw [if_pos (by simp only; omega)]
  have e2 : ∀ p, ax (0, z) p = p.2 := fun p => by unfold ax; rw [if_neg (by simp)]
  simp only [brg, List.foldl_cons, List.foldl_nil, brg1, mor, e1, e2, Int.mul_zero, Int.add_zero]
  rw [two_fm hx, two_fm hz]
  have e3 : p.2 + (0 - p.1.fdiv (2 * x) * 2) * y = p.2 - p.1.fdiv (2 * x) * 2 * y := by
    rw [Int.zero_sub, Int.neg_mul]
    omega
  rw [e3]
theorem brg_one {x y : Int} (hx : 0 < x) (p : Int × Int) : brg [(x, y)] p = (p.1.fmod (2 * x), p.2 - p.1.fdiv (2 * x) * 2 * y) := by
  have e1 : ∀ p, ax (x, y) p = p.1 := fun p => by unfold ax; rw [if_pos (by simp only; omega)]
  simp only [brg, List.foldl_cons, List.foldl_nil, brg1, mor, e1]
  rw [two_fm hx]
  have e3 : p.2 + (0 - p.1.fdiv (2 * x) * 2) * y = p.2 - p.1.fdiv (2 * x) * 2 * y := by
    rw [Int.zero_sub, Int.neg_mul]
    omega
  rw [e3]
theorem brg_low {z : Int} (hz : 0 < z) (p : Int × Int) : brg [(0, z)] p = (p.1, p.2.fmod (2 * z)) := by
  have e1 : ∀ p, ax (0, z) p = p.2 := fun p => by unfold ax; rw [if_neg (by simp)]
  simp only [brg, List.foldl_cons, List.foldl_nil, brg1, mor, e1, Int.mul_zero, Int.add_zero]
  rw [two_fm hz]
end IP
namespace IP
open PySem PySem.Spec PyProof.Rows L2
theorem cor_bn {nt : List (Int × Int)} {b : Nat} (nf : Nf nt) (nb : Bn b nt) : ∀ c, c ∈ cor nt → c.1.natAbs < 2 ^ (b + 2) ∧ c.2.natAbs < 2 ^ (b + 2) := fun c hd => by
  have e : 2 ^ (b + 2) = 4 * 2 ^ b := by rw [Nat.pow_add]; omega
  have p0 : 0 < 2 ^ b := Nat.two_pow_pos _
  rw [e]
  cases nf with
  | nil =>
    simp [cor] at hd
    rw [hd]
    simp only
    omega
  | @one x y hx =>
    have b0 := nb (x, y) (by simp)
    simp [cor, mor] at hd
    rcases hd with rfl | rfl <;> (simp only at b0 ⊢; omega)
  | @low z hz =>
    have b0 := nb (0, z) (by simp)
    simp [cor, mor] at hd
    rcases hd with rfl | rfl <;> (simp only at b0 ⊢; omega)
  | @two x y z hx hy hz =>
    have b0 := nb (x, y) (by simp)
    have b1 := nb (0, z) (by simp)
    simp [cor, mor] at hd
    rcases hd with rfl | rfl | rfl | rfl <;> (simp only at b0 b1 ⊢; omega)
theorem hm_bn {n : Nat} {l nt : List (Int × Int)} (N : Nt l nt) (hb : Bn n l) (h : 1 ≤ l.length) {m : Nat} (hm : 6 * n + 40 ≤ m := by omega) : Bn m (hmL nt l) := fun q hq => by
  unfold hmL at hq
  obtain ⟨p, hp, rfl⟩ := List.mem_map.mp hq
  obtain ⟨_, c, hc, e⟩ := hm1_al N.nf (way_sn N hp)
  rw [e]
  have nb := nt_small N hb h
  have nl : nt.length ≤ 2 := by have nf := N.nf; cases nf <;> simp
  have bb := brg_bn nb (nf_pos N.nf) (hb (atL l 0) (at_mem (by omega)))
  have a1 : nt.length * (2 * n + 5 + 4) ≤ 2 * (2 * n + 5 + 4) := Nat.mul_le_mul_right _ nl
  exact mor_bn (c := 1) bb (cor_bn N.nf nb c hc) (by decide) (by omega) (by omega)
/-! ### a law that draws by cells of a slice -/
def cells2Of (cellF penF : Nat) (M : Int) (body : List IS) : List IS :=
  [.for_ (.nm 1) (.bin .add (.lst [.call cellF [.var 0, .cst (.int 0)] []]) (.sli (.var 0) (.cst (.int 1)) (.cst (.int M)))) (.asg (.nm 2) (.call penF [.var 1] []) :: body), .ret (.cst (.bool true))]
theorem cut_len {A : Type} {l : List A} {a b : Nat} : (cutP l (some (a : Int)) (some (b : Int))).length ≤ b := by
  unfold cutP
  rw [HT.sIx_nat, HT.sIx_nat, List.length_take]
  omega
theorem cut_mem {A : Type} {l : List A} {lo hi : Option Int} {x : A} (h : x ∈ cutP l lo hi) : x ∈ l := List.mem_of_mem_drop (List.mem_of_mem_take h)
theorem cells2_ok {W : Option Nat} {cf : CallF} {cellF penF c M : Nat} {body : List IS} {ns : List Int} (m1 : M ≤ 1000)
    (hcell : ∀ (i : Nat) (S : Store), S[0]? = some (.frz (ns.map .int)) → ∃ x : Int, cf cellF [.ref 0, .dat (.int (i : Int))] S = .ok (.dat (.int x)) S)
    (hpen : ∀ (x : Int) (S : Store), ∃ a b : Int, cf penF [.dat (.int x)] S = .ok (.ref S.length) (S ++ [.lst [.int a, .int b, .int 0]]) ∧ 0 ≤ b ∧ b < 2 ^ 31)
    (hbody : ∀ (l : Nat) (S : Store) (v1 : Option Val) (rest : Env), rest.length = c → Pen 0 l S → l ≠ 0 → S[0]? = some (.frz (ns.map .int)) →
      (evSs W cf body (some (.ref 0) :: v1 :: some (.ref l) :: rest) S).sat fun r S' => ∃ v1' v2' rest', r = .nx (some (.ref 0) :: v1' :: v2' :: rest') ∧ rest'.length = c ∧ Fr l S S') (v1 v2 : Option Val) (rest : Env) (hr : rest.length = c) :
    (evSs W cf (cells2Of cellF penF (M : Int) body) (some (.ref 0) :: v1 :: v2 :: rest) [.frz (ns.map .int)]).sat fun r S' => retOf r = .dat (.bool true) := by
  unfold cells2Of
  refine sat_seq ?_
  obtain ⟨x0, hx0⟩ := hcell 0 [.frz (ns.map .int)] rfl
  have zl : [PyData.int x0].length + (cutP (ns.map PyData.int) (some 1) (some (M : Int))).length ≤ sizeLine := by
    have := cut_len (l := ns.map PyData.int) (a := 1) (b := M)
    rw [sizeLine_eq]
    simp only [List.length_cons, List.length_nil]
    have e : (((1 : Nat) : Int)) = 1 := rfl
    rw [e] at this
    omega
  have z1 : (1 : Nat) ≤ sizeLine := by rw [sizeLine_eq]; omega
  have hx0 : cf cellF [.ref 0, .dat (.int 0)] [.frz (ns.map .int)] = .ok (.dat (.int x0)) [.frz (ns.map .int)] := hx0
  refine sat_for (xs := [PyData.int x0] ++ cutP (ns.map PyData.int) (some 1) (some (M : Int))) (S1 := [.frz (ns.map .int)]) ?_ ?_
  · simp only [evE, evL, Out.bind_ok, List.getElem?_cons_zero, dfl, List.map_nil, List.append_nil, hx0, dats_cons, dats_nil, Option.map_some, List.length_cons, List.length_nil, Nat.zero_add, z1, if_true, isNon, partO, Bool.false_eq_true, if_false, lookF_frz (S := [.frz (ns.map .int)]) (l := 0) rfl, sli_l, optD_some, lookO, lookF_dat, bin_add_l]
    rw [if_pos (by simpa using zl)]
    rfl
  refine for_inv (fun i s S' => (∃ v1 v2 rest, s = some (Val.ref 0) :: v1 :: v2 :: rest ∧ rest.length = c) ∧ S'[0]? = some (.frz (ns.map .int))) _ ⟨⟨_, _, _, rfl, hr⟩, rfl⟩ ?_ ?_
  · rintro i x s S e ⟨⟨v1, v2, rest, rfl, hr⟩, h0⟩
    obtain ⟨y, rfl⟩ : ∃ y : Int, x = .int y := by
      have m := List.mem_of_getElem? e
      rcases List.mem_append.mp m with m | m
      · exact ⟨_, List.mem_singleton.mp m⟩
      · obtain ⟨y, _, rfl⟩ := List.mem_map.mp (cut_mem m)
        exact ⟨y, rfl⟩
    obtain ⟨a, b, hp, b0, b1⟩ := hpen y S
    have sl : 0 < S.length := (List.getElem?_eq_some_iff.mp h0).1
    have l1 : (1 : Nat) < (some (Val.ref 0) :: v1 :: v2 :: rest).length := by simp
    have l2 : ∀ u, (2 : Nat) < (some (Val.ref 0) :: u :: v2 :: rest).length := fun u => by simp
    simp only [stepF, bind_nm, l1, if_true]
    simp only [List.set_cons_zero, List.set_cons_succ]
    refine sat_seq ?_
    simp only [evS, evE, evL, Out.bind_ok, List.getElem?_cons_zero, List.getElem?_cons_succ, dfl, List.map_nil, List.append_nil, hp, asT, l2, if_true, List.set_cons_zero, List.set_cons_succ, sat_okI]
    generalize hS1 : S ++ [Ob.lst [PyData.int a, .int b, .int 0]] = S1
    have P1 : Pen 0 S.length S1 := ⟨a, b, 0, by rw [← hS1]; simp, b0, b1, by omega, by omega⟩
    have h1 : S1[0]? = some (.frz (ns.map .int)) := by rw [← hS1, List.getElem?_append_left sl]; exact h0
    have sl1 : 0 < S1.length := (List.getElem?_eq_some_iff.mp h1).1
    refine sat_mono (hbody S.length S1 _ rest hr P1 (by omega) h1) ?_
    rintro r S2 ⟨w1, w2, rest', rfl, hr', F2⟩
    exact ⟨_, rfl, ⟨_, _, _, rfl, hr'⟩, by rw [F2.at_ 0 sl1 (by omega)]; exact h1⟩
  · rintro s S ⟨⟨v1, v2, rest, rfl, hr⟩, h0⟩
    refine sat_seq ?_
    simp only [evS, evE, Out.bind_ok, sat_okI, retOf]
end IP
namespace IP
open PySem PySem.Spec PyProof.Rows L2
/-! ### things of any kind, none of them great -/
mutual
def gI (b : Nat) : PyData → Bool
  | .none => true
  | .bool _ => true
  | .int i => decide (i.natAbs < 2 ^ b)
  | .str s => decide ((PyData.str s).shown.length ≤ 98)
  | .list xs => gIs b xs
  | .tuple xs => gIs b xs
  | .dict kvs => (PyData.dict kvs).showable && decide ((PyData.dict kvs).shown.length ≤ 98)
def gIs (b : Nat) : List PyData → Bool
  | [] => true
  | x :: xs => gI b x && gIs b xs
end
mutual
def wt : PyData → Nat
  | .none => 5
  | .bool _ => 5
  | .int _ => 80
  | .str _ => 100
  | .list xs => wts xs + 3
  | .tuple xs => wts xs + 3
  | .dict _ => 100
def wts : List PyData → Nat
  | [] => 0
  | x :: xs => wt x + 2 + wts xs
end
mutual
theorem gI_mono {b c : Nat} (h : b ≤ c) : ∀ p, gI b p = true → gI c p = true
  | .none, _ => rfl
  | .bool _, _ => rfl
  | .int i, q => by
    simp only [gI, decide_eq_true_eq] at q ⊢
    exact Nat.lt_of_lt_of_le q (Nat.pow_le_pow_right (by decide) h)
  | .str s, q => q
  | .list xs, q => by simp only [gI] at q ⊢; exact gIs_mono h xs q
  | .tuple xs, q => by simp only [gI] at q ⊢; exact gIs_mono h xs q
  | .dict _, q => q
theorem gIs_mono {b c : Nat} (h : b ≤ c) : ∀ p, gIs b p = true → gIs c p = true
  | [], _ => rfl
  | x :: xs, q => by
    simp only [gIs, Bool.and_eq_true] at q ⊢
    exact ⟨gI_mono h x q.1, gIs_mono h xs q.2⟩
end
mutual
theorem gI_sh {b : Nat} (hb : b ≤ 62) : ∀ p, gI b p = true → p.showable = true ∧ p.shown.length ≤ wt p
  | .none, _ => ⟨rfl, rk_none.ln⟩
  | .bool _, _ => ⟨rfl, rk_bool.ln⟩
  | .int i, q => by
    simp only [gI, decide_eq_true_eq] at q
    have r := rk_int q (by omega)
    exact ⟨r.sh, by have := r.ln; simp only [wt]; omega⟩
  | .str s, q => by
    simp only [gI, decide_eq_true_eq] at q
    exact ⟨rfl, by simp only [wt]; omega⟩
  | .list xs, q => by
    simp only [gI] at q
    obtain ⟨h1, h2⟩ := gIs_sh hb xs q
    refine ⟨by simpa only [PyData.showable] using h1, ?_⟩
    show (listText (PyData.shownAll xs)).length ≤ _
    unfold listText
    rw [strLen_append]
    have := text_le (PyData.shownAll xs) 0 "["
    have e1 : ((("[" : String) : Str)).length = 1 := rfl
    have e2 : ((("]" : String) : Str)).length = 1 := rfl
    simp only [wt]
    omega
  | .tuple xs, q => by
    simp only [gI] at q
    obtain ⟨h1, h2⟩ := gIs_sh hb xs q
    refine ⟨by simpa only [PyData.showable] using h1, ?_⟩
    show (tupleText (PyData.shownAll xs)).length ≤ _
    unfold tupleText
    rw [strLen_append, strLen_append]
    have e1 : ((("(" : String) : Str)).length = 1 := rfl
    have e3 : (((if (PyData.shownAll xs).length == 1 then ",)" else ")" : String) : Str)).length ≤ 2 := by split <;> decide
    have := join_le (PyData.shownAll xs)
    simp only [wt]
    omega
  | .dict kvs, q => by
    simp only [gI, Bool.and_eq_true, decide_eq_true_eq] at q
    exact ⟨q.1, by simp only [wt]; omega⟩
theorem gIs_sh {b : Nat} (hb : b ≤ 62) : ∀ xs, gIs b xs = true → PyData.showableAll xs = true ∧ piled (PyData.shownAll xs) ≤ wts xs
  | [], _ => ⟨rfl, Nat.le_refl _⟩
  | x :: xs, q => by
    simp only [gIs, Bool.and_eq_true] at q
    obtain ⟨h1, h2⟩ := gI_sh hb x q.1
    obtain ⟨h3, h4⟩ := gIs_sh hb xs q.2
    refine ⟨by simp only [PyData.showableAll, h1, h3, Bool.and_self], ?_⟩
    simp only [PyData.shownAll, piled_cons, wts]
    omega
end
structure Gd (b d n : Nat) (p : PyData) : Prop where
  gi : gI b p = true
  dp : p.depth ≤ d
  w : wt p ≤ n
structure Gs (b d n : Nat) (xs : List PyData) : Prop where
  gi : gIs b xs = true
  dp : PyData.depthAll xs ≤ d
  w : wts xs ≤ n
section
variable {b b' d d' m n n' : Nat} {p x : PyData} {xs ys : List PyData}
theorem Gd.mono (h : Gd b d n p) (hb : b ≤ b') (hd : d ≤ d') (hn : n ≤ n') : Gd b' d' n' p := ⟨gI_mono hb p h.gi, Nat.le_trans h.dp hd, Nat.le_trans h.w hn⟩
theorem Gs.mono (h : Gs b d n xs) (hb : b ≤ b') (hd : d ≤ d') (hn : n ≤ n') : Gs b' d' n' xs := ⟨gIs_mono hb xs h.gi, Nat.le_trans h.dp hd, Nat.le_trans h.w hn⟩
theorem Gd.ok (h : Gd b d n p) (hb : b ≤ 62) (hd : d ≤ 64) (hn : n ≤ 2 ^ 24) : repOk p = true := by
  obtain ⟨h1, h2⟩ := gI_sh hb p h.gi
  unfold repOk
  rw [h1, decide_eq_true (Nat.le_trans h.dp hd), decide_eq_true (show p.shown.length ≤ sizeLine from Nat.le_trans h2 (Nat.le_trans h.w hn))]
  rfl
theorem Gd.rk (h : Gd b d n p) (hb : b ≤ 62) : Rk d n p := by
  obtain ⟨h1, h2⟩ := gI_sh hb p h.gi
  exact ⟨h1, h.dp, Nat.le_trans h2 h.w⟩
theorem Gs.nil : Gs b d n [] := ⟨rfl, Nat.zero_le _, Nat.zero_le _⟩
theorem Gs.cons (h : Gd b d m x) (k : Gs b d n xs) : Gs b d (m + 2 + n) (x :: xs) := by
  refine ⟨by simp only [gIs, h.gi, k.gi, Bool.and_self], by simp only [PyData.depthAll]; exact Nat.max_le.mpr ⟨h.dp, k.dp⟩, ?_⟩
  have := h.w
  have := k.w
  simp only [wts]
  omega
theorem Gs.app (h : Gs b d m xs) (k : Gs b d n ys) : Gs b d (m + n) (xs ++ ys) := by
  induction xs generalizing m with
  | nil => exact k.mono (Nat.le_refl _) (Nat.le_refl _) (by omega)
  | cons x xs ih =>
    have h1 := h.gi
    have h2 := h.dp
    have h3 := h.w
    simp only [gIs, Bool.and_eq_true] at h1
    simp only [PyData.depthAll] at h2
    simp only [wts] at h3
    have r := ih (m := m - (wt x + 2)) ⟨h1.2, Nat.le_trans (Nat.le_max_right _ _) h2, by omega⟩
    exact (Gs.cons (m := wt x) ⟨h1.1, Nat.le_trans (Nat.le_max_left _ _) h2, Nat.le_refl _⟩ r).mono (Nat.le_refl _) (Nat.le_refl _) (by omega)
theorem Gs.head (h : Gs b d n (x :: xs)) : Gd b d n x ∧ Gs b d n xs := by
  have h1 := h.gi
  have h2 := h.dp
  have h3 := h.w
  simp only [gIs, Bool.and_eq_true] at h1
  simp only [PyData.depthAll] at h2
  simp only [wts] at h3
  exact ⟨⟨h1.1, Nat.le_trans (Nat.le_max_left _ _) h2, by omega⟩, h1.2, Nat.le_trans (Nat.le_max_right _ _) h2, by omega⟩
theorem Gs.sub (h : Gs b d n xs) (s : ys.Sublist xs) : Gs b d n ys := by
  induction s generalizing n with
  | slnil => exact h
  | cons x _ ih => exact ih h.head.2
  | @cons_cons l1 l2 x s ih =>
    have h3 := h.w
    simp only [wts] at h3
    have k : Gs b d (n - (wt x + 2)) l2 := ⟨h.head.2.gi, h.head.2.dp, by omega⟩
    exact (Gs.cons (m := wt x) ⟨h.head.1.gi, h.head.1.dp, Nat.le_refl _⟩ (ih k)).mono (Nat.le_refl _) (Nat.le_refl _) (by omega)
theorem Gs.take (h : Gs b d n xs) (k : Nat) : Gs b d n (xs.take k) := h.sub (List.take_sublist k xs)
theorem Gs.drop (h : Gs b d n xs) (k : Nat) : Gs b d n (xs.drop k) := h.sub (List.drop_sublist k xs)
theorem Gs.rev (h : Gs b d n xs) : Gs b d n xs.reverse := by
  induction xs generalizing n with
  | nil => exact h
  | cons x xs ih =>
    have h3 := h.w
    simp only [wts] at h3
    have k : Gs b d (n - (wt x + 2)) xs := ⟨h.head.2.gi, h.head.2.dp, by omega⟩
    rw [List.reverse_cons]
    exact ((ih k).app (Gs.cons (m := wt x) (n := 0) (xs := []) ⟨h.head.1.gi, h.head.1.dp, Nat.le_refl _⟩ .nil)).mono (Nat.le_refl _) (Nat.le_refl _) (by omega)
theorem Gs.mem (h : Gs b d n xs) (hx : x ∈ xs) : Gd b d n x := by
  induction xs with
  | nil => cases hx
  | cons y xs ih =>
    rcases List.mem_cons.mp hx with rfl | hx
    · exact h.head.1
    · exact ih h.head.2 hx
theorem Gs.tup (h : Gs b d n xs) : Gd b (d + 1) (n + 3) (.tuple xs) := ⟨by simp only [gI]; exact h.gi, by have := h.dp; simp only [PyData.depth]; omega, by have := h.w; simp only [wt]; omega⟩
theorem Gs.lst (h : Gs b d n xs) : Gd b (d + 1) (n + 3) (.list xs) := ⟨by simp only [gI]; exact h.gi, by have := h.dp; simp only [PyData.depth]; omega, by have := h.w; simp only [wt]; omega⟩
theorem Gd.untup (h : Gd b d n (.tuple xs)) : 1 ≤ d ∧ Gs b (d - 1) (n - 3) xs ∧ 3 ≤ n := by
  have h1 := h.gi
  have h2 := h.dp
  have h3 := h.w
  simp only [gI] at h1
  simp only [PyData.depth] at h2
  simp only [wt] at h3
  exact ⟨by omega, ⟨h1, by omega, by omega⟩, by omega⟩
theorem Gs.of_all (h : ∀ x, x ∈ xs → Gd b d n x) : Gs b d (xs.length * (n + 2)) xs := by
  induction xs with
  | nil => exact .nil
  | cons x xs ih =>
    refine (Gs.cons (h x List.mem_cons_self) (ih fun y hy => h y (List.mem_cons_of_mem _ hy))).mono (Nat.le_refl _) (Nat.le_refl _) ?_
    rw [List.length_cons, Nat.succ_mul]
    omega
theorem gd_int {i : Int} (h : i.natAbs < 2 ^ b) : Gd b 0 80 (.int i) := ⟨decide_eq_true h, Nat.le_refl _, Nat.le_refl _⟩
theorem gd_bool {c : Bool} : Gd b 0 5 (.bool c) := ⟨rfl, Nat.le_refl _, Nat.le_refl _⟩
def gdB (b d n : Nat) (p : PyData) : Bool := gI b p && decide (p.depth ≤ d) && decide (wt p ≤ n)
theorem gd_of (h : gdB b d n p = true) : Gd b d n p := by
  unfold gdB at h
  simp only [Bool.and_eq_true, decide_eq_true_eq] at h
  exact ⟨h.1.1, h.1.2, h.2⟩
theorem gs_of (h : xs.all (gdB b d n) = true) : ∀ x, x ∈ xs → Gd b d n x := fun x hx => gd_of (List.all_eq_true.mp h x hx)
end
theorem gd_pl {b : Nat} {p : Int × Int} (h : p.1.natAbs < 2 ^ b ∧ p.2.natAbs < 2 ^ b) : Gd b 1 170 (pl p) :=
  (Gs.tup (Gs.cons (gd_int h.1) (Gs.cons (gd_int h.2) (n := 0) .nil))).mono (Nat.le_refl _) (Nat.le_refl _) (by omega)
theorem gd_lay {b : Nat} {l : List (Int × Int)} (h : Bn b l) : Gd b 2 (l.length * 172 + 3) (lay l) := by
  refine Gs.tup (d := 1) ?_
  have := Gs.of_all (b := b) (d := 1) (n := 170) (xs := l.map pl) fun x hx => by
    obtain ⟨p, hp, rfl⟩ := List.mem_map.mp hx
    exact gd_pl (h p hp)
  rw [List.length_map] at this
  exact this
/-! ### what things are -/
def isWh : PyData → Bool
  | .int _ => true
  | _ => false
def isPl : PyData → Bool
  | .tuple xs => decide (xs.length = 2) && xs.all isWh
  | _ => false
def isLy : PyData → Bool
  | .tuple xs => decide (1 ≤ xs.length ∧ xs.length ≤ 6) && xs.all isPl
  | _ => false
theorem isWh_ty (p : PyData) : (isTy .int p && !(isTy .bool p)) = isWh p := by cases p <;> rfl
theorem wh_int {p : PyData} (h : isWh p = true) : ∃ i, p = .int i := by
  cases p <;> first | exact ⟨_, rfl⟩ | cases h
theorem pl_of {p : PyData} (h : isPl p = true) : ∃ q, p = pl q := by
  cases p <;> first | (cases h; done) | skip
  rename_i xs
  simp only [isPl, Bool.and_eq_true, decide_eq_true_eq] at h
  match xs, h with
  | [a, c], h =>
    simp only [List.all_cons, List.all_nil, Bool.and_true, Bool.and_eq_true] at h
    obtain ⟨i, rfl⟩ := wh_int h.2.1
    obtain ⟨j, rfl⟩ := wh_int h.2.2
    exact ⟨(i, j), rfl⟩
theorem ly_of {p : PyData} (h : isLy p = true) : ∃ l, p = lay l ∧ 1 ≤ l.length ∧ l.length ≤ 6 := by
  cases p <;> first | (cases h; done) | skip
  rename_i xs
  simp only [isLy, Bool.and_eq_true, decide_eq_true_eq] at h
  have key : ∀ xs : List PyData, xs.all isPl = true → ∃ l : List (Int × Int), xs = l.map pl := by
    intro xs
    induction xs with
    | nil => exact fun _ => ⟨[], rfl⟩
    | cons x xs ih =>
      intro h
      simp only [List.all_cons, Bool.and_eq_true] at h
      obtain ⟨q, rfl⟩ := pl_of h.1
      obtain ⟨l, rfl⟩ := ih h.2
      exact ⟨q :: l, rfl⟩
  obtain ⟨l, rfl⟩ := key xs h.2
  rw [List.length_map] at h
  exact ⟨l, rfl, h.1.1, h.1.2⟩
theorem isPl_pl (q : Int × Int) : isPl (pl q) = true := rfl
theorem isLy_lay {l : List (Int × Int)} (h : 1 ≤ l.length ∧ l.length ≤ 6) : isLy (lay l) = true := by
  simp only [lay, isLy, List.length_map, decide_eq_true h, Bool.true_and, List.all_map]
  simp [List.all_eq_true, isPl_pl]
theorem nty {p : PyData} (h : isTy .tuple p = true) : ∃ xs, p = .tuple xs := by
  cases p <;> first | exact ⟨_, rfl⟩ | cases h
theorem eq_unit (xs : List PyData) : cmpP .eq (.tuple xs) (.tuple []) = some xs.isEmpty := by
  show eqO (eqP (.tuple xs) (.tuple [])) (eqT0 (.tuple xs) (.tuple [])) = _
  have e : eqP (.tuple xs) (.tuple []) = if SeqAt.shaped (.tuple xs) = true ∧ SeqAt.shaped (.tuple []) = true then some (PyData.eqv (.tuple xs) (.tuple [])) else none := rfl
  rw [e]
  split
  · cases xs <;> rfl
  · rfl
theorem comp_mapL {f : PyData → Store → Out (Option PyData)} {g : PyData → PyData} {S : Store} {l : List PyData} (h : ∀ a, a ∈ l → f a S = .ok (some (g a)) S) : compL f l S = .ok (l.map g) S := by
  have := comp_map (h := fun a : PyData => a) (g := g) (l := l) h
  rwa [List.map_id'] at this
end IP
namespace IP
open PySem PySem.Spec PyProof.Rows L2
/-! the text by places -/
def top (i : Nat) : Stmt := PySem.Challenge.pw_overleaps_k01_places_and_lays_known.main.body.getD i (.Pass ⟨0, 0, 0, 0⟩)
abbrev st_0 : Stmt := top 3
def N_0 : List Str := ["thing"]
/-- is_whole -/
def b_0 : List IS := [.ret (.and (.bf (.isi .int) [.var 0]) (.not (.bf (.isi .bool) [.var 0])))]
def t_0 : FnT := ⟨"is_whole", none, 1, ["thing"], [], []⟩
def d_0 : FD := ⟨1, 1, b_0⟩
abbrev st_1 : Stmt := top 4
def N_1 : List Str := ["thing", "least", "most"]
/-- is_long -/
def b_1 : List IS := [.ret (.and (.bf (.isi .tuple) [.var 0]) (.chn .le .le (.var 1) (.bf .len [.var 0]) (.var 2)))]
def t_1 : FnT := ⟨"is_long", none, 3, ["thing", "least", "most"], [], []⟩
def d_1 : FD := ⟨3, 3, b_1⟩
abbrev st_2 : Stmt := top 5
def N_2 : List Str := ["thing", "one"]
/-- is_place -/
def b_2 : List IS := [.ret (.and (.call 1 [.var 0, .gcs 1 (.int 2), .gcs 1 (.int 2)] []) (.bf .all [.comp (.call 0 [.var 1] []) (.nm 1) (.var 0) [] [1]]))]
def t_2 : FnT := ⟨"is_place", none, 1, ["thing"], [], []⟩
def d_2 : FD := ⟨1, 2, b_2⟩
abbrev st_3 : Stmt := top 6
def N_3 : List Str := ["thing", "one"]
/-- is_lay -/
def b_3 : List IS := [.ret (.and (.call 1 [.var 0, .cst (.int 1), .gcs 0 (.int 6)] []) (.bf .all [.comp (.call 2 [.var 1] []) (.nm 1) (.var 0) [] [1]]))]
def t_3 : FnT := ⟨"is_lay", none, 1, ["thing"], [], []⟩
def d_3 : FD := ⟨1, 2, b_3⟩
abbrev st_4 : Stmt := top 8
def N_4 : List Str := ["_law_script", "_law_k"]
/-- _law_cell_at -/
def b_4 : List IS := [.ite (.cmp .lt (.var 1) (.bf .len [.var 0])) [.ret (.idx (.var 0) (.var 1))] [],
  .ret (.cst (.int 0))]
def t_4 : FnT := ⟨"_law_cell_at", none, 2, ["_law_script", "_law_k"], [], []⟩
def d_4 : FD := ⟨2, 2, b_4⟩
abbrev st_5 : Stmt := top 9
def N_5 : List Str := ["_law_cell"]
/-- _law_pen -/
def b_5 : List IS := [.ret (.new (.lst [.bf .max2 [.cst (.int 0), .bin .sub (.var 0) (.bin .pow (.cst (.int 10)) (.cst (.int 18)))], .bin .add (.bin .mod (.var 0) (.cst (.int 2147483629))) (.cst (.int 1)), .cst (.int 0)]))]
def t_5 : FnT := ⟨"_law_pen", none, 1, ["_law_cell"], [], []⟩
def d_5 : FD := ⟨1, 1, b_5⟩
abbrev st_6 : Stmt := top 10
def N_6 : List Str := ["_law_pen_here", "_law_many", "_law_mixed", "_law_found"]
/-- _law_draw -/
def b_6 : List IS := [.ite (.cmp .gt (.idx (.var 0) (.cst (.int 0))) (.cst (.int 0))) [.asg (.nm 3) (.bin .mod (.idx (.var 0) (.cst (.int 0))) (.var 1)),
    .asg (.sub (.var 0) (.cst (.int 0))) (.bin .fdv (.idx (.var 0) (.cst (.int 0))) (.var 1)),
    .ret (.var 3)] [],
  .asg (.sub (.var 0) (.cst (.int 2))) (.bin .add (.idx (.var 0) (.cst (.int 2))) (.cst (.int 1))),
  .asg (.sub (.var 0) (.cst (.int 1))) (.bin .mod (.bin .add (.bin .add (.bin .mul (.idx (.var 0) (.cst (.int 1))) (.cst (.int 48271))) (.bin .mul (.cst (.int 1009)) (.idx (.var 0) (.cst (.int 2))))) (.cst (.int 7))) (.cst (.int 2147483647))),
  .asg (.nm 2) (.bin .mod (.bin .add (.bin .add (.bin .mul (.idx (.var 0) (.cst (.int 1))) (.idx (.var 0) (.cst (.int 1)))) (.bin .mul (.cst (.int 69621)) (.idx (.var 0) (.cst (.int 1))))) (.cst (.int 11))) (.cst (.int 2147483629))),
  .asg (.nm 2) (.bin .mod (.bin .add (.bin .mul (.var 2) (.var 2)) (.bin .mul (.cst (.int 40014)) (.var 2))) (.cst (.int 2147483587))),
  .ret (.bin .mod (.bin .fdv (.var 2) (.cst (.int 16))) (.var 1))]
def t_6 : FnT := ⟨"_law_draw", none, 2, ["_law_pen_here", "_law_many"], [], []⟩
def d_6 : FD := ⟨2, 4, b_6⟩
abbrev st_7 : Stmt := top 11
def N_7 : List Str := ["_law_pen_here", "_law_some"]
/-- _law_pick -/
def b_7 : List IS := [.ret (.idx (.var 1) (.call 6 [.var 0, .bf .len [.var 1]] []))]
def t_7 : FnT := ⟨"_law_pick", none, 2, ["_law_pen_here", "_law_some"], [], []⟩
def d_7 : FD := ⟨2, 2, b_7⟩
abbrev st_8 : Stmt := top 12
def N_8 : List Str := ["_law_found", "_law_due"]
/-- _law_same -/
def b_8 : List IS := [.ret (.cmp .eq (.bf .repr [.var 0]) (.bf .repr [.var 1]))]
def t_8 : FnT := ⟨"_law_same", none, 2, ["_law_found", "_law_due"], [], []⟩
def d_8 : FD := ⟨2, 2, b_8⟩
abbrev st_9 : Stmt := top 13
def N_9 : List Str := ["_law_pen_here", "_law_far"]
/-- _law_spot -/
def b_9 : List IS := [.ret (.tup [.bin .sub (.call 6 [.var 0, .bin .add (.bin .mul (.cst (.int 2)) (.var 1)) (.cst (.int 1))] []) (.var 1), .bin .sub (.call 6 [.var 0, .bin .add (.bin .mul (.cst (.int 2)) (.var 1)) (.cst (.int 1))] []) (.var 1)])]
def t_9 : FnT := ⟨"_law_spot", none, 2, ["_law_pen_here", "_law_far"], [], []⟩
def d_9 : FD := ⟨2, 2, b_9⟩
abbrev st_10 : Stmt := top 14
def N_10 : List Str := ["_law_pen_here", "_law_most", "_law_far", "_law_token", "_law_many", "_law_sort", "_law_begin", "_law_step", "_law_found", "_law_place", "_law_times"]
/-- _law_lay -/
def b_10 : List IS := [.par [.nm 4, .nm 5] [.bin .add (.cst (.int 1)) (.call 6 [.var 0, .var 1] []), .call 6 [.var 0, .cst (.int 8)] []],
  .par [.nm 6, .nm 7, .nm 8] [.call 9 [.var 0, .var 2] [], .call 9 [.var 0, .bin .add (.cst (.int 1)) (.bin .fdv (.var 2) (.cst (.int 4)))] [], .new (.lst [])],
  .for_ (.nm 3) (.rg1 (.var 4)) [.asg (.nm 9) (.call 9 [.var 0, .var 2] []),
    .ite (.cmp .eq (.var 5) (.cst (.int 1))) [.asg (.nm 10) (.bin .sub (.call 6 [.var 0, .cst (.int 5)] []) (.cst (.int 2))),
      .asg (.nm 9) (.tup [.bin .add (.idx (.var 6) (.cst (.int 0))) (.bin .mul (.var 10) (.idx (.var 7) (.cst (.int 0)))), .bin .add (.idx (.var 6) (.cst (.int 1))) (.bin .mul (.var 10) (.idx (.var 7) (.cst (.int 1))))])] [],
    .ite (.cmp .eq (.var 5) (.cst (.int 2))) [.asg (.nm 10) (.idx (.lst [.cst (.int 2), .cst (.int 3), .cst (.int 4), .cst (.int 6)]) (.call 6 [.var 0, .cst (.int 4)] [])),
      .asg (.nm 9) (.tup [.bin .add (.idx (.var 6) (.cst (.int 0))) (.bin .mul (.bin .fdv (.idx (.var 9) (.cst (.int 0))) (.var 10)) (.var 10)), .bin .add (.idx (.var 6) (.cst (.int 1))) (.bin .mul (.bin .fdv (.idx (.var 9) (.cst (.int 1))) (.var 10)) (.var 10))])] [],
    .ite (.and (.cmp .eq (.var 5) (.cst (.int 3))) (.cmp .eq (.call 6 [.var 0, .cst (.int 2)] []) (.cst (.int 0)))) [.asg (.nm 9) (.var 6)] [],
    .ite (.cmp .eq (.var 5) (.cst (.int 4))) [.asg (.nm 9) (.tup [.idx (.var 6) (.cst (.int 0)), .idx (.var 9) (.cst (.int 1))])] [],
    .app 8 (.tup [.bf .max2 [.bin .sub (.cst (.int 0)) (.var 2), .bf .min2 [.var 2, .idx (.var 9) (.cst (.int 0))]], .bf .max2 [.bin .sub (.cst (.int 0)) (.var 2), .bf .min2 [.var 2, .idx (.var 9) (.cst (.int 1))]]])],
  .ite (.cmp .eq (.var 5) (.cst (.int 5))) [.ret (.bin .mul (.tup [.var 6]) (.var 4))] [],
  .ret (.bf .tuple [.var 8])]
def t_10 : FnT := ⟨"_law_lay", none, 3, ["_law_pen_here", "_law_most", "_law_far"], [], []⟩
def d_10 : FD := ⟨3, 11, b_10⟩
abbrev st_11 : Stmt := top 15
def N_11 : List Str := ["_law_thing"]
/-- _law_is_whole -/
def b_11 : List IS := [.ret (.and (.bf (.isi .int) [.var 0]) (.not (.bf (.isi .bool) [.var 0])))]
def t_11 : FnT := ⟨"_law_is_whole", none, 1, ["_law_thing"], [], []⟩
def d_11 : FD := ⟨1, 1, b_11⟩
abbrev st_12 : Stmt := top 16
def N_12 : List Str := ["_law_thing", "_law_one"]
/-- _law_is_spot -/
def b_12 : List IS := [.ret (.and (.bf (.isi .tuple) [.var 0]) (.and (.cmp .eq (.bf .len [.var 0]) (.cst (.int 2))) (.bf .all [.comp (.call 11 [.var 1] []) (.nm 1) (.var 0) [] [1]])))]
def t_12 : FnT := ⟨"_law_is_spot", none, 1, ["_law_thing"], [], []⟩
def d_12 : FD := ⟨1, 2, b_12⟩
abbrev st_13 : Stmt := top 17
def N_13 : List Str := ["_law_pen_here", "_law_some"]
/-- _law_odd -/
def b_13 : List IS := [.asg (.nm 1) (.lst [.cst (.none), .cst (.bool true), .cst (.bool false), .neg (.cst (.int 1)), .cst (.int 0), .cst (.int 1), .bin .pow (.cst (.int 10)) (.cst (.int 11)), .cst (.str ""), .cst (.str "0,0"), .tup [], .lst [], .dic0, .tup [.cst (.int 0)], .lst [.cst (.int 0)], .tup [.cst (.int 0), .cst (.int 0)], .tup [.tup [.cst (.int 0), .cst (.int 0)]], .tup [.cst (.int 1), .cst (.bool true)]]),
  .ret (.call 7 [.var 0, .bin .add (.var 1) (.lst [.tup [.cst (.str "runs"), .tup []], .tup [.tup [.cst (.int 0), .cst (.int 0)], .tup [.cst (.int 1), .cst (.int 0)]], .tup [.cst (.int 0), .cst (.int 1), .cst (.int 1), .cst (.int 1)]])] [])]
def t_13 : FnT := ⟨"_law_odd", none, 1, ["_law_pen_here"], [], []⟩
def d_13 : FD := ⟨1, 2, b_13⟩
abbrev st_14 : Stmt := top 18
def N_14 : List Str := ["_law_thing", "_law_one"]
/-- _law_is_lay -/
def b_14 : List IS := [.ret (.and (.bf (.isi .tuple) [.var 0]) (.and (.chn .le .le (.cst (.int 1)) (.bf .len [.var 0]) (.cst (.int 6))) (.bf .all [.comp (.call 12 [.var 1] []) (.nm 1) (.var 0) [] [1]])))]
def t_14 : FnT := ⟨"_law_is_lay", none, 1, ["_law_thing"], [], []⟩
def d_14 : FD := ⟨1, 2, b_14⟩
abbrev st_15 : Stmt := top 19
def N_15 : List Str := ["_law_pen_here", "_law_thing", "_law_deep", "_law_at", "_law_kind"]
/-- _law_bent -/
def b_15 : List IS := [.ite (.and (.call 11 [.var 1] []) (.cmp .gt (.call 6 [.var 0, .cst (.int 4)] []) (.cst (.int 0)))) [.ret (.call 7 [.var 0, .lst [.bin .add (.var 1) (.cst (.int 1)), .bin .sub (.cst (.int 0)) (.var 1), .cmp .eq (.var 1) (.cst (.int 1)), .bin .pow (.cst (.int 10)) (.cst (.int 12)), .neg (.cst (.int 1)), .bin .add (.cst (.int 51)) (.bin .mod (.var 1) (.cst (.int 100)))]] [])] [],
  .ite (.or (.not (.bf (.isi .tuple) [.var 1])) (.or (.cmp .eq (.var 1) (.tup [])) (.cmp .eq (.var 2) (.cst (.int 0))))) [.ret (.call 13 [.var 0] [])] [],
  .par [.nm 3, .nm 4] [.call 6 [.var 0, .bf .len [.var 1]] [], .call 6 [.var 0, .cst (.int 8)] []],
  .ite (.cmp .lt (.var 4) (.cst (.int 3))) [.ret (.idx (.lst [.bin .add (.sli (.var 1) .non (.var 3)) (.sli (.var 1) (.bin .add (.var 3) (.cst (.int 1))) .non), .bin .add (.sli (.var 1) .non (.bin .add (.var 3) (.cst (.int 1)))) (.sli (.var 1) (.var 3) .non), .rev (.var 1)]) (.var 4))] [],
  .ite (.cmp .eq (.var 4) (.cst (.int 3))) [.ret (.bf .list [.var 1])] [],
  .ret (.bin .add (.bin .add (.sli (.var 1) .non (.var 3)) (.tup [.call 15 [.var 0, .idx (.var 1) (.var 3), .bin .sub (.var 2) (.cst (.int 1))] []])) (.sli (.var 1) (.bin .add (.var 3) (.cst (.int 1))) .non))]
def t_15 : FnT := ⟨"_law_bent", none, 3, ["_law_pen_here", "_law_thing", "_law_deep"], [], []⟩
def d_15 : FD := ⟨3, 5, b_15⟩
abbrev st_16 : Stmt := top 20
def N_16 : List Str := ["_law_spot_here", "_law_some"]
/-- _law_by_hand -/
def b_16 : List IS := [.asg (.nm 0) (.tup [.cst (.int 0), .neg (.cst (.int 1))]),
  .asg (.nm 1) (.lst [.tup [], .tup [.cst (.int 0)], .tup [.cst (.int 0), .cst (.int 0)], .tup [.cst (.int 0), .cst (.int 0), .cst (.int 0)], .tup [.cst (.bool true), .cst (.int 0)], .tup [.cst (.int 0), .cst (.bool false)], .tup [.cst (.none), .cst (.int 0)], .tup [.cst (.str "0"), .cst (.int 0)], .lst [.cst (.int 0), .cst (.int 0)], .tup [.cst (.int 0), .lst [.cst (.int 0)]], .bin .pow (.cst (.int 10)) (.cst (.int 12))]),
  .asg (.nm 1) (.bin .add (.var 1) (.lst [.tup [.var 0], .bin .mul (.tup [.var 0]) (.cst (.int 6)), .bin .mul (.tup [.var 0]) (.cst (.int 7)), .tup [.tup [.cst (.int 0)]], .tup [.tup [.cst (.int 0), .cst (.int 0), .cst (.int 0)]], .tup [.var 0, .cst (.none)], .tup [.var 0, .lst [.cst (.int 0), .cst (.int 0)]], .lst [.var 0]])),
  .asg (.nm 1) (.bin .add (.var 1) (.lst [.tup [.var 0, .tup [.cst (.int 0), .cst (.bool true)]], .tup [.var 0, .tup [.cst (.str "0"), .cst (.int 0)]], .tup [.tup [.var 0]], .dic1 (.int 0) (.cst (.int 0)), .dic0, .cst (.str "0,0"), .cst (.none), .tup [.bin .pow (.cst (.int 10)) (.cst (.int 12)), .bin .sub (.cst (.int 0)) (.bin .pow (.cst (.int 10)) (.cst (.int 12)))]])),
  .ret (.bin .add (.var 1) (.lst [.tup [.var 0, .tup [.bin .pow (.cst (.int 10)) (.cst (.int 12)), .cst (.int 5)]], .tup [.tup [], .tup []], .tup [.cst (.str ""), .cst (.str "")], .tup [.cst (.str "00"), .cst (.str "00")], .tup [.cst (.int 0), .neg (.cst (.int 0))], .neg (.cst (.int 50)), .tup [.tup [.neg (.cst (.int 50)), .cst (.int 50)]]]))]
def t_16 : FnT := ⟨"_law_by_hand", none, 0, [], [], []⟩
def d_16 : FD := ⟨0, 2, b_16⟩
abbrev st_17 : Stmt := top 21
def N_17 : List Str := ["_law_thing", "_law_found", "_law_due", "_law_kept"]
/-- _law_right -/
def b_17 : List IS := [.par [.nm 2, .nm 3] [.lst [.call 12 [.var 0] [], .call 14 [.var 0] []], .bf .repr [.var 0]],
  .asg (.nm 1) (.lst [.call 2 [.var 0] [], .call 3 [.var 0] [], .call 2 [.var 0] [], .call 3 [.var 0] []]),
  .ret (.and (.call 8 [.var 1, .bin .mul (.var 2) (.cst (.int 2))] []) (.cmp .eq (.bf .repr [.var 0]) (.var 3)))]
def t_17 : FnT := ⟨"_law_right", none, 1, ["_law_thing"], [], []⟩
def d_17 : FD := ⟨1, 4, b_17⟩
abbrev st_18 : Stmt := top 22
def N_18 : List Str := ["_law_script", "_law_k", "_law_pen_here", "_law_lap", "_law_begun", "_law_things", "_law_turn", "_law_bent_here", "_law_thing"]
/-- law -/
def b_18 : List IS := [.ite (.not (.bf .all [.comp (.call 17 [.var 8] []) (.nm 8) (.call 16 [] []) [] [8]])) [.ret (.cst (.bool false))] [],
  .for_ (.nm 1) (.rg1 (.bf .max2 [.cst (.int 1), .bf .min2 [.bf .len [.var 0], .cst (.int 4)]])) [.asg (.nm 2) (.call 5 [.call 4 [.var 0, .var 1] []] []),
    .for_ (.nm 3) (.rg1 (.cst (.int 4))) [.asg (.nm 4) (.call 10 [.var 2, .cst (.int 6), .cst (.int 50)] []),
      .asg (.nm 5) (.lst [.var 4, .idx (.var 4) (.cst (.int 0)), .call 13 [.var 2] []]),
      .for_ (.nm 6) (.rg1 (.cst (.int 6))) [.asg (.nm 7) (.call 15 [.var 2, .var 4, .cst (.int 3)] []),
        .asg (.nm 5) (.bin .add (.var 5) (.lst [.var 7, .call 15 [.var 2, .var 7, .cst (.int 3)] [], .call 15 [.var 2, .idx (.var 4) (.cst (.int 0)), .cst (.int 2)] []]))],
      .ite (.not (.bf .all [.comp (.call 17 [.var 8] []) (.nm 8) (.var 5) [] [8]])) [.ret (.cst (.bool false))] []]],
  .ret (.cst (.bool true))]
def t_18 : FnT := ⟨"law", none, 1, ["_law_script"], [], []⟩
def d_18 : FD := ⟨1, 9, b_18⟩
def PP : List (Option FD) := [some d_0, some d_1, some d_2, some d_3, some d_4, some d_5, some d_6, some d_7, some d_8, some d_9, some d_10, some d_11, some d_12, some d_13, some d_14, some d_15, some d_16, some d_17, some d_18]
theorem P_0 : PP[0]? = some (some d_0) := rfl
theorem P_1 : PP[1]? = some (some d_1) := rfl
theorem P_2 : PP[2]? = some (some d_2) := rfl
theorem P_3 : PP[3]? = some (some d_3) := rfl
theorem P_4 : PP[4]? = some (some d_4) := rfl
theorem P_5 : PP[5]? = some (some d_5) := rfl
theorem P_6 : PP[6]? = some (some d_6) := rfl
theorem P_7 : PP[7]? = some (some d_7) := rfl
theorem P_8 : PP[8]? = some (some d_8) := rfl
theorem P_9 : PP[9]? = some (some d_9) := rfl
theorem P_10 : PP[10]? = some (some d_10) := rfl
theorem P_11 : PP[11]? = some (some d_11) := rfl
theorem P_12 : PP[12]? = some (some d_12) := rfl
theorem P_13 : PP[13]? = some (some d_13) := rfl
theorem P_14 : PP[14]? = some (some d_14) := rfl
theorem P_15 : PP[15]? = some (some d_15) := rfl
theorem P_16 : PP[16]? = some (some d_16) := rfl
theorem P_17 : PP[17]? = some (some d_17) := rfl
theorem P_18 : PP[18]? = some (some d_18) := rfl
def TT : Tab := ⟨[some t_0, some t_1, some t_2, some t_3, some t_4, some t_5, some t_6, some t_7, some t_8, some t_9, some t_10, some t_11, some t_12, some t_13, some t_14, some t_15, some t_16, some t_17, some t_18], [], [], [("MOST_TOKENS", .int 6), ("LONG", .int 2)], ["all", "bool", "int", "isinstance", "len", "list", "max", "min", "range", "repr", "tuple", "zip"]⟩
theorem c_0 : defChk TT t_0 N_0 (defScope st_0) (defBody st_0) d_0 = true := by decide +kernel
theorem c_1 : defChk TT t_1 N_1 (defScope st_1) (defBody st_1) d_1 = true := by decide +kernel
theorem c_2 : defChk TT t_2 N_2 (defScope st_2) (defBody st_2) d_2 = true := by decide +kernel
theorem c_3 : defChk TT t_3 N_3 (defScope st_3) (defBody st_3) d_3 = true := by decide +kernel
theorem c_4 : defChk TT t_4 N_4 (defScope st_4) (defBody st_4) d_4 = true := by decide +kernel
theorem c_5 : defChk TT t_5 N_5 (defScope st_5) (defBody st_5) d_5 = true := by decide +kernel
theorem c_6 : defChk TT t_6 N_6 (defScope st_6) (defBody st_6) d_6 = true := by decide +kernel
theorem c_7 : defChk TT t_7 N_7 (defScope st_7) (defBody st_7) d_7 = true := by decide +kernel
theorem c_8 : defChk TT t_8 N_8 (defScope st_8) (defBody st_8) d_8 = true := by decide +kernel
theorem c_9 : defChk TT t_9 N_9 (defScope st_9) (defBody st_9) d_9 = true := by decide +kernel
theorem c_10 : defChk TT t_10 N_10 (defScope st_10) (defBody st_10) d_10 = true := by decide +kernel
theorem c_11 : defChk TT t_11 N_11 (defScope st_11) (defBody st_11) d_11 = true := by decide +kernel
theorem c_12 : defChk TT t_12 N_12 (defScope st_12) (defBody st_12) d_12 = true := by decide +kernel
theorem c_13 : defChk TT t_13 N_13 (defScope st_13) (defBody st_13) d_13 = true := by decide +kernel
theorem c_14 : defChk TT t_14 N_14 (defScope st_14) (defBody st_14) d_14 = true := by decide +kernel
theorem c_15 : defChk TT t_15 N_15 (defScope st_15) (defBody st_15) d_15 = true := by decide +kernel
theorem c_16 : defChk TT t_16 N_16 (defScope st_16) (defBody st_16) d_16 = true := by decide +kernel
theorem c_17 : defChk TT t_17 N_17 (defScope st_17) (defBody st_17) d_17 = true := by decide +kernel
theorem c_18 : defChk TT t_18 N_18 (defScope st_18) (defBody st_18) d_18 = true := by decide +kernel
variable {W : Option Nat}
/-! ### the program's places, lays, leaps -/
theorem s_whole {k : Nat} {i : Int} {S : Store} : callN PP W (k + 1) 0 [.dat (.int i)] S = .ok (.dat (.bool true)) S := by
  rw [callN_at P_0 rfl]
  simp only [d_0, b_0, evSs, evS, evT, evE, evL, evAll, Out.bind_ok, Out.bind_exc, Out.bind_err, bind_assoc_, Out.nox_ok, opt_some, opt_none, optD_some, optD_none, datb_, lookO, lookF_dat, look_dat, dats_nil, dats_cons, Option.map_some, Option.map_none, asT, asTs, it_ok, it_bind, dfl, List.map_nil, List.map_cons, List.append_nil, List.nil_append, List.cons_append, List.replicate_zero, List.replicate_succ, Nat.sub_self, List.getElem?_cons_zero, List.getElem?_cons_succ, List.set_cons_zero, List.set_cons_succ, List.length_cons, List.length_nil, at_0, at_1, at_2, at_3, isTy, bind_nm, bind_tp, bpts_nil, bpts_cons, retOf, isNon, partO, cond_t, cond_f, if_true, if_false, Bool.false_eq_true, reduceIte, reduceCtorEq, wipeE, Nat.reduceAdd, Nat.reduceSub, Nat.reduceLT, Nat.reduceLeDiff, Nat.lt_add_one, Nat.zero_add, Int.reduceNeg, Bool.not_true, Bool.not_false, bf_len_t, bf_len_l, bf_abs, bf_min2, bf_max2, bf_int_b, bf_repr, bf_list_l, bf_list_t, bf_tuple_l, bf_tuple_t, bf_all, bf_any, bf_sum, bf_isi, bin_add, bin_sub, bin_mul, bin_fdv, bin_mod, bin_p18, bin_p12, bin_add_t, bin_add_l, bin_add_s, bin_mul_t, cmpP_eq, eqO_s, cmpP_ne, cmpP_lt, cmpP_le, cmpP_gt, cmpP_ge, cmpP_in, cmpP_nin, eqP_int, eqP_str, eq_nil_nil, eq_lay, eq_row, eq_rns, add_rns, perm10, idx_t, idx_l, idx_pl0, idx_pl1, idx_lp0, idx_lp1, idx_rw0, kob_0, kob_1, kput_0, kput_1, sli_t, sli_l, rev_t, rev_l, items_t, items_l, seq_t, seq_l, bools_nil, bools_cons, compL, consO, List.all_cons, List.all_nil, List.any_cons, List.any_nil, id_eq, Bool.and_true, Bool.true_and, Bool.and_self, finD_rt, finD_nx, ix3_0, ix3_1, ix3_2, ne_eq, not_false_eq_true, not_true_eq_false, Int.reduceEq, Int.reduceLT, Int.reduceLE, decide_true, decide_false, List.set_set]
theorem s_long {k : Nat} {xs : List PyData} {a b : Int} {S : Store} : callN PP W (k + 1) 1 [.dat (.tuple xs), .dat (.int a), .dat (.int b)] S = .ok (.dat (.bool (decide (a ≤ xs.length ∧ xs.length ≤ b)))) S := by
  rw [callN_at P_1 rfl]
  simp only [d_1, b_1, evSs, evS, evT, evE, evL, evAll, Out.bind_ok, Out.bind_exc, Out.bind_err, bind_assoc_, Out.nox_ok, opt_some, opt_none, optD_some, optD_none, datb_, lookO, lookF_dat, look_dat, dats_nil, dats_cons, Option.map_some, Option.map_none, asT, asTs, it_ok, it_bind, dfl, List.map_nil, List.map_cons, List.append_nil, List.nil_append, List.cons_append, List.replicate_zero, List.replicate_succ, Nat.sub_self, List.getElem?_cons_zero, List.getElem?_cons_succ, List.set_cons_zero, List.set_cons_succ, List.length_cons, List.length_nil, at_0, at_1, at_2, at_3, isTy, bind_nm, bind_tp, bpts_nil, bpts_cons, retOf, isNon, partO, cond_t, cond_f, if_true, if_false, Bool.false_eq_true, reduceIte, reduceCtorEq, wipeE, Nat.reduceAdd, Nat.reduceSub, Nat.reduceLT, Nat.reduceLeDiff, Nat.lt_add_one, Nat.zero_add, Int.reduceNeg, Bool.not_true, Bool.not_false, bf_len_t, bf_len_l, bf_abs, bf_min2, bf_max2, bf_int_b, bf_repr, bf_list_l, bf_list_t, bf_tuple_l, bf_tuple_t, bf_all, bf_any, bf_sum, bf_isi, bin_add, bin_sub, bin_mul, bin_fdv, bin_mod, bin_p18, bin_p12, bin_add_t, bin_add_l, bin_add_s, bin_mul_t, cmpP_eq, eqO_s, cmpP_ne, cmpP_lt, cmpP_le, cmpP_gt, cmpP_ge, cmpP_in, cmpP_nin, eqP_int, eqP_str, eq_nil_nil, eq_lay, eq_row, eq_rns, add_rns, perm10, idx_t, idx_l, idx_pl0, idx_pl1, idx_lp0, idx_lp1, idx_rw0, kob_0, kob_1, kput_0, kput_1, sli_t, sli_l, rev_t, rev_l, items_t, items_l, seq_t, seq_l, bools_nil, bools_cons, compL, consO, List.all_cons, List.all_nil, List.any_cons, List.any_nil, id_eq, Bool.and_true, Bool.true_and, Bool.and_self, finD_rt, finD_nx, ix3_0, ix3_1, ix3_2, ne_eq, not_false_eq_true, not_true_eq_false, Int.reduceEq, Int.reduceLT, Int.reduceLE, decide_true, decide_false, List.set_set]
  by_cases h1 : a ≤ (xs.length : Int) <;> by_cases h2 : (xs.length : Int) ≤ b <;> simp [h1, h2]
theorem s_place {k : Nat} {p : Int × Int} {S : Store} : callN PP W (k + 2) 2 [.dat (pl p)] S = .ok (.dat (.bool true)) S := by
  rw [callN_at P_2 rfl]
  simp only [d_2, b_2, evSs, evS, evT, evE, evL, evAll, Out.bind_ok, Out.bind_exc, Out.bind_err, bind_assoc_, Out.nox_ok, opt_some, opt_none, optD_some, optD_none, datb_, lookO, lookF_dat, look_dat, dats_nil, dats_cons, Option.map_some, Option.map_none, asT, asTs, it_ok, it_bind, dfl, List.map_nil, List.map_cons, List.append_nil, List.nil_append, List.cons_append, List.replicate_zero, List.replicate_succ, Nat.sub_self, List.getElem?_cons_zero, List.getElem?_cons_succ, List.set_cons_zero, List.set_cons_succ, List.length_cons, List.length_nil, at_0, at_1, at_2, at_3, isTy, bind_nm, bind_tp, bpts_nil, bpts_cons, retOf, isNon, partO, cond_t, cond_f, if_true, if_false, Bool.false_eq_true, reduceIte, reduceCtorEq, wipeE, Nat.reduceAdd, Nat.reduceSub, Nat.reduceLT, Nat.reduceLeDiff, Nat.lt_add_one, Nat.zero_add, Int.reduceNeg, Bool.not_true, Bool.not_false, bf_len_t, bf_len_l, bf_abs, bf_min2, bf_max2, bf_int_b, bf_repr, bf_list_l, bf_list_t, bf_tuple_l, bf_tuple_t, bf_all, bf_any, bf_sum, bf_isi, bin_add, bin_sub, bin_mul, bin_fdv, bin_mod, bin_p18, bin_p12, bin_add_t, bin_add_l, bin_add_s, bin_mul_t, cmpP_eq, eqO_s, cmpP_ne, cmpP_lt, cmpP_le, cmpP_gt, cmpP_ge, cmpP_in, cmpP_nin, eqP_int, eqP_str, eq_nil_nil, eq_lay, eq_row, eq_rns, add_rns, perm10, idx_t, idx_l, idx_pl0, idx_pl1, idx_lp0, idx_lp1, idx_rw0, kob_0, kob_1, kput_0, kput_1, sli_t, sli_l, rev_t, rev_l, items_t, items_l, seq_t, seq_l, bools_nil, bools_cons, compL, consO, List.all_cons, List.all_nil, List.any_cons, List.any_nil, id_eq, Bool.and_true, Bool.true_and, Bool.and_self, finD_rt, finD_nx, ix3_0, ix3_1, ix3_2, ne_eq, not_false_eq_true, not_true_eq_false, Int.reduceEq, Int.reduceLT, Int.reduceLE, decide_true, decide_false, List.set_set, pl, s_long, s_whole, sizeLine_eq]
  simp only [show decide ((2 : Int) ≤ ((2 : Nat) : Int) ∧ ((2 : Nat) : Int) ≤ 2) = true from rfl, evSs, evS, evT, evE, evL, evAll, Out.bind_ok, Out.bind_exc, Out.bind_err, bind_assoc_, Out.nox_ok, opt_some, opt_none, optD_some, optD_none, datb_, lookO, lookF_dat, look_dat, dats_nil, dats_cons, Option.map_some, Option.map_none, asT, asTs, it_ok, it_bind, dfl, List.map_nil, List.map_cons, List.append_nil, List.nil_append, List.cons_append, List.replicate_zero, List.replicate_succ, Nat.sub_self, List.getElem?_cons_zero, List.getElem?_cons_succ, List.set_cons_zero, List.set_cons_succ, List.length_cons, List.length_nil, at_0, at_1, at_2, at_3, isTy, bind_nm, bind_tp, bpts_nil, bpts_cons, retOf, isNon, partO, cond_t, cond_f, if_true, if_false, Bool.false_eq_true, reduceIte, reduceCtorEq, wipeE, Nat.reduceAdd, Nat.reduceSub, Nat.reduceLT, Nat.reduceLeDiff, Nat.lt_add_one, Nat.zero_add, Int.reduceNeg, Bool.not_true, Bool.not_false, bf_len_t, bf_len_l, bf_abs, bf_min2, bf_max2, bf_int_b, bf_repr, bf_list_l, bf_list_t, bf_tuple_l, bf_tuple_t, bf_all, bf_any, bf_sum, bf_isi, bin_add, bin_sub, bin_mul, bin_fdv, bin_mod, bin_p18, bin_p12, bin_add_t, bin_add_l, bin_add_s, bin_mul_t, cmpP_eq, eqO_s, cmpP_ne, cmpP_lt, cmpP_le, cmpP_gt, cmpP_ge, cmpP_in, cmpP_nin, eqP_int, eqP_str, eq_nil_nil, eq_lay, eq_row, eq_rns, add_rns, perm10, idx_t, idx_l, idx_pl0, idx_pl1, idx_lp0, idx_lp1, idx_rw0, kob_0, kob_1, kput_0, kput_1, sli_t, sli_l, rev_t, rev_l, items_t, items_l, seq_t, seq_l, bools_nil, bools_cons, compL, consO, List.all_cons, List.all_nil, List.any_cons, List.any_nil, id_eq, Bool.and_true, Bool.true_and, Bool.and_self, finD_rt, finD_nx, ix3_0, ix3_1, ix3_2, ne_eq, not_false_eq_true, not_true_eq_false, Int.reduceEq, Int.reduceLT, Int.reduceLE, decide_true, decide_false, List.set_set]
theorem s_lay {k : Nat} {l : List (Int × Int)} {S : Store} (h : l.length ≤ 1000) : callN PP W (k + 3) 3 [.dat (lay l)] S = .ok (.dat (.bool (decide (1 ≤ l.length ∧ l.length ≤ 6)))) S := by
  have h3 : l.length < sizeLine := by rw [sizeLine_eq]; omega
  rw [callN_at P_3 rfl]
  simp only [d_3, b_3, evSs, evS, evT, evE, evL, evAll, Out.bind_ok, Out.bind_exc, Out.bind_err, bind_assoc_, Out.nox_ok, opt_some, opt_none, optD_some, optD_none, datb_, lookO, lookF_dat, look_dat, dats_nil, dats_cons, Option.map_some, Option.map_none, asT, asTs, it_ok, it_bind, dfl, List.map_nil, List.map_cons, List.append_nil, List.nil_append, List.cons_append, List.replicate_zero, List.replicate_succ, Nat.sub_self, List.getElem?_cons_zero, List.getElem?_cons_succ, List.set_cons_zero, List.set_cons_succ, List.length_cons, List.length_nil, at_0, at_1, at_2, at_3, isTy, bind_nm, bind_tp, bpts_nil, bpts_cons, retOf, isNon, partO, cond_t, cond_f, if_true, if_false, Bool.false_eq_true, reduceIte, reduceCtorEq, wipeE, Nat.reduceAdd, Nat.reduceSub, Nat.reduceLT, Nat.reduceLeDiff, Nat.lt_add_one, Nat.zero_add, Int.reduceNeg, Bool.not_true, Bool.not_false, bf_len_t, bf_len_l, bf_abs, bf_min2, bf_max2, bf_int_b, bf_repr, bf_list_l, bf_list_t, bf_tuple_l, bf_tuple_t, bf_all, bf_any, bf_sum, bf_isi, bin_add, bin_sub, bin_mul, bin_fdv, bin_mod, bin_p18, bin_p12, bin_add_t, bin_add_l, bin_add_s, bin_mul_t, cmpP_eq, eqO_s, cmpP_ne, cmpP_lt, cmpP_le, cmpP_gt, cmpP_ge, cmpP_in, cmpP_nin, eqP_int, eqP_str, eq_nil_nil, eq_lay, eq_row, eq_rns, add_rns, perm10, idx_t, idx_l, idx_pl0, idx_pl1, idx_lp0, idx_lp1, idx_rw0, kob_0, kob_1, kput_0, kput_1, sli_t, sli_l, rev_t, rev_l, items_t, items_l, seq_t, seq_l, bools_nil, bools_cons, compL, consO, List.all_cons, List.all_nil, List.any_cons, List.any_nil, id_eq, Bool.and_true, Bool.true_and, Bool.and_self, finD_rt, finD_nx, ix3_0, ix3_1, ix3_2, ne_eq, not_false_eq_true, not_true_eq_false, Int.reduceEq, Int.reduceLT, Int.reduceLE, decide_true, decide_false, List.set_set, lay, s_long, List.length_map, h3]
  by_cases h1 : (1 : Int) ≤ (l.length : Int) ∧ (l.length : Int) ≤ 6
  · have h2 : 1 ≤ l.length ∧ l.length ≤ 6 := by omega
    rw [decide_eq_true h1, decide_eq_true h2]
    simp only [evSs, evS, evT, evE, evL, evAll, Out.bind_ok, Out.bind_exc, Out.bind_err, bind_assoc_, Out.nox_ok, opt_some, opt_none, optD_some, optD_none, datb_, lookO, lookF_dat, look_dat, dats_nil, dats_cons, Option.map_some, Option.map_none, asT, asTs, it_ok, it_bind, dfl, List.map_nil, List.map_cons, List.append_nil, List.nil_append, List.cons_append, List.replicate_zero, List.replicate_succ, Nat.sub_self, List.getElem?_cons_zero, List.getElem?_cons_succ, List.set_cons_zero, List.set_cons_succ, List.length_cons, List.length_nil, at_0, at_1, at_2, at_3, isTy, bind_nm, bind_tp, bpts_nil, bpts_cons, retOf, isNon, partO, cond_t, cond_f, if_true, if_false, Bool.false_eq_true, reduceIte, reduceCtorEq, wipeE, Nat.reduceAdd, Nat.reduceSub, Nat.reduceLT, Nat.reduceLeDiff, Nat.lt_add_one, Nat.zero_add, Int.reduceNeg, Bool.not_true, Bool.not_false, bf_len_t, bf_len_l, bf_abs, bf_min2, bf_max2, bf_int_b, bf_repr, bf_list_l, bf_list_t, bf_tuple_l, bf_tuple_t, bf_all, bf_any, bf_sum, bf_isi, bin_add, bin_sub, bin_mul, bin_fdv, bin_mod, bin_p18, bin_p12, bin_add_t, bin_add_l, bin_add_s, bin_mul_t, cmpP_eq, eqO_s, cmpP_ne, cmpP_lt, cmpP_le, cmpP_gt, cmpP_ge, cmpP_in, cmpP_nin, eqP_int, eqP_str, eq_nil_nil, eq_lay, eq_row, eq_rns, add_rns, perm10, idx_t, idx_l, idx_pl0, idx_pl1, idx_lp0, idx_lp1, idx_rw0, kob_0, kob_1, kput_0, kput_1, sli_t, sli_l, rev_t, rev_l, items_t, items_l, seq_t, seq_l, bools_nil, bools_cons, compL, consO, List.all_cons, List.all_nil, List.any_cons, List.any_nil, id_eq, Bool.and_true, Bool.true_and, Bool.and_self, finD_rt, finD_nx, ix3_0, ix3_1, ix3_2, ne_eq, not_false_eq_true, not_true_eq_false, Int.reduceEq, Int.reduceLT, Int.reduceLE, decide_true, decide_false, List.set_set]
    rw [comp_map (h := pl) (g := fun _ => .bool true)]
    · simp only [evSs, evS, evT, evE, evL, evAll, Out.bind_ok, Out.bind_exc, Out.bind_err, bind_assoc_, Out.nox_ok, opt_some, opt_none, optD_some, optD_none, datb_, lookO, lookF_dat, look_dat, dats_nil, dats_cons, Option.map_some, Option.map_none, asT, asTs, it_ok, it_bind, dfl, List.map_nil, List.map_cons, List.append_nil, List.nil_append, List.cons_append, List.replicate_zero, List.replicate_succ, Nat.sub_self, List.getElem?_cons_zero, List.getElem?_cons_succ, List.set_cons_zero, List.set_cons_succ, List.length_cons, List.length_nil, at_0, at_1, at_2, at_3, isTy, bind_nm, bind_tp, bpts_nil, bpts_cons, retOf, isNon, partO, cond_t, cond_f, if_true, if_false, Bool.false_eq_true, reduceIte, reduceCtorEq, wipeE, Nat.reduceAdd, Nat.reduceSub, Nat.reduceLT, Nat.reduceLeDiff, Nat.lt_add_one, Nat.zero_add, Int.reduceNeg, Bool.not_true, Bool.not_false, bf_len_t, bf_len_l, bf_abs, bf_min2, bf_max2, bf_int_b, bf_repr, bf_list_l, bf_list_t, bf_tuple_l, bf_tuple_t, bf_all, bf_any, bf_sum, bf_isi, bin_add, bin_sub, bin_mul, bin_fdv, bin_mod, bin_p18, bin_p12, bin_add_t, bin_add_l, bin_add_s, bin_mul_t, cmpP_eq, eqO_s, cmpP_ne, cmpP_lt, cmpP_le, cmpP_gt, cmpP_ge, cmpP_in, cmpP_nin, eqP_int, eqP_str, eq_nil_nil, eq_lay, eq_row, eq_rns, add_rns, perm10, idx_t, idx_l, idx_pl0, idx_pl1, idx_lp0, idx_lp1, idx_rw0, kob_0, kob_1, kput_0, kput_1, sli_t, sli_l, rev_t, rev_l, items_t, items_l, seq_t, seq_l, bools_nil, bools_cons, compL, consO, List.all_cons, List.all_nil, List.any_cons, List.any_nil, id_eq, Bool.and_true, Bool.true_and, Bool.and_self, finD_rt, finD_nx, ix3_0, ix3_1, ix3_2, ne_eq, not_false_eq_true, not_true_eq_false, Int.reduceEq, Int.reduceLT, Int.reduceLE, decide_true, decide_false, List.set_set, boolsOf_map]
      simp
    · intro p _
      simp only [evSs, evS, evT, evE, evL, evAll, Out.bind_ok, Out.bind_exc, Out.bind_err, bind_assoc_, Out.nox_ok, opt_some, opt_none, optD_some, optD_none, datb_, lookO, lookF_dat, look_dat, dats_nil, dats_cons, Option.map_some, Option.map_none, asT, asTs, it_ok, it_bind, dfl, List.map_nil, List.map_cons, List.append_nil, List.nil_append, List.cons_append, List.replicate_zero, List.replicate_succ, Nat.sub_self, List.getElem?_cons_zero, List.getElem?_cons_succ, List.set_cons_zero, List.set_cons_succ, List.length_cons, List.length_nil, at_0, at_1, at_2, at_3, isTy, bind_nm, bind_tp, bpts_nil, bpts_cons, retOf, isNon, partO, cond_t, cond_f, if_true, if_false, Bool.false_eq_true, reduceIte, reduceCtorEq, wipeE, Nat.reduceAdd, Nat.reduceSub, Nat.reduceLT, Nat.reduceLeDiff, Nat.lt_add_one, Nat.zero_add, Int.reduceNeg, Bool.not_true, Bool.not_false, bf_len_t, bf_len_l, bf_abs, bf_min2, bf_max2, bf_int_b, bf_repr, bf_list_l, bf_list_t, bf_tuple_l, bf_tuple_t, bf_all, bf_any, bf_sum, bf_isi, bin_add, bin_sub, bin_mul, bin_fdv, bin_mod, bin_p18, bin_p12, bin_add_t, bin_add_l, bin_add_s, bin_mul_t, cmpP_eq, eqO_s, cmpP_ne, cmpP_lt, cmpP_le, cmpP_gt, cmpP_ge, cmpP_in, cmpP_nin, eqP_int, eqP_str, eq_nil_nil, eq_lay, eq_row, eq_rns, add_rns, perm10, idx_t, idx_l, idx_pl0, idx_pl1, idx_lp0, idx_lp1, idx_rw0, kob_0, kob_1, kput_0, kput_1, sli_t, sli_l, rev_t, rev_l, items_t, items_l, seq_t, seq_l, bools_nil, bools_cons, compL, consO, List.all_cons, List.all_nil, List.any_cons, List.any_nil, id_eq, Bool.and_true, Bool.true_and, Bool.and_self, finD_rt, finD_nx, ix3_0, ix3_1, ix3_2, ne_eq, not_false_eq_true, not_true_eq_false, Int.reduceEq, Int.reduceLT, Int.reduceLE, decide_true, decide_false, List.set_set, s_place]
  · have h2 : ¬ (1 ≤ l.length ∧ l.length ≤ 6) := by omega
    rw [decide_eq_false h1, decide_eq_false h2]
    simp only [evSs, evS, evT, evE, evL, evAll, Out.bind_ok, Out.bind_exc, Out.bind_err, bind_assoc_, Out.nox_ok, opt_some, opt_none, optD_some, optD_none, datb_, lookO, lookF_dat, look_dat, dats_nil, dats_cons, Option.map_some, Option.map_none, asT, asTs, it_ok, it_bind, dfl, List.map_nil, List.map_cons, List.append_nil, List.nil_append, List.cons_append, List.replicate_zero, List.replicate_succ, Nat.sub_self, List.getElem?_cons_zero, List.getElem?_cons_succ, List.set_cons_zero, List.set_cons_succ, List.length_cons, List.length_nil, at_0, at_1, at_2, at_3, isTy, bind_nm, bind_tp, bpts_nil, bpts_cons, retOf, isNon, partO, cond_t, cond_f, if_true, if_false, Bool.false_eq_true, reduceIte, reduceCtorEq, wipeE, Nat.reduceAdd, Nat.reduceSub, Nat.reduceLT, Nat.reduceLeDiff, Nat.lt_add_one, Nat.zero_add, Int.reduceNeg, Bool.not_true, Bool.not_false, bf_len_t, bf_len_l, bf_abs, bf_min2, bf_max2, bf_int_b, bf_repr, bf_list_l, bf_list_t, bf_tuple_l, bf_tuple_t, bf_all, bf_any, bf_sum, bf_isi, bin_add, bin_sub, bin_mul, bin_fdv, bin_mod, bin_p18, bin_p12, bin_add_t, bin_add_l, bin_add_s, bin_mul_t, cmpP_eq, eqO_s, cmpP_ne, cmpP_lt, cmpP_le, cmpP_gt, cmpP_ge, cmpP_in, cmpP_nin, eqP_int, eqP_str, eq_nil_nil, eq_lay, eq_row, eq_rns, add_rns, perm10, idx_t, idx_l, idx_pl0, idx_pl1, idx_lp0, idx_lp1, idx_rw0, kob_0, kob_1, kput_0, kput_1, sli_t, sli_l, rev_t, rev_l, items_t, items_l, seq_t, seq_l, bools_nil, bools_cons, compL, consO, List.all_cons, List.all_nil, List.any_cons, List.any_nil, id_eq, Bool.and_true, Bool.true_and, Bool.and_self, finD_rt, finD_nx, ix3_0, ix3_1, ix3_2, ne_eq, not_false_eq_true, not_true_eq_false, Int.reduceEq, Int.reduceLT, Int.reduceLE, decide_true, decide_false, List.set_set]
theorem set_cut {A : Type} {l : List A} {i : Nat} {a : A} (h : i < l.length) : l.take i ++ [a] ++ l.drop (i + 1) = l.set i a := by
  rw [List.set_eq_take_append_cons_drop, if_pos h]
  simp

/-! ### what is drawn -/
theorem s_draw {k n l : Nat} {many : Int} {S : Store} (h : Pen n l S) (hn : n ≤ 2 ^ 100) (h0 : 0 < many) (h1 : many < 2 ^ 62) :
    (callN PP W (k + 1) 6 [.ref l, .dat (.int many)] S).sat fun v S' => (∃ r : Nat, v = Val.dat (.int (r : Int)) ∧ (r : Int) < many) ∧ Pen (n + 1) l S' ∧ Fr l S S' := by
  have hl := h.lt
  obtain ⟨a, b, c, hS, b0, b1, c0, c1⟩ := h.ex
  refine call_pen P_6 rfl hl ?_
  have e0 : many ≠ 0 := by omega
  have d0 : divOk many = true := div_ok h0 h1
  have d1 : divOk 16 = true := by decide
  by_cases ha : 0 < a
  · have hd : decide (0 < a) = true := decide_eq_true ha
    simp only [d_6, b_6, evSs, evS, evT, evE, evL, evAll, Out.bind_ok, Out.bind_exc, Out.bind_err, bind_assoc_, Out.nox_ok, opt_some, opt_none, optD_some, optD_none, datb_, lookO, lookF_dat, look_dat, dats_nil, dats_cons, Option.map_some, Option.map_none, asT, asTs, it_ok, it_bind, dfl, List.map_nil, List.map_cons, List.append_nil, List.nil_append, List.cons_append, List.replicate_zero, List.replicate_succ, Nat.sub_self, List.getElem?_cons_zero, List.getElem?_cons_succ, List.set_cons_zero, List.set_cons_succ, List.length_cons, List.length_nil, at_0, at_1, at_2, at_3, isTy, bind_nm, bind_tp, bpts_nil, bpts_cons, retOf, isNon, partO, cond_t, cond_f, if_true, if_false, Bool.false_eq_true, reduceIte, reduceCtorEq, wipeE, Nat.reduceAdd, Nat.reduceSub, Nat.reduceLT, Nat.reduceLeDiff, Nat.lt_add_one, Nat.zero_add, Int.reduceNeg, Bool.not_true, Bool.not_false, bf_len_t, bf_len_l, bf_abs, bf_min2, bf_max2, bf_int_b, bf_repr, bf_list_l, bf_list_t, bf_tuple_l, bf_tuple_t, bf_all, bf_any, bf_sum, bf_isi, bin_add, bin_sub, bin_mul, bin_fdv, bin_mod, bin_p18, bin_p12, bin_add_t, bin_add_l, bin_add_s, bin_mul_t, cmpP_eq, eqO_s, cmpP_ne, cmpP_lt, cmpP_le, cmpP_gt, cmpP_ge, cmpP_in, cmpP_nin, eqP_int, eqP_str, eq_nil_nil, eq_lay, eq_row, eq_rns, add_rns, perm10, idx_t, idx_l, idx_pl0, idx_pl1, idx_lp0, idx_lp1, idx_rw0, kob_0, kob_1, kput_0, kput_1, sli_t, sli_l, rev_t, rev_l, items_t, items_l, seq_t, seq_l, bools_nil, bools_cons, compL, consO, List.all_cons, List.all_nil, List.any_cons, List.any_nil, id_eq, Bool.and_true, Bool.true_and, Bool.and_self, finD_rt, finD_nx, ix3_0, ix3_1, ix3_2, ne_eq, not_false_eq_true, not_true_eq_false, Int.reduceEq, Int.reduceLT, Int.reduceLE, decide_true, decide_false, List.set_set, lookF_lst hS, hS, hd, e0, d0]
    refine sat_ok ⟨⟨(a.fmod many).toNat, ?_, ?_⟩, ⟨_, _, _, set_at hl, b0, b1, c0, by omega⟩, Fr.set⟩
    · rw [Int.toNat_of_nonneg (fm_ge h0)]
    · rw [Int.toNat_of_nonneg (fm_ge h0)]
      exact fm_lt h0
  · have hd : decide (0 < a) = false := decide_eq_false ha
    have m1 : mulOk b 48271 = true := mul_ok (a := 31) (b := 16) (by omega) (by decide) (by decide)
    have m2 : mulOk 1009 (c + 1) = true := mul_ok (a := 10) (b := 101) (by decide) (by omega) (by decide)
    have q1 : ∀ x y : Int, mulOk (x.fmod 2147483647) (y.fmod 2147483647) = true := fun x y => mul_ok (a := 62) (b := 62) (fm_nat (by decide) (by decide)) (fm_nat (by decide) (by decide)) (by decide)
    have q2 : ∀ y : Int, mulOk 69621 (y.fmod 2147483647) = true := fun y => mul_ok (a := 62) (b := 62) (by decide) (fm_nat (by decide) (by decide)) (by decide)
    have q3 : ∀ x y : Int, mulOk (x.fmod 2147483629) (y.fmod 2147483629) = true := fun x y => mul_ok (a := 62) (b := 62) (fm_nat (by decide) (by decide)) (fm_nat (by decide) (by decide)) (by decide)
    have q4 : ∀ y : Int, mulOk 40014 (y.fmod 2147483629) = true := fun y => mul_ok (a := 62) (b := 62) (by decide) (fm_nat (by decide) (by decide)) (by decide)
    simp only [d_6, b_6, evSs, evS, evT, evE, evL, evAll, Out.bind_ok, Out.bind_exc, Out.bind_err, bind_assoc_, Out.nox_ok, opt_some, opt_none, optD_some, optD_none, datb_, lookO, lookF_dat, look_dat, dats_nil, dats_cons, Option.map_some, Option.map_none, asT, asTs, it_ok, it_bind, dfl, List.map_nil, List.map_cons, List.append_nil, List.nil_append, List.cons_append, List.replicate_zero, List.replicate_succ, Nat.sub_self, List.getElem?_cons_zero, List.getElem?_cons_succ, List.set_cons_zero, List.set_cons_succ, List.length_cons, List.length_nil, at_0, at_1, at_2, at_3, isTy, bind_nm, bind_tp, bpts_nil, bpts_cons, retOf, isNon, partO, cond_t, cond_f, if_true, if_false, Bool.false_eq_true, reduceIte, reduceCtorEq, wipeE, Nat.reduceAdd, Nat.reduceSub, Nat.reduceLT, Nat.reduceLeDiff, Nat.lt_add_one, Nat.zero_add, Int.reduceNeg, Bool.not_true, Bool.not_false, bf_len_t, bf_len_l, bf_abs, bf_min2, bf_max2, bf_int_b, bf_repr, bf_list_l, bf_list_t, bf_tuple_l, bf_tuple_t, bf_all, bf_any, bf_sum, bf_isi, bin_add, bin_sub, bin_mul, bin_fdv, bin_mod, bin_p18, bin_p12, bin_add_t, bin_add_l, bin_add_s, bin_mul_t, cmpP_eq, eqO_s, cmpP_ne, cmpP_lt, cmpP_le, cmpP_gt, cmpP_ge, cmpP_in, cmpP_nin, eqP_int, eqP_str, eq_nil_nil, eq_lay, eq_row, eq_rns, add_rns, perm10, idx_t, idx_l, idx_pl0, idx_pl1, idx_lp0, idx_lp1, idx_rw0, kob_0, kob_1, kput_0, kput_1, sli_t, sli_l, rev_t, rev_l, items_t, items_l, seq_t, seq_l, bools_nil, bools_cons, compL, consO, List.all_cons, List.all_nil, List.any_cons, List.any_nil, id_eq, Bool.and_true, Bool.true_and, Bool.and_self, finD_rt, finD_nx, ix3_0, ix3_1, ix3_2, ne_eq, not_false_eq_true, not_true_eq_false, Int.reduceEq, Int.reduceLT, Int.reduceLE, decide_true, decide_false, List.set_set, lookF_lst hS, hS, hd, e0, d0, d1, m1, m2, lookF_set hl, set_at hl, q1, q2, q3, q4]
    refine sat_ok ⟨⟨Int.toNat _, (congrArg (fun z => Val.dat (.int z)) (Int.toNat_of_nonneg (fm_ge h0))).symm, ?_⟩, ⟨_, _, _, set_at hl, fm_ge (by decide), ?_, by omega, by omega⟩, Fr.set⟩
    · rw [Int.toNat_of_nonneg (fm_ge h0)]
      exact fm_lt h0
    · have := fm_lt (x := b * 48271 + 1009 * (c + 1) + 7) (m := 2147483647) (by decide)
      omega
theorem s_spot {k n l : Nat} {far : Int} {S : Store} (h : Pen n l S) (hn : n ≤ 2 ^ 99) (h0 : 0 ≤ far) (h1 : far ≤ 2 ^ 40) :
    (callN PP W (k + 2) 9 [.ref l, .dat (.int far)] S).sat fun v S' => (∃ p, v = Val.dat (pl p) ∧ Spn far p) ∧ Pen (n + 2) l S' ∧ Fr l S S' := by
  refine call_pen P_9 rfl h.lt ?_
  have m1 : mulOk 2 far = true := mul_ok (a := 2) (b := 41) (by decide) (by omega) (by decide)
  simp only [d_9, b_9, evSs, evS, evT, evE, evL, evAll, Out.bind_ok, Out.bind_exc, Out.bind_err, bind_assoc_, Out.nox_ok, opt_some, opt_none, optD_some, optD_none, datb_, lookO, lookF_dat, look_dat, dats_nil, dats_cons, Option.map_some, Option.map_none, asT, asTs, it_ok, it_bind, dfl, List.map_nil, List.map_cons, List.append_nil, List.nil_append, List.cons_append, List.replicate_zero, List.replicate_succ, Nat.sub_self, List.getElem?_cons_zero, List.getElem?_cons_succ, List.set_cons_zero, List.set_cons_succ, List.length_cons, List.length_nil, at_0, at_1, at_2, at_3, isTy, bind_nm, bind_tp, bpts_nil, bpts_cons, retOf, isNon, partO, cond_t, cond_f, if_true, if_false, Bool.false_eq_true, reduceIte, reduceCtorEq, wipeE, Nat.reduceAdd, Nat.reduceSub, Nat.reduceLT, Nat.reduceLeDiff, Nat.lt_add_one, Nat.zero_add, Int.reduceNeg, Bool.not_true, Bool.not_false, bf_len_t, bf_len_l, bf_abs, bf_min2, bf_max2, bf_int_b, bf_repr, bf_list_l, bf_list_t, bf_tuple_l, bf_tuple_t, bf_all, bf_any, bf_sum, bf_isi, bin_add, bin_sub, bin_mul, bin_fdv, bin_mod, bin_p18, bin_p12, bin_add_t, bin_add_l, bin_add_s, bin_mul_t, cmpP_eq, eqO_s, cmpP_ne, cmpP_lt, cmpP_le, cmpP_gt, cmpP_ge, cmpP_in, cmpP_nin, eqP_int, eqP_str, eq_nil_nil, eq_lay, eq_row, eq_rns, add_rns, perm10, idx_t, idx_l, idx_pl0, idx_pl1, idx_lp0, idx_lp1, idx_rw0, kob_0, kob_1, kput_0, kput_1, sli_t, sli_l, rev_t, rev_l, items_t, items_l, seq_t, seq_l, bools_nil, bools_cons, compL, consO, List.all_cons, List.all_nil, List.any_cons, List.any_nil, id_eq, Bool.and_true, Bool.true_and, Bool.and_self, finD_rt, finD_nx, ix3_0, ix3_1, ix3_2, ne_eq, not_false_eq_true, not_true_eq_false, Int.reduceEq, Int.reduceLT, Int.reduceLE, decide_true, decide_false, List.set_set, m1]
  refine sat_then (s_draw (many := 2 * far + 1) h (by omega) (by omega) (by omega)) ?_
  rintro v S1 ⟨⟨r, rfl, hr⟩, P1, F1⟩
  simp only [evSs, evS, evT, evE, evL, evAll, Out.bind_ok, Out.bind_exc, Out.bind_err, bind_assoc_, Out.nox_ok, opt_some, opt_none, optD_some, optD_none, datb_, lookO, lookF_dat, look_dat, dats_nil, dats_cons, Option.map_some, Option.map_none, asT, asTs, it_ok, it_bind, dfl, List.map_nil, List.map_cons, List.append_nil, List.nil_append, List.cons_append, List.replicate_zero, List.replicate_succ, Nat.sub_self, List.getElem?_cons_zero, List.getElem?_cons_succ, List.set_cons_zero, List.set_cons_succ, List.length_cons, List.length_nil, at_0, at_1, at_2, at_3, isTy, bind_nm, bind_tp, bpts_nil, bpts_cons, retOf, isNon, partO, cond_t, cond_f, if_true, if_false, Bool.false_eq_true, reduceIte, reduceCtorEq, wipeE, Nat.reduceAdd, Nat.reduceSub, Nat.reduceLT, Nat.reduceLeDiff, Nat.lt_add_one, Nat.zero_add, Int.reduceNeg, Bool.not_true, Bool.not_false, bf_len_t, bf_len_l, bf_abs, bf_min2, bf_max2, bf_int_b, bf_repr, bf_list_l, bf_list_t, bf_tuple_l, bf_tuple_t, bf_all, bf_any, bf_sum, bf_isi, bin_add, bin_sub, bin_mul, bin_fdv, bin_mod, bin_p18, bin_p12, bin_add_t, bin_add_l, bin_add_s, bin_mul_t, cmpP_eq, eqO_s, cmpP_ne, cmpP_lt, cmpP_le, cmpP_gt, cmpP_ge, cmpP_in, cmpP_nin, eqP_int, eqP_str, eq_nil_nil, eq_lay, eq_row, eq_rns, add_rns, perm10, idx_t, idx_l, idx_pl0, idx_pl1, idx_lp0, idx_lp1, idx_rw0, kob_0, kob_1, kput_0, kput_1, sli_t, sli_l, rev_t, rev_l, items_t, items_l, seq_t, seq_l, bools_nil, bools_cons, compL, consO, List.all_cons, List.all_nil, List.any_cons, List.any_nil, id_eq, Bool.and_true, Bool.true_and, Bool.and_self, finD_rt, finD_nx, ix3_0, ix3_1, ix3_2, ne_eq, not_false_eq_true, not_true_eq_false, Int.reduceEq, Int.reduceLT, Int.reduceLE, decide_true, decide_false, List.set_set, m1]
  refine sat_then (s_draw (many := 2 * far + 1) P1 (by omega) (by omega) (by omega)) ?_
  rintro v S2 ⟨⟨t, rfl, ht⟩, P2, F2⟩
  simp only [evSs, evS, evT, evE, evL, evAll, Out.bind_ok, Out.bind_exc, Out.bind_err, bind_assoc_, Out.nox_ok, opt_some, opt_none, optD_some, optD_none, datb_, lookO, lookF_dat, look_dat, dats_nil, dats_cons, Option.map_some, Option.map_none, asT, asTs, it_ok, it_bind, dfl, List.map_nil, List.map_cons, List.append_nil, List.nil_append, List.cons_append, List.replicate_zero, List.replicate_succ, Nat.sub_self, List.getElem?_cons_zero, List.getElem?_cons_succ, List.set_cons_zero, List.set_cons_succ, List.length_cons, List.length_nil, at_0, at_1, at_2, at_3, isTy, bind_nm, bind_tp, bpts_nil, bpts_cons, retOf, isNon, partO, cond_t, cond_f, if_true, if_false, Bool.false_eq_true, reduceIte, reduceCtorEq, wipeE, Nat.reduceAdd, Nat.reduceSub, Nat.reduceLT, Nat.reduceLeDiff, Nat.lt_add_one, Nat.zero_add, Int.reduceNeg, Bool.not_true, Bool.not_false, bf_len_t, bf_len_l, bf_abs, bf_min2, bf_max2, bf_int_b, bf_repr, bf_list_l, bf_list_t, bf_tuple_l, bf_tuple_t, bf_all, bf_any, bf_sum, bf_isi, bin_add, bin_sub, bin_mul, bin_fdv, bin_mod, bin_p18, bin_p12, bin_add_t, bin_add_l, bin_add_s, bin_mul_t, cmpP_eq, eqO_s, cmpP_ne, cmpP_lt, cmpP_le, cmpP_gt, cmpP_ge, cmpP_in, cmpP_nin, eqP_int, eqP_str, eq_nil_nil, eq_lay, eq_row, eq_rns, add_rns, perm10, idx_t, idx_l, idx_pl0, idx_pl1, idx_lp0, idx_lp1, idx_rw0, kob_0, kob_1, kput_0, kput_1, sli_t, sli_l, rev_t, rev_l, items_t, items_l, seq_t, seq_l, bools_nil, bools_cons, compL, consO, List.all_cons, List.all_nil, List.any_cons, List.any_nil, id_eq, Bool.and_true, Bool.true_and, Bool.and_self, finD_rt, finD_nx, ix3_0, ix3_1, ix3_2, ne_eq, not_false_eq_true, not_true_eq_false, Int.reduceEq, Int.reduceLT, Int.reduceLE, decide_true, decide_false, List.set_set, sizeLine_eq]
  exact sat_ok ⟨⟨((r : Int) - far, (t : Int) - far), rfl, by unfold Spn; simp only; omega⟩, P2, F1.trans F2⟩
def lay_body : List IS := forBody b_10 2
theorem lay_step {k n l fl i : Nat} {most far g many : Int} {so : Nat} {S S5 : Store} {b st : Int × Int} {v9 v10 : Option Val} {acc : List (Int × Int)} (hn : n ≤ 2 ^ 90) (h0 : 0 ≤ far) (h1 : far ≤ 1000) (hi : i < 1000) (hg : g ≤ 2 ^ 20) (hb : Spn far b) (hst : Spn g st) (hf : S.length ≤ fl) (ne : fl ≠ l)
    (M : Mk1 (n + 10 + 10 * i) l fl far S i acc S5) : (evSs W (callN PP W (k + 2)) lay_body [some (Val.ref l), some (Val.dat (.int most)), some (Val.dat (.int far)), some (Val.dat (.int (i : Int))), some (Val.dat (.int many)), some (Val.dat (.int (so : Int))), some (Val.dat (pl b)), some (Val.dat (pl st)), some (Val.ref fl), v9, v10] S5).sat
      fun r S' => ∃ s', r = .nx s' ∧ ∃ acc v3 v9 v10, s' = [some (Val.ref l), some (Val.dat (.int most)), some (Val.dat (.int far)), v3, some (Val.dat (.int many)), some (Val.dat (.int (so : Int))), some (Val.dat (pl b)), some (Val.dat (pl st)), some (Val.ref fl), v9, v10] ∧ Mk1 (n + 10 + 10 * (i + 1)) l fl far S (i + 1) acc S' := by
  have z2 : (2 : Nat) ≤ sizeLine := by rw [sizeLine_eq]; omega
  have z4 : (4 : Nat) ≤ sizeLine := by rw [sizeLine_eq]; omega
  have zz : (List.map pl acc).length < sizeLine := by rw [List.length_map, M.len, sizeLine_eq]; omega
  simp only [lay_body, b_10, forBody, sat_okI, evS, evT, evE, evL, evAll, Out.bind_ok, Out.bind_exc, Out.bind_err, bind_assoc_, Out.nox_ok, opt_some, opt_none, optD_some, optD_none, datb_, lookO, lookF_dat, look_dat, dats_nil, dats_cons, Option.map_some, Option.map_none, asT, asTs, it_ok, it_bind, dfl, List.map_nil, List.map_cons, List.append_nil, List.nil_append, List.cons_append, List.replicate_zero, List.replicate_succ, Nat.sub_self, List.getElem?_cons_zero, List.getElem?_cons_succ, List.set_cons_zero, List.set_cons_succ, List.length_cons, List.length_nil, at_0, at_1, at_2, at_3, isTy, bind_nm, bind_tp, bpts_nil, bpts_cons, retOf, isNon, partO, cond_t, cond_f, if_true, if_false, Bool.false_eq_true, reduceIte, reduceCtorEq, wipeE, Nat.reduceAdd, Nat.reduceSub, Nat.reduceLT, Nat.reduceLeDiff, Nat.lt_add_one, Nat.zero_add, Int.reduceNeg, Bool.not_true, Bool.not_false, bf_len_t, bf_len_l, bf_abs, bf_min2, bf_max2, bf_int_b, bf_repr, bf_list_l, bf_list_t, bf_tuple_l, bf_tuple_t, bf_all, bf_any, bf_sum, bf_isi, bin_add, bin_sub, bin_mul, bin_fdv, bin_mod, bin_p18, bin_p12, bin_add_t, bin_add_l, bin_add_s, bin_mul_t, cmpP_eq, eqO_s, cmpP_ne, cmpP_lt, cmpP_le, cmpP_gt, cmpP_ge, cmpP_in, cmpP_nin, eqP_int, eqP_str, eq_nil_nil, eq_lay, eq_row, eq_rns, add_rns, perm10, idx_t, idx_l, idx_pl0, idx_pl1, idx_lp0, idx_lp1, idx_rw0, kob_0, kob_1, kput_0, kput_1, sli_t, sli_l, rev_t, rev_l, items_t, items_l, seq_t, seq_l, bools_nil, bools_cons, compL, consO, List.all_cons, List.all_nil, List.any_cons, List.any_nil, id_eq, Bool.and_true, Bool.true_and, Bool.and_self, finD_rt, finD_nx, ix3_0, ix3_1, ix3_2, ne_eq, not_false_eq_true, not_true_eq_false, Int.reduceEq, Int.reduceLT, Int.reduceLE, decide_true, decide_false, List.set_set]
  refine sat_seq ?_
  simp only [sat_okI, evS, evT, evE, evL, evAll, Out.bind_ok, Out.bind_exc, Out.bind_err, bind_assoc_, Out.nox_ok, opt_some, opt_none, optD_some, optD_none, datb_, lookO, lookF_dat, look_dat, dats_nil, dats_cons, Option.map_some, Option.map_none, asT, asTs, it_ok, it_bind, dfl, List.map_nil, List.map_cons, List.append_nil, List.nil_append, List.cons_append, List.replicate_zero, List.replicate_succ, Nat.sub_self, List.getElem?_cons_zero, List.getElem?_cons_succ, List.set_cons_zero, List.set_cons_succ, List.length_cons, List.length_nil, at_0, at_1, at_2, at_3, isTy, bind_nm, bind_tp, bpts_nil, bpts_cons, retOf, isNon, partO, cond_t, cond_f, if_true, if_false, Bool.false_eq_true, reduceIte, reduceCtorEq, wipeE, Nat.reduceAdd, Nat.reduceSub, Nat.reduceLT, Nat.reduceLeDiff, Nat.lt_add_one, Nat.zero_add, Int.reduceNeg, Bool.not_true, Bool.not_false, bf_len_t, bf_len_l, bf_abs, bf_min2, bf_max2, bf_int_b, bf_repr, bf_list_l, bf_list_t, bf_tuple_l, bf_tuple_t, bf_all, bf_any, bf_sum, bf_isi, bin_add, bin_sub, bin_mul, bin_fdv, bin_mod, bin_p18, bin_p12, bin_add_t, bin_add_l, bin_add_s, bin_mul_t, cmpP_eq, eqO_s, cmpP_ne, cmpP_lt, cmpP_le, cmpP_gt, cmpP_ge, cmpP_in, cmpP_nin, eqP_int, eqP_str, eq_nil_nil, eq_lay, eq_row, eq_rns, add_rns, perm10, idx_t, idx_l, idx_pl0, idx_pl1, idx_lp0, idx_lp1, idx_rw0, kob_0, kob_1, kput_0, kput_1, sli_t, sli_l, rev_t, rev_l, items_t, items_l, seq_t, seq_l, bools_nil, bools_cons, compL, consO, List.all_cons, List.all_nil, List.any_cons, List.any_nil, id_eq, Bool.and_true, Bool.true_and, Bool.and_self, finD_rt, finD_nx, ix3_0, ix3_1, ix3_2, ne_eq, not_false_eq_true, not_true_eq_false, Int.reduceEq, Int.reduceLT, Int.reduceLE, decide_true, decide_false, List.set_set]
  refine sat_then (s_spot M.pen (by omega) h0 (by omega)) ?_
  rintro v S6 ⟨⟨p, rfl, hp⟩, P6, F6⟩
  have M6 := M.step ne P6 F6
  unfold Spn at hp hb hst
  simp only [sat_okI, evS, evT, evE, evL, evAll, Out.bind_ok, Out.bind_exc, Out.bind_err, bind_assoc_, Out.nox_ok, opt_some, opt_none, optD_some, optD_none, datb_, lookO, lookF_dat, look_dat, dats_nil, dats_cons, Option.map_some, Option.map_none, asT, asTs, it_ok, it_bind, dfl, List.map_nil, List.map_cons, List.append_nil, List.nil_append, List.cons_append, List.replicate_zero, List.replicate_succ, Nat.sub_self, List.getElem?_cons_zero, List.getElem?_cons_succ, List.set_cons_zero, List.set_cons_succ, List.length_cons, List.length_nil, at_0, at_1, at_2, at_3, isTy, bind_nm, bind_tp, bpts_nil, bpts_cons, retOf, isNon, partO, cond_t, cond_f, if_true, if_false, Bool.false_eq_true, reduceIte, reduceCtorEq, wipeE, Nat.reduceAdd, Nat.reduceSub, Nat.reduceLT, Nat.reduceLeDiff, Nat.lt_add_one, Nat.zero_add, Int.reduceNeg, Bool.not_true, Bool.not_false, bf_len_t, bf_len_l, bf_abs, bf_min2, bf_max2, bf_int_b, bf_repr, bf_list_l, bf_list_t, bf_tuple_l, bf_tuple_t, bf_all, bf_any, bf_sum, bf_isi, bin_add, bin_sub, bin_mul, bin_fdv, bin_mod, bin_p18, bin_p12, bin_add_t, bin_add_l, bin_add_s, bin_mul_t, cmpP_eq, eqO_s, cmpP_ne, cmpP_lt, cmpP_le, cmpP_gt, cmpP_ge, cmpP_in, cmpP_nin, eqP_int, eqP_str, eq_nil_nil, eq_lay, eq_row, eq_rns, add_rns, perm10, idx_t, idx_l, idx_pl0, idx_pl1, idx_lp0, idx_lp1, idx_rw0, kob_0, kob_1, kput_0, kput_1, sli_t, sli_l, rev_t, rev_l, items_t, items_l, seq_t, seq_l, bools_nil, bools_cons, compL, consO, List.all_cons, List.all_nil, List.any_cons, List.any_nil, id_eq, Bool.and_true, Bool.true_and, Bool.and_self, finD_rt, finD_nx, ix3_0, ix3_1, ix3_2, ne_eq, not_false_eq_true, not_true_eq_false, Int.reduceEq, Int.reduceLT, Int.reduceLE, decide_true, decide_false, List.set_set]
  refine sat_seq ?_
  by_cases s1 : so = 1
  · subst s1
    simp only [sat_okI, evS, evT, evE, evL, evAll, Out.bind_ok, Out.bind_exc, Out.bind_err, bind_assoc_, Out.nox_ok, opt_some, opt_none, optD_some, optD_none, datb_, lookO, lookF_dat, look_dat, dats_nil, dats_cons, Option.map_some, Option.map_none, asT, asTs, it_ok, it_bind, dfl, List.map_nil, List.map_cons, List.append_nil, List.nil_append, List.cons_append, List.replicate_zero, List.replicate_succ, Nat.sub_self, List.getElem?_cons_zero, List.getElem?_cons_succ, List.set_cons_zero, List.set_cons_succ, List.length_cons, List.length_nil, at_0, at_1, at_2, at_3, isTy, bind_nm, bind_tp, bpts_nil, bpts_cons, retOf, isNon, partO, cond_t, cond_f, if_true, if_false, Bool.false_eq_true, reduceIte, reduceCtorEq, wipeE, Nat.reduceAdd, Nat.reduceSub, Nat.reduceLT, Nat.reduceLeDiff, Nat.lt_add_one, Nat.zero_add, Int.reduceNeg, Bool.not_true, Bool.not_false, bf_len_t, bf_len_l, bf_abs, bf_min2, bf_max2, bf_int_b, bf_repr, bf_list_l, bf_list_t, bf_tuple_l, bf_tuple_t, bf_all, bf_any, bf_sum, bf_isi, bin_add, bin_sub, bin_mul, bin_fdv, bin_mod, bin_p18, bin_p12, bin_add_t, bin_add_l, bin_add_s, bin_mul_t, cmpP_eq, eqO_s, cmpP_ne, cmpP_lt, cmpP_le, cmpP_gt, cmpP_ge, cmpP_in, cmpP_nin, eqP_int, eqP_str, eq_nil_nil, eq_lay, eq_row, eq_rns, add_rns, perm10, idx_t, idx_l, idx_pl0, idx_pl1, idx_lp0, idx_lp1, idx_rw0, kob_0, kob_1, kput_0, kput_1, sli_t, sli_l, rev_t, rev_l, items_t, items_l, seq_t, seq_l, bools_nil, bools_cons, compL, consO, List.all_cons, List.all_nil, List.any_cons, List.any_nil, id_eq, Bool.and_true, Bool.true_and, Bool.and_self, finD_rt, finD_nx, ix3_0, ix3_1, ix3_2, ne_eq, not_false_eq_true, not_true_eq_false, Int.reduceEq, Int.reduceLT, Int.reduceLE, decide_true, decide_false, List.set_set, show decide (((1 : Nat) : Int) = 1) = true from rfl, show decide (((1 : Nat) : Int) = 2) = false from rfl, show decide (((1 : Nat) : Int) = 3) = false from rfl, show decide (((1 : Nat) : Int) = 4) = false from rfl]
    refine sat_seq ?_
    simp only [sat_okI, evS, evT, evE, evL, evAll, Out.bind_ok, Out.bind_exc, Out.bind_err, bind_assoc_, Out.nox_ok, opt_some, opt_none, optD_some, optD_none, datb_, lookO, lookF_dat, look_dat, dats_nil, dats_cons, Option.map_some, Option.map_none, asT, asTs, it_ok, it_bind, dfl, List.map_nil, List.map_cons, List.append_nil, List.nil_append, List.cons_append, List.replicate_zero, List.replicate_succ, Nat.sub_self, List.getElem?_cons_zero, List.getElem?_cons_succ, List.set_cons_zero, List.set_cons_succ, List.length_cons, List.length_nil, at_0, at_1, at_2, at_3, isTy, bind_nm, bind_tp, bpts_nil, bpts_cons, retOf, isNon, partO, cond_t, cond_f, if_true, if_false, Bool.false_eq_true, reduceIte, reduceCtorEq, wipeE, Nat.reduceAdd, Nat.reduceSub, Nat.reduceLT, Nat.reduceLeDiff, Nat.lt_add_one, Nat.zero_add, Int.reduceNeg, Bool.not_true, Bool.not_false, bf_len_t, bf_len_l, bf_abs, bf_min2, bf_max2, bf_int_b, bf_repr, bf_list_l, bf_list_t, bf_tuple_l, bf_tuple_t, bf_all, bf_any, bf_sum, bf_isi, bin_add, bin_sub, bin_mul, bin_fdv, bin_mod, bin_p18, bin_p12, bin_add_t, bin_add_l, bin_add_s, bin_mul_t, cmpP_eq, eqO_s, cmpP_ne, cmpP_lt, cmpP_le, cmpP_gt, cmpP_ge, cmpP_in, cmpP_nin, eqP_int, eqP_str, eq_nil_nil, eq_lay, eq_row, eq_rns, add_rns, perm10, idx_t, idx_l, idx_pl0, idx_pl1, idx_lp0, idx_lp1, idx_rw0, kob_0, kob_1, kput_0, kput_1, sli_t, sli_l, rev_t, rev_l, items_t, items_l, seq_t, seq_l, bools_nil, bools_cons, compL, consO, List.all_cons, List.all_nil, List.any_cons, List.any_nil, id_eq, Bool.and_true, Bool.true_and, Bool.and_self, finD_rt, finD_nx, ix3_0, ix3_1, ix3_2, ne_eq, not_false_eq_true, not_true_eq_false, Int.reduceEq, Int.reduceLT, Int.reduceLE, decide_true, decide_false, List.set_set]
    refine sat_then (s_draw P6 (by omega) (by omega) (by omega)) ?_
    rintro v S7 ⟨⟨t, rfl, ht⟩, P7, F7⟩
    have M7 := M6.step ne P7 F7
    have w1 : mulOk ((t : Int) - 2) st.1 = true := mul_ok (a := 10) (b := 30) (by omega) (by omega) (by decide)
    have w2 : mulOk ((t : Int) - 2) st.2 = true := mul_ok (a := 10) (b := 30) (by omega) (by omega) (by decide)
    simp only [sat_okI, evS, evT, evE, evL, evAll, Out.bind_ok, Out.bind_exc, Out.bind_err, bind_assoc_, Out.nox_ok, opt_some, opt_none, optD_some, optD_none, datb_, lookO, lookF_dat, look_dat, dats_nil, dats_cons, Option.map_some, Option.map_none, asT, asTs, it_ok, it_bind, dfl, List.map_nil, List.map_cons, List.append_nil, List.nil_append, List.cons_append, List.replicate_zero, List.replicate_succ, Nat.sub_self, List.getElem?_cons_zero, List.getElem?_cons_succ, List.set_cons_zero, List.set_cons_succ, List.length_cons, List.length_nil, at_0, at_1, at_2, at_3, isTy, bind_nm, bind_tp, bpts_nil, bpts_cons, retOf, isNon, partO, cond_t, cond_f, if_true, if_false, Bool.false_eq_true, reduceIte, reduceCtorEq, wipeE, Nat.reduceAdd, Nat.reduceSub, Nat.reduceLT, Nat.reduceLeDiff, Nat.lt_add_one, Nat.zero_add, Int.reduceNeg, Bool.not_true, Bool.not_false, bf_len_t, bf_len_l, bf_abs, bf_min2, bf_max2, bf_int_b, bf_repr, bf_list_l, bf_list_t, bf_tuple_l, bf_tuple_t, bf_all, bf_any, bf_sum, bf_isi, bin_add, bin_sub, bin_mul, bin_fdv, bin_mod, bin_p18, bin_p12, bin_add_t, bin_add_l, bin_add_s, bin_mul_t, cmpP_eq, eqO_s, cmpP_ne, cmpP_lt, cmpP_le, cmpP_gt, cmpP_ge, cmpP_in, cmpP_nin, eqP_int, eqP_str, eq_nil_nil, eq_lay, eq_row, eq_rns, add_rns, perm10, idx_t, idx_l, idx_pl0, idx_pl1, idx_lp0, idx_lp1, idx_rw0, kob_0, kob_1, kput_0, kput_1, sli_t, sli_l, rev_t, rev_l, items_t, items_l, seq_t, seq_l, bools_nil, bools_cons, compL, consO, List.all_cons, List.all_nil, List.any_cons, List.any_nil, id_eq, Bool.and_true, Bool.true_and, Bool.and_self, finD_rt, finD_nx, ix3_0, ix3_1, ix3_2, ne_eq, not_false_eq_true, not_true_eq_false, Int.reduceEq, Int.reduceLT, Int.reduceLE, decide_true, decide_false, List.set_set]
    refine sat_seq ?_
    simp only [sat_okI, evS, evT, evE, evL, evAll, Out.bind_ok, Out.bind_exc, Out.bind_err, bind_assoc_, Out.nox_ok, opt_some, opt_none, optD_some, optD_none, datb_, lookO, lookF_dat, look_dat, dats_nil, dats_cons, Option.map_some, Option.map_none, asT, asTs, it_ok, it_bind, dfl, List.map_nil, List.map_cons, List.append_nil, List.nil_append, List.cons_append, List.replicate_zero, List.replicate_succ, Nat.sub_self, List.getElem?_cons_zero, List.getElem?_cons_succ, List.set_cons_zero, List.set_cons_succ, List.length_cons, List.length_nil, at_0, at_1, at_2, at_3, isTy, bind_nm, bind_tp, bpts_nil, bpts_cons, retOf, isNon, partO, cond_t, cond_f, if_true, if_false, Bool.false_eq_true, reduceIte, reduceCtorEq, wipeE, Nat.reduceAdd, Nat.reduceSub, Nat.reduceLT, Nat.reduceLeDiff, Nat.lt_add_one, Nat.zero_add, Int.reduceNeg, Bool.not_true, Bool.not_false, bf_len_t, bf_len_l, bf_abs, bf_min2, bf_max2, bf_int_b, bf_repr, bf_list_l, bf_list_t, bf_tuple_l, bf_tuple_t, bf_all, bf_any, bf_sum, bf_isi, bin_add, bin_sub, bin_mul, bin_fdv, bin_mod, bin_p18, bin_p12, bin_add_t, bin_add_l, bin_add_s, bin_mul_t, cmpP_eq, eqO_s, cmpP_ne, cmpP_lt, cmpP_le, cmpP_gt, cmpP_ge, cmpP_in, cmpP_nin, eqP_int, eqP_str, eq_nil_nil, eq_lay, eq_row, eq_rns, add_rns, perm10, idx_t, idx_l, idx_pl0, idx_pl1, idx_lp0, idx_lp1, idx_rw0, kob_0, kob_1, kput_0, kput_1, sli_t, sli_l, rev_t, rev_l, items_t, items_l, seq_t, seq_l, bools_nil, bools_cons, compL, consO, List.all_cons, List.all_nil, List.any_cons, List.any_nil, id_eq, Bool.and_true, Bool.true_and, Bool.and_self, finD_rt, finD_nx, ix3_0, ix3_1, ix3_2, ne_eq, not_false_eq_true, not_true_eq_false, Int.reduceEq, Int.reduceLT, Int.reduceLE, decide_true, decide_false, List.set_set, pl, w1, w2, z2]
    refine sat_nil ?_
    refine sat_seq ?_
    simp only [sat_okI, evS, evT, evE, evL, evAll, Out.bind_ok, Out.bind_exc, Out.bind_err, bind_assoc_, Out.nox_ok, opt_some, opt_none, optD_some, optD_none, datb_, lookO, lookF_dat, look_dat, dats_nil, dats_cons, Option.map_some, Option.map_none, asT, asTs, it_ok, it_bind, dfl, List.map_nil, List.map_cons, List.append_nil, List.nil_append, List.cons_append, List.replicate_zero, List.replicate_succ, Nat.sub_self, List.getElem?_cons_zero, List.getElem?_cons_succ, List.set_cons_zero, List.set_cons_succ, List.length_cons, List.length_nil, at_0, at_1, at_2, at_3, isTy, bind_nm, bind_tp, bpts_nil, bpts_cons, retOf, isNon, partO, cond_t, cond_f, if_true, if_false, Bool.false_eq_true, reduceIte, reduceCtorEq, wipeE, Nat.reduceAdd, Nat.reduceSub, Nat.reduceLT, Nat.reduceLeDiff, Nat.lt_add_one, Nat.zero_add, Int.reduceNeg, Bool.not_true, Bool.not_false, bf_len_t, bf_len_l, bf_abs, bf_min2, bf_max2, bf_int_b, bf_repr, bf_list_l, bf_list_t, bf_tuple_l, bf_tuple_t, bf_all, bf_any, bf_sum, bf_isi, bin_add, bin_sub, bin_mul, bin_fdv, bin_mod, bin_p18, bin_p12, bin_add_t, bin_add_l, bin_add_s, bin_mul_t, cmpP_eq, eqO_s, cmpP_ne, cmpP_lt, cmpP_le, cmpP_gt, cmpP_ge, cmpP_in, cmpP_nin, eqP_int, eqP_str, eq_nil_nil, eq_lay, eq_row, eq_rns, add_rns, perm10, idx_t, idx_l, idx_pl0, idx_pl1, idx_lp0, idx_lp1, idx_rw0, kob_0, kob_1, kput_0, kput_1, sli_t, sli_l, rev_t, rev_l, items_t, items_l, seq_t, seq_l, bools_nil, bools_cons, compL, consO, List.all_cons, List.all_nil, List.any_cons, List.any_nil, id_eq, Bool.and_true, Bool.true_and, Bool.and_self, finD_rt, finD_nx, ix3_0, ix3_1, ix3_2, ne_eq, not_false_eq_true, not_true_eq_false, Int.reduceEq, Int.reduceLT, Int.reduceLE, decide_true, decide_false, List.set_set, show decide (((1 : Nat) : Int) = 1) = true from rfl, show decide (((1 : Nat) : Int) = 2) = false from rfl]
    refine sat_nil ?_
    refine sat_seq ?_
    simp only [sat_okI, evS, evT, evE, evL, evAll, Out.bind_ok, Out.bind_exc, Out.bind_err, bind_assoc_, Out.nox_ok, opt_some, opt_none, optD_some, optD_none, datb_, lookO, lookF_dat, look_dat, dats_nil, dats_cons, Option.map_some, Option.map_none, asT, asTs, it_ok, it_bind, dfl, List.map_nil, List.map_cons, List.append_nil, List.nil_append, List.cons_append, List.replicate_zero, List.replicate_succ, Nat.sub_self, List.getElem?_cons_zero, List.getElem?_cons_succ, List.set_cons_zero, List.set_cons_succ, List.length_cons, List.length_nil, at_0, at_1, at_2, at_3, isTy, bind_nm, bind_tp, bpts_nil, bpts_cons, retOf, isNon, partO, cond_t, cond_f, if_true, if_false, Bool.false_eq_true, reduceIte, reduceCtorEq, wipeE, Nat.reduceAdd, Nat.reduceSub, Nat.reduceLT, Nat.reduceLeDiff, Nat.lt_add_one, Nat.zero_add, Int.reduceNeg, Bool.not_true, Bool.not_false, bf_len_t, bf_len_l, bf_abs, bf_min2, bf_max2, bf_int_b, bf_repr, bf_list_l, bf_list_t, bf_tuple_l, bf_tuple_t, bf_all, bf_any, bf_sum, bf_isi, bin_add, bin_sub, bin_mul, bin_fdv, bin_mod, bin_p18, bin_p12, bin_add_t, bin_add_l, bin_add_s, bin_mul_t, cmpP_eq, eqO_s, cmpP_ne, cmpP_lt, cmpP_le, cmpP_gt, cmpP_ge, cmpP_in, cmpP_nin, eqP_int, eqP_str, eq_nil_nil, eq_lay, eq_row, eq_rns, add_rns, perm10, idx_t, idx_l, idx_pl0, idx_pl1, idx_lp0, idx_lp1, idx_rw0, kob_0, kob_1, kput_0, kput_1, sli_t, sli_l, rev_t, rev_l, items_t, items_l, seq_t, seq_l, bools_nil, bools_cons, compL, consO, List.all_cons, List.all_nil, List.any_cons, List.any_nil, id_eq, Bool.and_true, Bool.true_and, Bool.and_self, finD_rt, finD_nx, ix3_0, ix3_1, ix3_2, ne_eq, not_false_eq_true, not_true_eq_false, Int.reduceEq, Int.reduceLT, Int.reduceLE, decide_true, decide_false, List.set_set, show decide (((1 : Nat) : Int) = 3) = false from rfl]
    refine sat_nil ?_
    refine sat_seq ?_
    simp only [sat_okI, evS, evT, evE, evL, evAll, Out.bind_ok, Out.bind_exc, Out.bind_err, bind_assoc_, Out.nox_ok, opt_some, opt_none, optD_some, optD_none, datb_, lookO, lookF_dat, look_dat, dats_nil, dats_cons, Option.map_some, Option.map_none, asT, asTs, it_ok, it_bind, dfl, List.map_nil, List.map_cons, List.append_nil, List.nil_append, List.cons_append, List.replicate_zero, List.replicate_succ, Nat.sub_self, List.getElem?_cons_zero, List.getElem?_cons_succ, List.set_cons_zero, List.set_cons_succ, List.length_cons, List.length_nil, at_0, at_1, at_2, at_3, isTy, bind_nm, bind_tp, bpts_nil, bpts_cons, retOf, isNon, partO, cond_t, cond_f, if_true, if_false, Bool.false_eq_true, reduceIte, reduceCtorEq, wipeE, Nat.reduceAdd, Nat.reduceSub, Nat.reduceLT, Nat.reduceLeDiff, Nat.lt_add_one, Nat.zero_add, Int.reduceNeg, Bool.not_true, Bool.not_false, bf_len_t, bf_len_l, bf_abs, bf_min2, bf_max2, bf_int_b, bf_repr, bf_list_l, bf_list_t, bf_tuple_l, bf_tuple_t, bf_all, bf_any, bf_sum, bf_isi, bin_add, bin_sub, bin_mul, bin_fdv, bin_mod, bin_p18, bin_p12, bin_add_t, bin_add_l, bin_add_s, bin_mul_t, cmpP_eq, eqO_s, cmpP_ne, cmpP_lt, cmpP_le, cmpP_gt, cmpP_ge, cmpP_in, cmpP_nin, eqP_int, eqP_str, eq_nil_nil, eq_lay, eq_row, eq_rns, add_rns, perm10, idx_t, idx_l, idx_pl0, idx_pl1, idx_lp0, idx_lp1, idx_rw0, kob_0, kob_1, kput_0, kput_1, sli_t, sli_l, rev_t, rev_l, items_t, items_l, seq_t, seq_l, bools_nil, bools_cons, compL, consO, List.all_cons, List.all_nil, List.any_cons, List.any_nil, id_eq, Bool.and_true, Bool.true_and, Bool.and_self, finD_rt, finD_nx, ix3_0, ix3_1, ix3_2, ne_eq, not_false_eq_true, not_true_eq_false, Int.reduceEq, Int.reduceLT, Int.reduceLE, decide_true, decide_false, List.set_set, show decide (((1 : Nat) : Int) = 4) = false from rfl]
    refine sat_nil ?_
    refine sat_seq ?_
    simp only [sat_okI, evS, evT, evE, evL, evAll, Out.bind_ok, Out.bind_exc, Out.bind_err, bind_assoc_, Out.nox_ok, opt_some, opt_none, optD_some, optD_none, datb_, lookO, lookF_dat, look_dat, dats_nil, dats_cons, Option.map_some, Option.map_none, asT, asTs, it_ok, it_bind, dfl, List.map_nil, List.map_cons, List.append_nil, List.nil_append, List.cons_append, List.replicate_zero, List.replicate_succ, Nat.sub_self, List.getElem?_cons_zero, List.getElem?_cons_succ, List.set_cons_zero, List.set_cons_succ, List.length_cons, List.length_nil, at_0, at_1, at_2, at_3, isTy, bind_nm, bind_tp, bpts_nil, bpts_cons, retOf, isNon, partO, cond_t, cond_f, if_true, if_false, Bool.false_eq_true, reduceIte, reduceCtorEq, wipeE, Nat.reduceAdd, Nat.reduceSub, Nat.reduceLT, Nat.reduceLeDiff, Nat.lt_add_one, Nat.zero_add, Int.reduceNeg, Bool.not_true, Bool.not_false, bf_len_t, bf_len_l, bf_abs, bf_min2, bf_max2, bf_int_b, bf_repr, bf_list_l, bf_list_t, bf_tuple_l, bf_tuple_t, bf_all, bf_any, bf_sum, bf_isi, bin_add, bin_sub, bin_mul, bin_fdv, bin_mod, bin_p18, bin_p12, bin_add_t, bin_add_l, bin_add_s, bin_mul_t, cmpP_eq, eqO_s, cmpP_ne, cmpP_lt, cmpP_le, cmpP_gt, cmpP_ge, cmpP_in, cmpP_nin, eqP_int, eqP_str, eq_nil_nil, eq_lay, eq_row, eq_rns, add_rns, perm10, idx_t, idx_l, idx_pl0, idx_pl1, idx_lp0, idx_lp1, idx_rw0, kob_0, kob_1, kput_0, kput_1, sli_t, sli_l, rev_t, rev_l, items_t, items_l, seq_t, seq_l, bools_nil, bools_cons, compL, consO, List.all_cons, List.all_nil, List.any_cons, List.any_nil, id_eq, Bool.and_true, Bool.true_and, Bool.and_self, finD_rt, finD_nx, ix3_0, ix3_1, ix3_2, ne_eq, not_false_eq_true, not_true_eq_false, Int.reduceEq, Int.reduceLT, Int.reduceLE, decide_true, decide_false, List.set_set, z2, M7.at_, zz]
    exact sat_nil ⟨_, rfl, _, _, _, _, rfl, M7.add (by omega) h0 hf ne (b.1 + ((t : Int) - 2) * st.1, b.2 + ((t : Int) - 2) * st.2)⟩
  have e1 : decide ((so : Int) = 1) = false := decide_eq_false (by omega)
  simp only [sat_okI, evS, evT, evE, evL, evAll, Out.bind_ok, Out.bind_exc, Out.bind_err, bind_assoc_, Out.nox_ok, opt_some, opt_none, optD_some, optD_none, datb_, lookO, lookF_dat, look_dat, dats_nil, dats_cons, Option.map_some, Option.map_none, asT, asTs, it_ok, it_bind, dfl, List.map_nil, List.map_cons, List.append_nil, List.nil_append, List.cons_append, List.replicate_zero, List.replicate_succ, Nat.sub_self, List.getElem?_cons_zero, List.getElem?_cons_succ, List.set_cons_zero, List.set_cons_succ, List.length_cons, List.length_nil, at_0, at_1, at_2, at_3, isTy, bind_nm, bind_tp, bpts_nil, bpts_cons, retOf, isNon, partO, cond_t, cond_f, if_true, if_false, Bool.false_eq_true, reduceIte, reduceCtorEq, wipeE, Nat.reduceAdd, Nat.reduceSub, Nat.reduceLT, Nat.reduceLeDiff, Nat.lt_add_one, Nat.zero_add, Int.reduceNeg, Bool.not_true, Bool.not_false, bf_len_t, bf_len_l, bf_abs, bf_min2, bf_max2, bf_int_b, bf_repr, bf_list_l, bf_list_t, bf_tuple_l, bf_tuple_t, bf_all, bf_any, bf_sum, bf_isi, bin_add, bin_sub, bin_mul, bin_fdv, bin_mod, bin_p18, bin_p12, bin_add_t, bin_add_l, bin_add_s, bin_mul_t, cmpP_eq, eqO_s, cmpP_ne, cmpP_lt, cmpP_le, cmpP_gt, cmpP_ge, cmpP_in, cmpP_nin, eqP_int, eqP_str, eq_nil_nil, eq_lay, eq_row, eq_rns, add_rns, perm10, idx_t, idx_l, idx_pl0, idx_pl1, idx_lp0, idx_lp1, idx_rw0, kob_0, kob_1, kput_0, kput_1, sli_t, sli_l, rev_t, rev_l, items_t, items_l, seq_t, seq_l, bools_nil, bools_cons, compL, consO, List.all_cons, List.all_nil, List.any_cons, List.any_nil, id_eq, Bool.and_true, Bool.true_and, Bool.and_self, finD_rt, finD_nx, ix3_0, ix3_1, ix3_2, ne_eq, not_false_eq_true, not_true_eq_false, Int.reduceEq, Int.reduceLT, Int.reduceLE, decide_true, decide_false, List.set_set, e1]
  refine sat_nil ?_
  refine sat_seq ?_
  by_cases s2 : so = 2
  · subst s2
    simp only [sat_okI, evS, evT, evE, evL, evAll, Out.bind_ok, Out.bind_exc, Out.bind_err, bind_assoc_, Out.nox_ok, opt_some, opt_none, optD_some, optD_none, datb_, lookO, lookF_dat, look_dat, dats_nil, dats_cons, Option.map_some, Option.map_none, asT, asTs, it_ok, it_bind, dfl, List.map_nil, List.map_cons, List.append_nil, List.nil_append, List.cons_append, List.replicate_zero, List.replicate_succ, Nat.sub_self, List.getElem?_cons_zero, List.getElem?_cons_succ, List.set_cons_zero, List.set_cons_succ, List.length_cons, List.length_nil, at_0, at_1, at_2, at_3, isTy, bind_nm, bind_tp, bpts_nil, bpts_cons, retOf, isNon, partO, cond_t, cond_f, if_true, if_false, Bool.false_eq_true, reduceIte, reduceCtorEq, wipeE, Nat.reduceAdd, Nat.reduceSub, Nat.reduceLT, Nat.reduceLeDiff, Nat.lt_add_one, Nat.zero_add, Int.reduceNeg, Bool.not_true, Bool.not_false, bf_len_t, bf_len_l, bf_abs, bf_min2, bf_max2, bf_int_b, bf_repr, bf_list_l, bf_list_t, bf_tuple_l, bf_tuple_t, bf_all, bf_any, bf_sum, bf_isi, bin_add, bin_sub, bin_mul, bin_fdv, bin_mod, bin_p18, bin_p12, bin_add_t, bin_add_l, bin_add_s, bin_mul_t, cmpP_eq, eqO_s, cmpP_ne, cmpP_lt, cmpP_le, cmpP_gt, cmpP_ge, cmpP_in, cmpP_nin, eqP_int, eqP_str, eq_nil_nil, eq_lay, eq_row, eq_rns, add_rns, perm10, idx_t, idx_l, idx_pl0, idx_pl1, idx_lp0, idx_lp1, idx_rw0, kob_0, kob_1, kput_0, kput_1, sli_t, sli_l, rev_t, rev_l, items_t, items_l, seq_t, seq_l, bools_nil, bools_cons, compL, consO, List.all_cons, List.all_nil, List.any_cons, List.any_nil, id_eq, Bool.and_true, Bool.true_and, Bool.and_self, finD_rt, finD_nx, ix3_0, ix3_1, ix3_2, ne_eq, not_false_eq_true, not_true_eq_false, Int.reduceEq, Int.reduceLT, Int.reduceLE, decide_true, decide_false, List.set_set, show decide (((2 : Nat) : Int) = 2) = true from rfl]
    refine sat_seq ?_
    simp only [sat_okI, evS, evT, evE, evL, evAll, Out.bind_ok, Out.bind_exc, Out.bind_err, bind_assoc_, Out.nox_ok, opt_some, opt_none, optD_some, optD_none, datb_, lookO, lookF_dat, look_dat, dats_nil, dats_cons, Option.map_some, Option.map_none, asT, asTs, it_ok, it_bind, dfl, List.map_nil, List.map_cons, List.append_nil, List.nil_append, List.cons_append, List.replicate_zero, List.replicate_succ, Nat.sub_self, List.getElem?_cons_zero, List.getElem?_cons_succ, List.set_cons_zero, List.set_cons_succ, List.length_cons, List.length_nil, at_0, at_1, at_2, at_3, isTy, bind_nm, bind_tp, bpts_nil, bpts_cons, retOf, isNon, partO, cond_t, cond_f, if_true, if_false, Bool.false_eq_true, reduceIte, reduceCtorEq, wipeE, Nat.reduceAdd, Nat.reduceSub, Nat.reduceLT, Nat.reduceLeDiff, Nat.lt_add_one, Nat.zero_add, Int.reduceNeg, Bool.not_true, Bool.not_false, bf_len_t, bf_len_l, bf_abs, bf_min2, bf_max2, bf_int_b, bf_repr, bf_list_l, bf_list_t, bf_tuple_l, bf_tuple_t, bf_all, bf_any, bf_sum, bf_isi, bin_add, bin_sub, bin_mul, bin_fdv, bin_mod, bin_p18, bin_p12, bin_add_t, bin_add_l, bin_add_s, bin_mul_t, cmpP_eq, eqO_s, cmpP_ne, cmpP_lt, cmpP_le, cmpP_gt, cmpP_ge, cmpP_in, cmpP_nin, eqP_int, eqP_str, eq_nil_nil, eq_lay, eq_row, eq_rns, add_rns, perm10, idx_t, idx_l, idx_pl0, idx_pl1, idx_lp0, idx_lp1, idx_rw0, kob_0, kob_1, kput_0, kput_1, sli_t, sli_l, rev_t, rev_l, items_t, items_l, seq_t, seq_l, bools_nil, bools_cons, compL, consO, List.all_cons, List.all_nil, List.any_cons, List.any_nil, id_eq, Bool.and_true, Bool.true_and, Bool.and_self, finD_rt, finD_nx, ix3_0, ix3_1, ix3_2, ne_eq, not_false_eq_true, not_true_eq_false, Int.reduceEq, Int.reduceLT, Int.reduceLE, decide_true, decide_false, List.set_set, z4]
    refine sat_then (s_draw P6 (by omega) (by omega) (by omega)) ?_
    rintro v S7 ⟨⟨t, rfl, ht⟩, P7, F7⟩
    have M7 := M6.step ne P7 F7
    obtain ⟨m, hm, hm1, hm2⟩ : ∃ m : Int, L2.atI [PyData.int 2, .int 3, .int 4, .int 6] (t : Int) = some (.int m) ∧ 0 < m ∧ m < 100 := by
      have : t = 0 ∨ t = 1 ∨ t = 2 ∨ t = 3 := by omega
      rcases this with rfl | rfl | rfl | rfl
      · exact ⟨2, rfl, by decide, by decide⟩
      · exact ⟨3, rfl, by decide, by decide⟩
      · exact ⟨4, rfl, by decide, by decide⟩
      · exact ⟨6, rfl, by decide, by decide⟩
    have dm : divOk m = true := div_ok hm1 (by omega)
    have w1 : mulOk (p.1.fdiv m) m = true := mul_ok (a := 21) (b := 20) (fd_nat hm1 (by omega)) (by omega) (by decide)
    have w2 : mulOk (p.2.fdiv m) m = true := mul_ok (a := 21) (b := 20) (fd_nat hm1 (by omega)) (by omega) (by decide)
    simp only [sat_okI, evS, evT, evE, evL, evAll, Out.bind_ok, Out.bind_exc, Out.bind_err, bind_assoc_, Out.nox_ok, opt_some, opt_none, optD_some, optD_none, datb_, lookO, lookF_dat, look_dat, dats_nil, dats_cons, Option.map_some, Option.map_none, asT, asTs, it_ok, it_bind, dfl, List.map_nil, List.map_cons, List.append_nil, List.nil_append, List.cons_append, List.replicate_zero, List.replicate_succ, Nat.sub_self, List.getElem?_cons_zero, List.getElem?_cons_succ, List.set_cons_zero, List.set_cons_succ, List.length_cons, List.length_nil, at_0, at_1, at_2, at_3, isTy, bind_nm, bind_tp, bpts_nil, bpts_cons, retOf, isNon, partO, cond_t, cond_f, if_true, if_false, Bool.false_eq_true, reduceIte, reduceCtorEq, wipeE, Nat.reduceAdd, Nat.reduceSub, Nat.reduceLT, Nat.reduceLeDiff, Nat.lt_add_one, Nat.zero_add, Int.reduceNeg, Bool.not_true, Bool.not_false, bf_len_t, bf_len_l, bf_abs, bf_min2, bf_max2, bf_int_b, bf_repr, bf_list_l, bf_list_t, bf_tuple_l, bf_tuple_t, bf_all, bf_any, bf_sum, bf_isi, bin_add, bin_sub, bin_mul, bin_fdv, bin_mod, bin_p18, bin_p12, bin_add_t, bin_add_l, bin_add_s, bin_mul_t, cmpP_eq, eqO_s, cmpP_ne, cmpP_lt, cmpP_le, cmpP_gt, cmpP_ge, cmpP_in, cmpP_nin, eqP_int, eqP_str, eq_nil_nil, eq_lay, eq_row, eq_rns, add_rns, perm10, idx_t, idx_l, idx_pl0, idx_pl1, idx_lp0, idx_lp1, idx_rw0, kob_0, kob_1, kput_0, kput_1, sli_t, sli_l, rev_t, rev_l, items_t, items_l, seq_t, seq_l, bools_nil, bools_cons, compL, consO, List.all_cons, List.all_nil, List.any_cons, List.any_nil, id_eq, Bool.and_true, Bool.true_and, Bool.and_self, finD_rt, finD_nx, ix3_0, ix3_1, ix3_2, ne_eq, not_false_eq_true, not_true_eq_false, Int.reduceEq, Int.reduceLT, Int.reduceLE, decide_true, decide_false, List.set_set, hm]
    refine sat_seq ?_
    simp only [sat_okI, evS, evT, evE, evL, evAll, Out.bind_ok, Out.bind_exc, Out.bind_err, bind_assoc_, Out.nox_ok, opt_some, opt_none, optD_some, optD_none, datb_, lookO, lookF_dat, look_dat, dats_nil, dats_cons, Option.map_some, Option.map_none, asT, asTs, it_ok, it_bind, dfl, List.map_nil, List.map_cons, List.append_nil, List.nil_append, List.cons_append, List.replicate_zero, List.replicate_succ, Nat.sub_self, List.getElem?_cons_zero, List.getElem?_cons_succ, List.set_cons_zero, List.set_cons_succ, List.length_cons, List.length_nil, at_0, at_1, at_2, at_3, isTy, bind_nm, bind_tp, bpts_nil, bpts_cons, retOf, isNon, partO, cond_t, cond_f, if_true, if_false, Bool.false_eq_true, reduceIte, reduceCtorEq, wipeE, Nat.reduceAdd, Nat.reduceSub, Nat.reduceLT, Nat.reduceLeDiff, Nat.lt_add_one, Nat.zero_add, Int.reduceNeg, Bool.not_true, Bool.not_false, bf_len_t, bf_len_l, bf_abs, bf_min2, bf_max2, bf_int_b, bf_repr, bf_list_l, bf_list_t, bf_tuple_l, bf_tuple_t, bf_all, bf_any, bf_sum, bf_isi, bin_add, bin_sub, bin_mul, bin_fdv, bin_mod, bin_p18, bin_p12, bin_add_t, bin_add_l, bin_add_s, bin_mul_t, cmpP_eq, eqO_s, cmpP_ne, cmpP_lt, cmpP_le, cmpP_gt, cmpP_ge, cmpP_in, cmpP_nin, eqP_int, eqP_str, eq_nil_nil, eq_lay, eq_row, eq_rns, add_rns, perm10, idx_t, idx_l, idx_pl0, idx_pl1, idx_lp0, idx_lp1, idx_rw0, kob_0, kob_1, kput_0, kput_1, sli_t, sli_l, rev_t, rev_l, items_t, items_l, seq_t, seq_l, bools_nil, bools_cons, compL, consO, List.all_cons, List.all_nil, List.any_cons, List.any_nil, id_eq, Bool.and_true, Bool.true_and, Bool.and_self, finD_rt, finD_nx, ix3_0, ix3_1, ix3_2, ne_eq, not_false_eq_true, not_true_eq_false, Int.reduceEq, Int.reduceLT, Int.reduceLE, decide_true, decide_false, List.set_set, pl, dm, w1, w2, z2]
    refine sat_nil ?_
    refine sat_seq ?_
    simp only [sat_okI, evS, evT, evE, evL, evAll, Out.bind_ok, Out.bind_exc, Out.bind_err, bind_assoc_, Out.nox_ok, opt_some, opt_none, optD_some, optD_none, datb_, lookO, lookF_dat, look_dat, dats_nil, dats_cons, Option.map_some, Option.map_none, asT, asTs, it_ok, it_bind, dfl, List.map_nil, List.map_cons, List.append_nil, List.nil_append, List.cons_append, List.replicate_zero, List.replicate_succ, Nat.sub_self, List.getElem?_cons_zero, List.getElem?_cons_succ, List.set_cons_zero, List.set_cons_succ, List.length_cons, List.length_nil, at_0, at_1, at_2, at_3, isTy, bind_nm, bind_tp, bpts_nil, bpts_cons, retOf, isNon, partO, cond_t, cond_f, if_true, if_false, Bool.false_eq_true, reduceIte, reduceCtorEq, wipeE, Nat.reduceAdd, Nat.reduceSub, Nat.reduceLT, Nat.reduceLeDiff, Nat.lt_add_one, Nat.zero_add, Int.reduceNeg, Bool.not_true, Bool.not_false, bf_len_t, bf_len_l, bf_abs, bf_min2, bf_max2, bf_int_b, bf_repr, bf_list_l, bf_list_t, bf_tuple_l, bf_tuple_t, bf_all, bf_any, bf_sum, bf_isi, bin_add, bin_sub, bin_mul, bin_fdv, bin_mod, bin_p18, bin_p12, bin_add_t, bin_add_l, bin_add_s, bin_mul_t, cmpP_eq, eqO_s, cmpP_ne, cmpP_lt, cmpP_le, cmpP_gt, cmpP_ge, cmpP_in, cmpP_nin, eqP_int, eqP_str, eq_nil_nil, eq_lay, eq_row, eq_rns, add_rns, perm10, idx_t, idx_l, idx_pl0, idx_pl1, idx_lp0, idx_lp1, idx_rw0, kob_0, kob_1, kput_0, kput_1, sli_t, sli_l, rev_t, rev_l, items_t, items_l, seq_t, seq_l, bools_nil, bools_cons, compL, consO, List.all_cons, List.all_nil, List.any_cons, List.any_nil, id_eq, Bool.and_true, Bool.true_and, Bool.and_self, finD_rt, finD_nx, ix3_0, ix3_1, ix3_2, ne_eq, not_false_eq_true, not_true_eq_false, Int.reduceEq, Int.reduceLT, Int.reduceLE, decide_true, decide_false, List.set_set, show decide (((2 : Nat) : Int) = 3) = false from rfl]
    refine sat_nil ?_
    refine sat_seq ?_
    simp only [sat_okI, evS, evT, evE, evL, evAll, Out.bind_ok, Out.bind_exc, Out.bind_err, bind_assoc_, Out.nox_ok, opt_some, opt_none, optD_some, optD_none, datb_, lookO, lookF_dat, look_dat, dats_nil, dats_cons, Option.map_some, Option.map_none, asT, asTs, it_ok, it_bind, dfl, List.map_nil, List.map_cons, List.append_nil, List.nil_append, List.cons_append, List.replicate_zero, List.replicate_succ, Nat.sub_self, List.getElem?_cons_zero, List.getElem?_cons_succ, List.set_cons_zero, List.set_cons_succ, List.length_cons, List.length_nil, at_0, at_1, at_2, at_3, isTy, bind_nm, bind_tp, bpts_nil, bpts_cons, retOf, isNon, partO, cond_t, cond_f, if_true, if_false, Bool.false_eq_true, reduceIte, reduceCtorEq, wipeE, Nat.reduceAdd, Nat.reduceSub, Nat.reduceLT, Nat.reduceLeDiff, Nat.lt_add_one, Nat.zero_add, Int.reduceNeg, Bool.not_true, Bool.not_false, bf_len_t, bf_len_l, bf_abs, bf_min2, bf_max2, bf_int_b, bf_repr, bf_list_l, bf_list_t, bf_tuple_l, bf_tuple_t, bf_all, bf_any, bf_sum, bf_isi, bin_add, bin_sub, bin_mul, bin_fdv, bin_mod, bin_p18, bin_p12, bin_add_t, bin_add_l, bin_add_s, bin_mul_t, cmpP_eq, eqO_s, cmpP_ne, cmpP_lt, cmpP_le, cmpP_gt, cmpP_ge, cmpP_in, cmpP_nin, eqP_int, eqP_str, eq_nil_nil, eq_lay, eq_row, eq_rns, add_rns, perm10, idx_t, idx_l, idx_pl0, idx_pl1, idx_lp0, idx_lp1, idx_rw0, kob_0, kob_1, kput_0, kput_1, sli_t, sli_l, rev_t, rev_l, items_t, items_l, seq_t, seq_l, bools_nil, bools_cons, compL, consO, List.all_cons, List.all_nil, List.any_cons, List.any_nil, id_eq, Bool.and_true, Bool.true_and, Bool.and_self, finD_rt, finD_nx, ix3_0, ix3_1, ix3_2, ne_eq, not_false_eq_true, not_true_eq_false, Int.reduceEq, Int.reduceLT, Int.reduceLE, decide_true, decide_false, List.set_set, show decide (((2 : Nat) : Int) = 4) = false from rfl]
    refine sat_nil ?_
    refine sat_seq ?_
    simp only [sat_okI, evS, evT, evE, evL, evAll, Out.bind_ok, Out.bind_exc, Out.bind_err, bind_assoc_, Out.nox_ok, opt_some, opt_none, optD_some, optD_none, datb_, lookO, lookF_dat, look_dat, dats_nil, dats_cons, Option.map_some, Option.map_none, asT, asTs, it_ok, it_bind, dfl, List.map_nil, List.map_cons, List.append_nil, List.nil_append, List.cons_append, List.replicate_zero, List.replicate_succ, Nat.sub_self, List.getElem?_cons_zero, List.getElem?_cons_succ, List.set_cons_zero, List.set_cons_succ, List.length_cons, List.length_nil, at_0, at_1, at_2, at_3, isTy, bind_nm, bind_tp, bpts_nil, bpts_cons, retOf, isNon, partO, cond_t, cond_f, if_true, if_false, Bool.false_eq_true, reduceIte, reduceCtorEq, wipeE, Nat.reduceAdd, Nat.reduceSub, Nat.reduceLT, Nat.reduceLeDiff, Nat.lt_add_one, Nat.zero_add, Int.reduceNeg, Bool.not_true, Bool.not_false, bf_len_t, bf_len_l, bf_abs, bf_min2, bf_max2, bf_int_b, bf_repr, bf_list_l, bf_list_t, bf_tuple_l, bf_tuple_t, bf_all, bf_any, bf_sum, bf_isi, bin_add, bin_sub, bin_mul, bin_fdv, bin_mod, bin_p18, bin_p12, bin_add_t, bin_add_l, bin_add_s, bin_mul_t, cmpP_eq, eqO_s, cmpP_ne, cmpP_lt, cmpP_le, cmpP_gt, cmpP_ge, cmpP_in, cmpP_nin, eqP_int, eqP_str, eq_nil_nil, eq_lay, eq_row, eq_rns, add_rns, perm10, idx_t, idx_l, idx_pl0, idx_pl1, idx_lp0, idx_lp1, idx_rw0, kob_0, kob_1, kput_0, kput_1, sli_t, sli_l, rev_t, rev_l, items_t, items_l, seq_t, seq_l, bools_nil, bools_cons, compL, consO, List.all_cons, List.all_nil, List.any_cons, List.any_nil, id_eq, Bool.and_true, Bool.true_and, Bool.and_self, finD_rt, finD_nx, ix3_0, ix3_1, ix3_2, ne_eq, not_false_eq_true, not_true_eq_false, Int.reduceEq, Int.reduceLT, Int.reduceLE, decide_true, decide_false, List.set_set, z2, M7.at_, zz]
    exact sat_nil ⟨_, rfl, _, _, _, _, rfl, M7.add (by omega) h0 hf ne (b.1 + p.1.fdiv m * m, b.2 + p.2.fdiv m * m)⟩
  have e2 : decide ((so : Int) = 2) = false := decide_eq_false (by omega)
  simp only [sat_okI, evS, evT, evE, evL, evAll, Out.bind_ok, Out.bind_exc, Out.bind_err, bind_assoc_, Out.nox_ok, opt_some, opt_none, optD_some, optD_none, datb_, lookO, lookF_dat, look_dat, dats_nil, dats_cons, Option.map_some, Option.map_none, asT, asTs, it_ok, it_bind, dfl, List.map_nil, List.map_cons, List.append_nil, List.nil_append, List.cons_append, List.replicate_zero, List.replicate_succ, Nat.sub_self, List.getElem?_cons_zero, List.getElem?_cons_succ, List.set_cons_zero, List.set_cons_succ, List.length_cons, List.length_nil, at_0, at_1, at_2, at_3, isTy, bind_nm, bind_tp, bpts_nil, bpts_cons, retOf, isNon, partO, cond_t, cond_f, if_true, if_false, Bool.false_eq_true, reduceIte, reduceCtorEq, wipeE, Nat.reduceAdd, Nat.reduceSub, Nat.reduceLT, Nat.reduceLeDiff, Nat.lt_add_one, Nat.zero_add, Int.reduceNeg, Bool.not_true, Bool.not_false, bf_len_t, bf_len_l, bf_abs, bf_min2, bf_max2, bf_int_b, bf_repr, bf_list_l, bf_list_t, bf_tuple_l, bf_tuple_t, bf_all, bf_any, bf_sum, bf_isi, bin_add, bin_sub, bin_mul, bin_fdv, bin_mod, bin_p18, bin_p12, bin_add_t, bin_add_l, bin_add_s, bin_mul_t, cmpP_eq, eqO_s, cmpP_ne, cmpP_lt, cmpP_le, cmpP_gt, cmpP_ge, cmpP_in, cmpP_nin, eqP_int, eqP_str, eq_nil_nil, eq_lay, eq_row, eq_rns, add_rns, perm10, idx_t, idx_l, idx_pl0, idx_pl1, idx_lp0, idx_lp1, idx_rw0, kob_0, kob_1, kput_0, kput_1, sli_t, sli_l, rev_t, rev_l, items_t, items_l, seq_t, seq_l, bools_nil, bools_cons, compL, consO, List.all_cons, List.all_nil, List.any_cons, List.any_nil, id_eq, Bool.and_true, Bool.true_and, Bool.and_self, finD_rt, finD_nx, ix3_0, ix3_1, ix3_2, ne_eq, not_false_eq_true, not_true_eq_false, Int.reduceEq, Int.reduceLT, Int.reduceLE, decide_true, decide_false, List.set_set, e2]
  refine sat_nil ?_
  refine sat_seq ?_
  by_cases s3 : so = 3
  · subst s3
    simp only [sat_okI, evS, evT, evE, evL, evAll, Out.bind_ok, Out.bind_exc, Out.bind_err, bind_assoc_, Out.nox_ok, opt_some, opt_none, optD_some, optD_none, datb_, lookO, lookF_dat, look_dat, dats_nil, dats_cons, Option.map_some, Option.map_none, asT, asTs, it_ok, it_bind, dfl, List.map_nil, List.map_cons, List.append_nil, List.nil_append, List.cons_append, List.replicate_zero, List.replicate_succ, Nat.sub_self, List.getElem?_cons_zero, List.getElem?_cons_succ, List.set_cons_zero, List.set_cons_succ, List.length_cons, List.length_nil, at_0, at_1, at_2, at_3, isTy, bind_nm, bind_tp, bpts_nil, bpts_cons, retOf, isNon, partO, cond_t, cond_f, if_true, if_false, Bool.false_eq_true, reduceIte, reduceCtorEq, wipeE, Nat.reduceAdd, Nat.reduceSub, Nat.reduceLT, Nat.reduceLeDiff, Nat.lt_add_one, Nat.zero_add, Int.reduceNeg, Bool.not_true, Bool.not_false, bf_len_t, bf_len_l, bf_abs, bf_min2, bf_max2, bf_int_b, bf_repr, bf_list_l, bf_list_t, bf_tuple_l, bf_tuple_t, bf_all, bf_any, bf_sum, bf_isi, bin_add, bin_sub, bin_mul, bin_fdv, bin_mod, bin_p18, bin_p12, bin_add_t, bin_add_l, bin_add_s, bin_mul_t, cmpP_eq, eqO_s, cmpP_ne, cmpP_lt, cmpP_le, cmpP_gt, cmpP_ge, cmpP_in, cmpP_nin, eqP_int, eqP_str, eq_nil_nil, eq_lay, eq_row, eq_rns, add_rns, perm10, idx_t, idx_l, idx_pl0, idx_pl1, idx_lp0, idx_lp1, idx_rw0, kob_0, kob_1, kput_0, kput_1, sli_t, sli_l, rev_t, rev_l, items_t, items_l, seq_t, seq_l, bools_nil, bools_cons, compL, consO, List.all_cons, List.all_nil, List.any_cons, List.any_nil, id_eq, Bool.and_true, Bool.true_and, Bool.and_self, finD_rt, finD_nx, ix3_0, ix3_1, ix3_2, ne_eq, not_false_eq_true, not_true_eq_false, Int.reduceEq, Int.reduceLT, Int.reduceLE, decide_true, decide_false, List.set_set, show decide (((3 : Nat) : Int) = 3) = true from rfl]
    refine sat_then (s_draw P6 (by omega) (by omega) (by omega)) ?_
    rintro v S7 ⟨⟨t, rfl, ht⟩, P7, F7⟩
    have M7 := M6.step ne P7 F7
    by_cases t0 : (t : Int) = 0
    · simp only [sat_okI, evS, evT, evE, evL, evAll, Out.bind_ok, Out.bind_exc, Out.bind_err, bind_assoc_, Out.nox_ok, opt_some, opt_none, optD_some, optD_none, datb_, lookO, lookF_dat, look_dat, dats_nil, dats_cons, Option.map_some, Option.map_none, asT, asTs, it_ok, it_bind, dfl, List.map_nil, List.map_cons, List.append_nil, List.nil_append, List.cons_append, List.replicate_zero, List.replicate_succ, Nat.sub_self, List.getElem?_cons_zero, List.getElem?_cons_succ, List.set_cons_zero, List.set_cons_succ, List.length_cons, List.length_nil, at_0, at_1, at_2, at_3, isTy, bind_nm, bind_tp, bpts_nil, bpts_cons, retOf, isNon, partO, cond_t, cond_f, if_true, if_false, Bool.false_eq_true, reduceIte, reduceCtorEq, wipeE, Nat.reduceAdd, Nat.reduceSub, Nat.reduceLT, Nat.reduceLeDiff, Nat.lt_add_one, Nat.zero_add, Int.reduceNeg, Bool.not_true, Bool.not_false, bf_len_t, bf_len_l, bf_abs, bf_min2, bf_max2, bf_int_b, bf_repr, bf_list_l, bf_list_t, bf_tuple_l, bf_tuple_t, bf_all, bf_any, bf_sum, bf_isi, bin_add, bin_sub, bin_mul, bin_fdv, bin_mod, bin_p18, bin_p12, bin_add_t, bin_add_l, bin_add_s, bin_mul_t, cmpP_eq, eqO_s, cmpP_ne, cmpP_lt, cmpP_le, cmpP_gt, cmpP_ge, cmpP_in, cmpP_nin, eqP_int, eqP_str, eq_nil_nil, eq_lay, eq_row, eq_rns, add_rns, perm10, idx_t, idx_l, idx_pl0, idx_pl1, idx_lp0, idx_lp1, idx_rw0, kob_0, kob_1, kput_0, kput_1, sli_t, sli_l, rev_t, rev_l, items_t, items_l, seq_t, seq_l, bools_nil, bools_cons, compL, consO, List.all_cons, List.all_nil, List.any_cons, List.any_nil, id_eq, Bool.and_true, Bool.true_and, Bool.and_self, finD_rt, finD_nx, ix3_0, ix3_1, ix3_2, ne_eq, not_false_eq_true, not_true_eq_false, Int.reduceEq, Int.reduceLT, Int.reduceLE, decide_true, decide_false, List.set_set, t0]
      refine sat_seq ?_
      simp only [sat_okI, evS, evT, evE, evL, evAll, Out.bind_ok, Out.bind_exc, Out.bind_err, bind_assoc_, Out.nox_ok, opt_some, opt_none, optD_some, optD_none, datb_, lookO, lookF_dat, look_dat, dats_nil, dats_cons, Option.map_some, Option.map_none, asT, asTs, it_ok, it_bind, dfl, List.map_nil, List.map_cons, List.append_nil, List.nil_append, List.cons_append, List.replicate_zero, List.replicate_succ, Nat.sub_self, List.getElem?_cons_zero, List.getElem?_cons_succ, List.set_cons_zero, List.set_cons_succ, List.length_cons, List.length_nil, at_0, at_1, at_2, at_3, isTy, bind_nm, bind_tp, bpts_nil, bpts_cons, retOf, isNon, partO, cond_t, cond_f, if_true, if_false, Bool.false_eq_true, reduceIte, reduceCtorEq, wipeE, Nat.reduceAdd, Nat.reduceSub, Nat.reduceLT, Nat.reduceLeDiff, Nat.lt_add_one, Nat.zero_add, Int.reduceNeg, Bool.not_true, Bool.not_false, bf_len_t, bf_len_l, bf_abs, bf_min2, bf_max2, bf_int_b, bf_repr, bf_list_l, bf_list_t, bf_tuple_l, bf_tuple_t, bf_all, bf_any, bf_sum, bf_isi, bin_add, bin_sub, bin_mul, bin_fdv, bin_mod, bin_p18, bin_p12, bin_add_t, bin_add_l, bin_add_s, bin_mul_t, cmpP_eq, eqO_s, cmpP_ne, cmpP_lt, cmpP_le, cmpP_gt, cmpP_ge, cmpP_in, cmpP_nin, eqP_int, eqP_str, eq_nil_nil, eq_lay, eq_row, eq_rns, add_rns, perm10, idx_t, idx_l, idx_pl0, idx_pl1, idx_lp0, idx_lp1, idx_rw0, kob_0, kob_1, kput_0, kput_1, sli_t, sli_l, rev_t, rev_l, items_t, items_l, seq_t, seq_l, bools_nil, bools_cons, compL, consO, List.all_cons, List.all_nil, List.any_cons, List.any_nil, id_eq, Bool.and_true, Bool.true_and, Bool.and_self, finD_rt, finD_nx, ix3_0, ix3_1, ix3_2, ne_eq, not_false_eq_true, not_true_eq_false, Int.reduceEq, Int.reduceLT, Int.reduceLE, decide_true, decide_false, List.set_set]
      refine sat_nil ?_
      refine sat_seq ?_
      simp only [sat_okI, evS, evT, evE, evL, evAll, Out.bind_ok, Out.bind_exc, Out.bind_err, bind_assoc_, Out.nox_ok, opt_some, opt_none, optD_some, optD_none, datb_, lookO, lookF_dat, look_dat, dats_nil, dats_cons, Option.map_some, Option.map_none, asT, asTs, it_ok, it_bind, dfl, List.map_nil, List.map_cons, List.append_nil, List.nil_append, List.cons_append, List.replicate_zero, List.replicate_succ, Nat.sub_self, List.getElem?_cons_zero, List.getElem?_cons_succ, List.set_cons_zero, List.set_cons_succ, List.length_cons, List.length_nil, at_0, at_1, at_2, at_3, isTy, bind_nm, bind_tp, bpts_nil, bpts_cons, retOf, isNon, partO, cond_t, cond_f, if_true, if_false, Bool.false_eq_true, reduceIte, reduceCtorEq, wipeE, Nat.reduceAdd, Nat.reduceSub, Nat.reduceLT, Nat.reduceLeDiff, Nat.lt_add_one, Nat.zero_add, Int.reduceNeg, Bool.not_true, Bool.not_false, bf_len_t, bf_len_l, bf_abs, bf_min2, bf_max2, bf_int_b, bf_repr, bf_list_l, bf_list_t, bf_tuple_l, bf_tuple_t, bf_all, bf_any, bf_sum, bf_isi, bin_add, bin_sub, bin_mul, bin_fdv, bin_mod, bin_p18, bin_p12, bin_add_t, bin_add_l, bin_add_s, bin_mul_t, cmpP_eq, eqO_s, cmpP_ne, cmpP_lt, cmpP_le, cmpP_gt, cmpP_ge, cmpP_in, cmpP_nin, eqP_int, eqP_str, eq_nil_nil, eq_lay, eq_row, eq_rns, add_rns, perm10, idx_t, idx_l, idx_pl0, idx_pl1, idx_lp0, idx_lp1, idx_rw0, kob_0, kob_1, kput_0, kput_1, sli_t, sli_l, rev_t, rev_l, items_t, items_l, seq_t, seq_l, bools_nil, bools_cons, compL, consO, List.all_cons, List.all_nil, List.any_cons, List.any_nil, id_eq, Bool.and_true, Bool.true_and, Bool.and_self, finD_rt, finD_nx, ix3_0, ix3_1, ix3_2, ne_eq, not_false_eq_true, not_true_eq_false, Int.reduceEq, Int.reduceLT, Int.reduceLE, decide_true, decide_false, List.set_set, show decide (((3 : Nat) : Int) = 4) = false from rfl]
      refine sat_nil ?_
      refine sat_seq ?_
      simp only [sat_okI, evS, evT, evE, evL, evAll, Out.bind_ok, Out.bind_exc, Out.bind_err, bind_assoc_, Out.nox_ok, opt_some, opt_none, optD_some, optD_none, datb_, lookO, lookF_dat, look_dat, dats_nil, dats_cons, Option.map_some, Option.map_none, asT, asTs, it_ok, it_bind, dfl, List.map_nil, List.map_cons, List.append_nil, List.nil_append, List.cons_append, List.replicate_zero, List.replicate_succ, Nat.sub_self, List.getElem?_cons_zero, List.getElem?_cons_succ, List.set_cons_zero, List.set_cons_succ, List.length_cons, List.length_nil, at_0, at_1, at_2, at_3, isTy, bind_nm, bind_tp, bpts_nil, bpts_cons, retOf, isNon, partO, cond_t, cond_f, if_true, if_false, Bool.false_eq_true, reduceIte, reduceCtorEq, wipeE, Nat.reduceAdd, Nat.reduceSub, Nat.reduceLT, Nat.reduceLeDiff, Nat.lt_add_one, Nat.zero_add, Int.reduceNeg, Bool.not_true, Bool.not_false, bf_len_t, bf_len_l, bf_abs, bf_min2, bf_max2, bf_int_b, bf_repr, bf_list_l, bf_list_t, bf_tuple_l, bf_tuple_t, bf_all, bf_any, bf_sum, bf_isi, bin_add, bin_sub, bin_mul, bin_fdv, bin_mod, bin_p18, bin_p12, bin_add_t, bin_add_l, bin_add_s, bin_mul_t, cmpP_eq, eqO_s, cmpP_ne, cmpP_lt, cmpP_le, cmpP_gt, cmpP_ge, cmpP_in, cmpP_nin, eqP_int, eqP_str, eq_nil_nil, eq_lay, eq_row, eq_rns, add_rns, perm10, idx_t, idx_l, idx_pl0, idx_pl1, idx_lp0, idx_lp1, idx_rw0, kob_0, kob_1, kput_0, kput_1, sli_t, sli_l, rev_t, rev_l, items_t, items_l, seq_t, seq_l, bools_nil, bools_cons, compL, consO, List.all_cons, List.all_nil, List.any_cons, List.any_nil, id_eq, Bool.and_true, Bool.true_and, Bool.and_self, finD_rt, finD_nx, ix3_0, ix3_1, ix3_2, ne_eq, not_false_eq_true, not_true_eq_false, Int.reduceEq, Int.reduceLT, Int.reduceLE, decide_true, decide_false, List.set_set, pl, z2, M7.at_, zz]
      exact sat_nil ⟨_, rfl, _, _, _, _, rfl, M7.add (by omega) h0 hf ne b⟩
    · simp only [sat_okI, evS, evT, evE, evL, evAll, Out.bind_ok, Out.bind_exc, Out.bind_err, bind_assoc_, Out.nox_ok, opt_some, opt_none, optD_some, optD_none, datb_, lookO, lookF_dat, look_dat, dats_nil, dats_cons, Option.map_some, Option.map_none, asT, asTs, it_ok, it_bind, dfl, List.map_nil, List.map_cons, List.append_nil, List.nil_append, List.cons_append, List.replicate_zero, List.replicate_succ, Nat.sub_self, List.getElem?_cons_zero, List.getElem?_cons_succ, List.set_cons_zero, List.set_cons_succ, List.length_cons, List.length_nil, at_0, at_1, at_2, at_3, isTy, bind_nm, bind_tp, bpts_nil, bpts_cons, retOf, isNon, partO, cond_t, cond_f, if_true, if_false, Bool.false_eq_true, reduceIte, reduceCtorEq, wipeE, Nat.reduceAdd, Nat.reduceSub, Nat.reduceLT, Nat.reduceLeDiff, Nat.lt_add_one, Nat.zero_add, Int.reduceNeg, Bool.not_true, Bool.not_false, bf_len_t, bf_len_l, bf_abs, bf_min2, bf_max2, bf_int_b, bf_repr, bf_list_l, bf_list_t, bf_tuple_l, bf_tuple_t, bf_all, bf_any, bf_sum, bf_isi, bin_add, bin_sub, bin_mul, bin_fdv, bin_mod, bin_p18, bin_p12, bin_add_t, bin_add_l, bin_add_s, bin_mul_t, cmpP_eq, eqO_s, cmpP_ne, cmpP_lt, cmpP_le, cmpP_gt, cmpP_ge, cmpP_in, cmpP_nin, eqP_int, eqP_str, eq_nil_nil, eq_lay, eq_row, eq_rns, add_rns, perm10, idx_t, idx_l, idx_pl0, idx_pl1, idx_lp0, idx_lp1, idx_rw0, kob_0, kob_1, kput_0, kput_1, sli_t, sli_l, rev_t, rev_l, items_t, items_l, seq_t, seq_l, bools_nil, bools_cons, compL, consO, List.all_cons, List.all_nil, List.any_cons, List.any_nil, id_eq, Bool.and_true, Bool.true_and, Bool.and_self, finD_rt, finD_nx, ix3_0, ix3_1, ix3_2, ne_eq, not_false_eq_true, not_true_eq_false, Int.reduceEq, Int.reduceLT, Int.reduceLE, decide_true, decide_false, List.set_set, decide_eq_false t0]
      refine sat_nil ?_
      refine sat_seq ?_
      simp only [sat_okI, evS, evT, evE, evL, evAll, Out.bind_ok, Out.bind_exc, Out.bind_err, bind_assoc_, Out.nox_ok, opt_some, opt_none, optD_some, optD_none, datb_, lookO, lookF_dat, look_dat, dats_nil, dats_cons, Option.map_some, Option.map_none, asT, asTs, it_ok, it_bind, dfl, List.map_nil, List.map_cons, List.append_nil, List.nil_append, List.cons_append, List.replicate_zero, List.replicate_succ, Nat.sub_self, List.getElem?_cons_zero, List.getElem?_cons_succ, List.set_cons_zero, List.set_cons_succ, List.length_cons, List.length_nil, at_0, at_1, at_2, at_3, isTy, bind_nm, bind_tp, bpts_nil, bpts_cons, retOf, isNon, partO, cond_t, cond_f, if_true, if_false, Bool.false_eq_true, reduceIte, reduceCtorEq, wipeE, Nat.reduceAdd, Nat.reduceSub, Nat.reduceLT, Nat.reduceLeDiff, Nat.lt_add_one, Nat.zero_add, Int.reduceNeg, Bool.not_true, Bool.not_false, bf_len_t, bf_len_l, bf_abs, bf_min2, bf_max2, bf_int_b, bf_repr, bf_list_l, bf_list_t, bf_tuple_l, bf_tuple_t, bf_all, bf_any, bf_sum, bf_isi, bin_add, bin_sub, bin_mul, bin_fdv, bin_mod, bin_p18, bin_p12, bin_add_t, bin_add_l, bin_add_s, bin_mul_t, cmpP_eq, eqO_s, cmpP_ne, cmpP_lt, cmpP_le, cmpP_gt, cmpP_ge, cmpP_in, cmpP_nin, eqP_int, eqP_str, eq_nil_nil, eq_lay, eq_row, eq_rns, add_rns, perm10, idx_t, idx_l, idx_pl0, idx_pl1, idx_lp0, idx_lp1, idx_rw0, kob_0, kob_1, kput_0, kput_1, sli_t, sli_l, rev_t, rev_l, items_t, items_l, seq_t, seq_l, bools_nil, bools_cons, compL, consO, List.all_cons, List.all_nil, List.any_cons, List.any_nil, id_eq, Bool.and_true, Bool.true_and, Bool.and_self, finD_rt, finD_nx, ix3_0, ix3_1, ix3_2, ne_eq, not_false_eq_true, not_true_eq_false, Int.reduceEq, Int.reduceLT, Int.reduceLE, decide_true, decide_false, List.set_set, show decide (((3 : Nat) : Int) = 4) = false from rfl]
      refine sat_nil ?_
      refine sat_seq ?_
      simp only [sat_okI, evS, evT, evE, evL, evAll, Out.bind_ok, Out.bind_exc, Out.bind_err, bind_assoc_, Out.nox_ok, opt_some, opt_none, optD_some, optD_none, datb_, lookO, lookF_dat, look_dat, dats_nil, dats_cons, Option.map_some, Option.map_none, asT, asTs, it_ok, it_bind, dfl, List.map_nil, List.map_cons, List.append_nil, List.nil_append, List.cons_append, List.replicate_zero, List.replicate_succ, Nat.sub_self, List.getElem?_cons_zero, List.getElem?_cons_succ, List.set_cons_zero, List.set_cons_succ, List.length_cons, List.length_nil, at_0, at_1, at_2, at_3, isTy, bind_nm, bind_tp, bpts_nil, bpts_cons, retOf, isNon, partO, cond_t, cond_f, if_true, if_false, Bool.false_eq_true, reduceIte, reduceCtorEq, wipeE, Nat.reduceAdd, Nat.reduceSub, Nat.reduceLT, Nat.reduceLeDiff, Nat.lt_add_one, Nat.zero_add, Int.reduceNeg, Bool.not_true, Bool.not_false, bf_len_t, bf_len_l, bf_abs, bf_min2, bf_max2, bf_int_b, bf_repr, bf_list_l, bf_list_t, bf_tuple_l, bf_tuple_t, bf_all, bf_any, bf_sum, bf_isi, bin_add, bin_sub, bin_mul, bin_fdv, bin_mod, bin_p18, bin_p12, bin_add_t, bin_add_l, bin_add_s, bin_mul_t, cmpP_eq, eqO_s, cmpP_ne, cmpP_lt, cmpP_le, cmpP_gt, cmpP_ge, cmpP_in, cmpP_nin, eqP_int, eqP_str, eq_nil_nil, eq_lay, eq_row, eq_rns, add_rns, perm10, idx_t, idx_l, idx_pl0, idx_pl1, idx_lp0, idx_lp1, idx_rw0, kob_0, kob_1, kput_0, kput_1, sli_t, sli_l, rev_t, rev_l, items_t, items_l, seq_t, seq_l, bools_nil, bools_cons, compL, consO, List.all_cons, List.all_nil, List.any_cons, List.any_nil, id_eq, Bool.and_true, Bool.true_and, Bool.and_self, finD_rt, finD_nx, ix3_0, ix3_1, ix3_2, ne_eq, not_false_eq_true, not_true_eq_false, Int.reduceEq, Int.reduceLT, Int.reduceLE, decide_true, decide_false, List.set_set, pl, z2, M7.at_, zz]
      exact sat_nil ⟨_, rfl, _, _, _, _, rfl, M7.add (by omega) h0 hf ne p⟩
  have e3 : decide ((so : Int) = 3) = false := decide_eq_false (by omega)
  simp only [sat_okI, evS, evT, evE, evL, evAll, Out.bind_ok, Out.bind_exc, Out.bind_err, bind_assoc_, Out.nox_ok, opt_some, opt_none, optD_some, optD_none, datb_, lookO, lookF_dat, look_dat, dats_nil, dats_cons, Option.map_some, Option.map_none, asT, asTs, it_ok, it_bind, dfl, List.map_nil, List.map_cons, List.append_nil, List.nil_append, List.cons_append, List.replicate_zero, List.replicate_succ, Nat.sub_self, List.getElem?_cons_zero, List.getElem?_cons_succ, List.set_cons_zero, List.set_cons_succ, List.length_cons, List.length_nil, at_0, at_1, at_2, at_3, isTy, bind_nm, bind_tp, bpts_nil, bpts_cons, retOf, isNon, partO, cond_t, cond_f, if_true, if_false, Bool.false_eq_true, reduceIte, reduceCtorEq, wipeE, Nat.reduceAdd, Nat.reduceSub, Nat.reduceLT, Nat.reduceLeDiff, Nat.lt_add_one, Nat.zero_add, Int.reduceNeg, Bool.not_true, Bool.not_false, bf_len_t, bf_len_l, bf_abs, bf_min2, bf_max2, bf_int_b, bf_repr, bf_list_l, bf_list_t, bf_tuple_l, bf_tuple_t, bf_all, bf_any, bf_sum, bf_isi, bin_add, bin_sub, bin_mul, bin_fdv, bin_mod, bin_p18, bin_p12, bin_add_t, bin_add_l, bin_add_s, bin_mul_t, cmpP_eq, eqO_s, cmpP_ne, cmpP_lt, cmpP_le, cmpP_gt, cmpP_ge, cmpP_in, cmpP_nin, eqP_int, eqP_str, eq_nil_nil, eq_lay, eq_row, eq_rns, add_rns, perm10, idx_t, idx_l, idx_pl0, idx_pl1, idx_lp0, idx_lp1, idx_rw0, kob_0, kob_1, kput_0, kput_1, sli_t, sli_l, rev_t, rev_l, items_t, items_l, seq_t, seq_l, bools_nil, bools_cons, compL, consO, List.all_cons, List.all_nil, List.any_cons, List.any_nil, id_eq, Bool.and_true, Bool.true_and, Bool.and_self, finD_rt, finD_nx, ix3_0, ix3_1, ix3_2, ne_eq, not_false_eq_true, not_true_eq_false, Int.reduceEq, Int.reduceLT, Int.reduceLE, decide_true, decide_false, List.set_set, e3]
  refine sat_nil ?_
  refine sat_seq ?_
  by_cases s4 : so = 4
  · subst s4
    simp only [sat_okI, evS, evT, evE, evL, evAll, Out.bind_ok, Out.bind_exc, Out.bind_err, bind_assoc_, Out.nox_ok, opt_some, opt_none, optD_some, optD_none, datb_, lookO, lookF_dat, look_dat, dats_nil, dats_cons, Option.map_some, Option.map_none, asT, asTs, it_ok, it_bind, dfl, List.map_nil, List.map_cons, List.append_nil, List.nil_append, List.cons_append, List.replicate_zero, List.replicate_succ, Nat.sub_self, List.getElem?_cons_zero, List.getElem?_cons_succ, List.set_cons_zero, List.set_cons_succ, List.length_cons, List.length_nil, at_0, at_1, at_2, at_3, isTy, bind_nm, bind_tp, bpts_nil, bpts_cons, retOf, isNon, partO, cond_t, cond_f, if_true, if_false, Bool.false_eq_true, reduceIte, reduceCtorEq, wipeE, Nat.reduceAdd, Nat.reduceSub, Nat.reduceLT, Nat.reduceLeDiff, Nat.lt_add_one, Nat.zero_add, Int.reduceNeg, Bool.not_true, Bool.not_false, bf_len_t, bf_len_l, bf_abs, bf_min2, bf_max2, bf_int_b, bf_repr, bf_list_l, bf_list_t, bf_tuple_l, bf_tuple_t, bf_all, bf_any, bf_sum, bf_isi, bin_add, bin_sub, bin_mul, bin_fdv, bin_mod, bin_p18, bin_p12, bin_add_t, bin_add_l, bin_add_s, bin_mul_t, cmpP_eq, eqO_s, cmpP_ne, cmpP_lt, cmpP_le, cmpP_gt, cmpP_ge, cmpP_in, cmpP_nin, eqP_int, eqP_str, eq_nil_nil, eq_lay, eq_row, eq_rns, add_rns, perm10, idx_t, idx_l, idx_pl0, idx_pl1, idx_lp0, idx_lp1, idx_rw0, kob_0, kob_1, kput_0, kput_1, sli_t, sli_l, rev_t, rev_l, items_t, items_l, seq_t, seq_l, bools_nil, bools_cons, compL, consO, List.all_cons, List.all_nil, List.any_cons, List.any_nil, id_eq, Bool.and_true, Bool.true_and, Bool.and_self, finD_rt, finD_nx, ix3_0, ix3_1, ix3_2, ne_eq, not_false_eq_true, not_true_eq_false, Int.reduceEq, Int.reduceLT, Int.reduceLE, decide_true, decide_false, List.set_set, show decide (((4 : Nat) : Int) = 4) = true from rfl]
    refine sat_seq ?_
    simp only [sat_okI, evS, evT, evE, evL, evAll, Out.bind_ok, Out.bind_exc, Out.bind_err, bind_assoc_, Out.nox_ok, opt_some, opt_none, optD_some, optD_none, datb_, lookO, lookF_dat, look_dat, dats_nil, dats_cons, Option.map_some, Option.map_none, asT, asTs, it_ok, it_bind, dfl, List.map_nil, List.map_cons, List.append_nil, List.nil_append, List.cons_append, List.replicate_zero, List.replicate_succ, Nat.sub_self, List.getElem?_cons_zero, List.getElem?_cons_succ, List.set_cons_zero, List.set_cons_succ, List.length_cons, List.length_nil, at_0, at_1, at_2, at_3, isTy, bind_nm, bind_tp, bpts_nil, bpts_cons, retOf, isNon, partO, cond_t, cond_f, if_true, if_false, Bool.false_eq_true, reduceIte, reduceCtorEq, wipeE, Nat.reduceAdd, Nat.reduceSub, Nat.reduceLT, Nat.reduceLeDiff, Nat.lt_add_one, Nat.zero_add, Int.reduceNeg, Bool.not_true, Bool.not_false, bf_len_t, bf_len_l, bf_abs, bf_min2, bf_max2, bf_int_b, bf_repr, bf_list_l, bf_list_t, bf_tuple_l, bf_tuple_t, bf_all, bf_any, bf_sum, bf_isi, bin_add, bin_sub, bin_mul, bin_fdv, bin_mod, bin_p18, bin_p12, bin_add_t, bin_add_l, bin_add_s, bin_mul_t, cmpP_eq, eqO_s, cmpP_ne, cmpP_lt, cmpP_le, cmpP_gt, cmpP_ge, cmpP_in, cmpP_nin, eqP_int, eqP_str, eq_nil_nil, eq_lay, eq_row, eq_rns, add_rns, perm10, idx_t, idx_l, idx_pl0, idx_pl1, idx_lp0, idx_lp1, idx_rw0, kob_0, kob_1, kput_0, kput_1, sli_t, sli_l, rev_t, rev_l, items_t, items_l, seq_t, seq_l, bools_nil, bools_cons, compL, consO, List.all_cons, List.all_nil, List.any_cons, List.any_nil, id_eq, Bool.and_true, Bool.true_and, Bool.and_self, finD_rt, finD_nx, ix3_0, ix3_1, ix3_2, ne_eq, not_false_eq_true, not_true_eq_false, Int.reduceEq, Int.reduceLT, Int.reduceLE, decide_true, decide_false, List.set_set, pl, z2]
    refine sat_nil ?_
    refine sat_seq ?_
    simp only [sat_okI, evS, evT, evE, evL, evAll, Out.bind_ok, Out.bind_exc, Out.bind_err, bind_assoc_, Out.nox_ok, opt_some, opt_none, optD_some, optD_none, datb_, lookO, lookF_dat, look_dat, dats_nil, dats_cons, Option.map_some, Option.map_none, asT, asTs, it_ok, it_bind, dfl, List.map_nil, List.map_cons, List.append_nil, List.nil_append, List.cons_append, List.replicate_zero, List.replicate_succ, Nat.sub_self, List.getElem?_cons_zero, List.getElem?_cons_succ, List.set_cons_zero, List.set_cons_succ, List.length_cons, List.length_nil, at_0, at_1, at_2, at_3, isTy, bind_nm, bind_tp, bpts_nil, bpts_cons, retOf, isNon, partO, cond_t, cond_f, if_true, if_false, Bool.false_eq_true, reduceIte, reduceCtorEq, wipeE, Nat.reduceAdd, Nat.reduceSub, Nat.reduceLT, Nat.reduceLeDiff, Nat.lt_add_one, Nat.zero_add, Int.reduceNeg, Bool.not_true, Bool.not_false, bf_len_t, bf_len_l, bf_abs, bf_min2, bf_max2, bf_int_b, bf_repr, bf_list_l, bf_list_t, bf_tuple_l, bf_tuple_t, bf_all, bf_any, bf_sum, bf_isi, bin_add, bin_sub, bin_mul, bin_fdv, bin_mod, bin_p18, bin_p12, bin_add_t, bin_add_l, bin_add_s, bin_mul_t, cmpP_eq, eqO_s, cmpP_ne, cmpP_lt, cmpP_le, cmpP_gt, cmpP_ge, cmpP_in, cmpP_nin, eqP_int, eqP_str, eq_nil_nil, eq_lay, eq_row, eq_rns, add_rns, perm10, idx_t, idx_l, idx_pl0, idx_pl1, idx_lp0, idx_lp1, idx_rw0, kob_0, kob_1, kput_0, kput_1, sli_t, sli_l, rev_t, rev_l, items_t, items_l, seq_t, seq_l, bools_nil, bools_cons, compL, consO, List.all_cons, List.all_nil, List.any_cons, List.any_nil, id_eq, Bool.and_true, Bool.true_and, Bool.and_self, finD_rt, finD_nx, ix3_0, ix3_1, ix3_2, ne_eq, not_false_eq_true, not_true_eq_false, Int.reduceEq, Int.reduceLT, Int.reduceLE, decide_true, decide_false, List.set_set, z2, M6.at_, zz]
    exact sat_nil ⟨_, rfl, _, _, _, _, rfl, M6.add (by omega) h0 hf ne (b.1, p.2)⟩
  have e4 : decide ((so : Int) = 4) = false := decide_eq_false (by omega)
  simp only [sat_okI, evS, evT, evE, evL, evAll, Out.bind_ok, Out.bind_exc, Out.bind_err, bind_assoc_, Out.nox_ok, opt_some, opt_none, optD_some, optD_none, datb_, lookO, lookF_dat, look_dat, dats_nil, dats_cons, Option.map_some, Option.map_none, asT, asTs, it_ok, it_bind, dfl, List.map_nil, List.map_cons, List.append_nil, List.nil_append, List.cons_append, List.replicate_zero, List.replicate_succ, Nat.sub_self, List.getElem?_cons_zero, List.getElem?_cons_succ, List.set_cons_zero, List.set_cons_succ, List.length_cons, List.length_nil, at_0, at_1, at_2, at_3, isTy, bind_nm, bind_tp, bpts_nil, bpts_cons, retOf, isNon, partO, cond_t, cond_f, if_true, if_false, Bool.false_eq_true, reduceIte, reduceCtorEq, wipeE, Nat.reduceAdd, Nat.reduceSub, Nat.reduceLT, Nat.reduceLeDiff, Nat.lt_add_one, Nat.zero_add, Int.reduceNeg, Bool.not_true, Bool.not_false, bf_len_t, bf_len_l, bf_abs, bf_min2, bf_max2, bf_int_b, bf_repr, bf_list_l, bf_list_t, bf_tuple_l, bf_tuple_t, bf_all, bf_any, bf_sum, bf_isi, bin_add, bin_sub, bin_mul, bin_fdv, bin_mod, bin_p18, bin_p12, bin_add_t, bin_add_l, bin_add_s, bin_mul_t, cmpP_eq, eqO_s, cmpP_ne, cmpP_lt, cmpP_le, cmpP_gt, cmpP_ge, cmpP_in, cmpP_nin, eqP_int, eqP_str, eq_nil_nil, eq_lay, eq_row, eq_rns, add_rns, perm10, idx_t, idx_l, idx_pl0, idx_pl1, idx_lp0, idx_lp1, idx_rw0, kob_0, kob_1, kput_0, kput_1, sli_t, sli_l, rev_t, rev_l, items_t, items_l, seq_t, seq_l, bools_nil, bools_cons, compL, consO, List.all_cons, List.all_nil, List.any_cons, List.any_nil, id_eq, Bool.and_true, Bool.true_and, Bool.and_self, finD_rt, finD_nx, ix3_0, ix3_1, ix3_2, ne_eq, not_false_eq_true, not_true_eq_false, Int.reduceEq, Int.reduceLT, Int.reduceLE, decide_true, decide_false, List.set_set, e4]
  refine sat_nil ?_
  refine sat_seq ?_
  simp only [sat_okI, evS, evT, evE, evL, evAll, Out.bind_ok, Out.bind_exc, Out.bind_err, bind_assoc_, Out.nox_ok, opt_some, opt_none, optD_some, optD_none, datb_, lookO, lookF_dat, look_dat, dats_nil, dats_cons, Option.map_some, Option.map_none, asT, asTs, it_ok, it_bind, dfl, List.map_nil, List.map_cons, List.append_nil, List.nil_append, List.cons_append, List.replicate_zero, List.replicate_succ, Nat.sub_self, List.getElem?_cons_zero, List.getElem?_cons_succ, List.set_cons_zero, List.set_cons_succ, List.length_cons, List.length_nil, at_0, at_1, at_2, at_3, isTy, bind_nm, bind_tp, bpts_nil, bpts_cons, retOf, isNon, partO, cond_t, cond_f, if_true, if_false, Bool.false_eq_true, reduceIte, reduceCtorEq, wipeE, Nat.reduceAdd, Nat.reduceSub, Nat.reduceLT, Nat.reduceLeDiff, Nat.lt_add_one, Nat.zero_add, Int.reduceNeg, Bool.not_true, Bool.not_false, bf_len_t, bf_len_l, bf_abs, bf_min2, bf_max2, bf_int_b, bf_repr, bf_list_l, bf_list_t, bf_tuple_l, bf_tuple_t, bf_all, bf_any, bf_sum, bf_isi, bin_add, bin_sub, bin_mul, bin_fdv, bin_mod, bin_p18, bin_p12, bin_add_t, bin_add_l, bin_add_s, bin_mul_t, cmpP_eq, eqO_s, cmpP_ne, cmpP_lt, cmpP_le, cmpP_gt, cmpP_ge, cmpP_in, cmpP_nin, eqP_int, eqP_str, eq_nil_nil, eq_lay, eq_row, eq_rns, add_rns, perm10, idx_t, idx_l, idx_pl0, idx_pl1, idx_lp0, idx_lp1, idx_rw0, kob_0, kob_1, kput_0, kput_1, sli_t, sli_l, rev_t, rev_l, items_t, items_l, seq_t, seq_l, bools_nil, bools_cons, compL, consO, List.all_cons, List.all_nil, List.any_cons, List.any_nil, id_eq, Bool.and_true, Bool.true_and, Bool.and_self, finD_rt, finD_nx, ix3_0, ix3_1, ix3_2, ne_eq, not_false_eq_true, not_true_eq_false, Int.reduceEq, Int.reduceLT, Int.reduceLE, decide_true, decide_false, List.set_set, pl, z2, M6.at_, zz]
  exact sat_nil ⟨_, rfl, _, _, _, _, rfl, M6.add (by omega) h0 hf ne p⟩
theorem s_law_lay {k n l : Nat} {most far : Int} {S : Store} (h : Pen n l S) (hn : n ≤ 2 ^ 90) (h0 : 0 ≤ far) (h1 : far ≤ 1000) (m0 : 1 ≤ most) (m1 : most ≤ 100) :
    (callN PP W (k + 3) 10 [.ref l, .dat (.int most), .dat (.int far)] S).sat fun v S' => (∃ L, v = Val.dat (lay L) ∧ 1 ≤ L.length ∧ (L.length : Int) ≤ most ∧ ∀ p, p ∈ L → Spn far p) ∧ Pen (n + 2000) l S' ∧ Fr l S S' := by
  refine call_pen P_10 rfl h.lt ?_
  have d4 : divOk 4 = true := by decide
  have z0 : (0 : Nat) ≤ sizeLine := Nat.zero_le _
  have z1 : (1 : Nat) ≤ sizeLine := by rw [sizeLine_eq]; omega
  have z2 : (2 : Nat) ≤ sizeLine := by rw [sizeLine_eq]; omega
  have z4 : (4 : Nat) ≤ sizeLine := by rw [sizeLine_eq]; omega
  simp only [d_10, b_10, sat_okI, evS, evT, evE, evL, evAll, Out.bind_ok, Out.bind_exc, Out.bind_err, bind_assoc_, Out.nox_ok, opt_some, opt_none, optD_some, optD_none, datb_, lookO, lookF_dat, look_dat, dats_nil, dats_cons, Option.map_some, Option.map_none, asT, asTs, it_ok, it_bind, dfl, List.map_nil, List.map_cons, List.append_nil, List.nil_append, List.cons_append, List.replicate_zero, List.replicate_succ, Nat.sub_self, List.getElem?_cons_zero, List.getElem?_cons_succ, List.set_cons_zero, List.set_cons_succ, List.length_cons, List.length_nil, at_0, at_1, at_2, at_3, isTy, bind_nm, bind_tp, bpts_nil, bpts_cons, retOf, isNon, partO, cond_t, cond_f, if_true, if_false, Bool.false_eq_true, reduceIte, reduceCtorEq, wipeE, Nat.reduceAdd, Nat.reduceSub, Nat.reduceLT, Nat.reduceLeDiff, Nat.lt_add_one, Nat.zero_add, Int.reduceNeg, Bool.not_true, Bool.not_false, bf_len_t, bf_len_l, bf_abs, bf_min2, bf_max2, bf_int_b, bf_repr, bf_list_l, bf_list_t, bf_tuple_l, bf_tuple_t, bf_all, bf_any, bf_sum, bf_isi, bin_add, bin_sub, bin_mul, bin_fdv, bin_mod, bin_p18, bin_p12, bin_add_t, bin_add_l, bin_add_s, bin_mul_t, cmpP_eq, eqO_s, cmpP_ne, cmpP_lt, cmpP_le, cmpP_gt, cmpP_ge, cmpP_in, cmpP_nin, eqP_int, eqP_str, eq_nil_nil, eq_lay, eq_row, eq_rns, add_rns, perm10, idx_t, idx_l, idx_pl0, idx_pl1, idx_lp0, idx_lp1, idx_rw0, kob_0, kob_1, kput_0, kput_1, sli_t, sli_l, rev_t, rev_l, items_t, items_l, seq_t, seq_l, bools_nil, bools_cons, compL, consO, List.all_cons, List.all_nil, List.any_cons, List.any_nil, id_eq, Bool.and_true, Bool.true_and, Bool.and_self, finD_rt, finD_nx, ix3_0, ix3_1, ix3_2, ne_eq, not_false_eq_true, not_true_eq_false, Int.reduceEq, Int.reduceLT, Int.reduceLE, decide_true, decide_false, List.set_set]
  refine sat_seq ?_
  simp only [sat_okI, evS, evT, evE, evL, evAll, Out.bind_ok, Out.bind_exc, Out.bind_err, bind_assoc_, Out.nox_ok, opt_some, opt_none, optD_some, optD_none, datb_, lookO, lookF_dat, look_dat, dats_nil, dats_cons, Option.map_some, Option.map_none, asT, asTs, it_ok, it_bind, dfl, List.map_nil, List.map_cons, List.append_nil, List.nil_append, List.cons_append, List.replicate_zero, List.replicate_succ, Nat.sub_self, List.getElem?_cons_zero, List.getElem?_cons_succ, List.set_cons_zero, List.set_cons_succ, List.length_cons, List.length_nil, at_0, at_1, at_2, at_3, isTy, bind_nm, bind_tp, bpts_nil, bpts_cons, retOf, isNon, partO, cond_t, cond_f, if_true, if_false, Bool.false_eq_true, reduceIte, reduceCtorEq, wipeE, Nat.reduceAdd, Nat.reduceSub, Nat.reduceLT, Nat.reduceLeDiff, Nat.lt_add_one, Nat.zero_add, Int.reduceNeg, Bool.not_true, Bool.not_false, bf_len_t, bf_len_l, bf_abs, bf_min2, bf_max2, bf_int_b, bf_repr, bf_list_l, bf_list_t, bf_tuple_l, bf_tuple_t, bf_all, bf_any, bf_sum, bf_isi, bin_add, bin_sub, bin_mul, bin_fdv, bin_mod, bin_p18, bin_p12, bin_add_t, bin_add_l, bin_add_s, bin_mul_t, cmpP_eq, eqO_s, cmpP_ne, cmpP_lt, cmpP_le, cmpP_gt, cmpP_ge, cmpP_in, cmpP_nin, eqP_int, eqP_str, eq_nil_nil, eq_lay, eq_row, eq_rns, add_rns, perm10, idx_t, idx_l, idx_pl0, idx_pl1, idx_lp0, idx_lp1, idx_rw0, kob_0, kob_1, kput_0, kput_1, sli_t, sli_l, rev_t, rev_l, items_t, items_l, seq_t, seq_l, bools_nil, bools_cons, compL, consO, List.all_cons, List.all_nil, List.any_cons, List.any_nil, id_eq, Bool.and_true, Bool.true_and, Bool.and_self, finD_rt, finD_nx, ix3_0, ix3_1, ix3_2, ne_eq, not_false_eq_true, not_true_eq_false, Int.reduceEq, Int.reduceLT, Int.reduceLE, decide_true, decide_false, List.set_set]
  refine sat_then (s_draw h (by omega) (by omega) (by omega)) ?_
  rintro v S1 ⟨⟨r1, rfl, hr1⟩, P1, F1⟩
  try simp only [sat_okI, evS, evT, evE, evL, evAll, Out.bind_ok, Out.bind_exc, Out.bind_err, bind_assoc_, Out.nox_ok, opt_some, opt_none, optD_some, optD_none, datb_, lookO, lookF_dat, look_dat, dats_nil, dats_cons, Option.map_some, Option.map_none, asT, asTs, it_ok, it_bind, dfl, List.map_nil, List.map_cons, List.append_nil, List.nil_append, List.cons_append, List.replicate_zero, List.replicate_succ, Nat.sub_self, List.getElem?_cons_zero, List.getElem?_cons_succ, List.set_cons_zero, List.set_cons_succ, List.length_cons, List.length_nil, at_0, at_1, at_2, at_3, isTy, bind_nm, bind_tp, bpts_nil, bpts_cons, retOf, isNon, partO, cond_t, cond_f, if_true, if_false, Bool.false_eq_true, reduceIte, reduceCtorEq, wipeE, Nat.reduceAdd, Nat.reduceSub, Nat.reduceLT, Nat.reduceLeDiff, Nat.lt_add_one, Nat.zero_add, Int.reduceNeg, Bool.not_true, Bool.not_false, bf_len_t, bf_len_l, bf_abs, bf_min2, bf_max2, bf_int_b, bf_repr, bf_list_l, bf_list_t, bf_tuple_l, bf_tuple_t, bf_all, bf_any, bf_sum, bf_isi, bin_add, bin_sub, bin_mul, bin_fdv, bin_mod, bin_p18, bin_p12, bin_add_t, bin_add_l, bin_add_s, bin_mul_t, cmpP_eq, eqO_s, cmpP_ne, cmpP_lt, cmpP_le, cmpP_gt, cmpP_ge, cmpP_in, cmpP_nin, eqP_int, eqP_str, eq_nil_nil, eq_lay, eq_row, eq_rns, add_rns, perm10, idx_t, idx_l, idx_pl0, idx_pl1, idx_lp0, idx_lp1, idx_rw0, kob_0, kob_1, kput_0, kput_1, sli_t, sli_l, rev_t, rev_l, items_t, items_l, seq_t, seq_l, bools_nil, bools_cons, compL, consO, List.all_cons, List.all_nil, List.any_cons, List.any_nil, id_eq, Bool.and_true, Bool.true_and, Bool.and_self, finD_rt, finD_nx, ix3_0, ix3_1, ix3_2, ne_eq, not_false_eq_true, not_true_eq_false, Int.reduceEq, Int.reduceLT, Int.reduceLE, decide_true, decide_false, List.set_set]
  refine sat_then (s_draw P1 (by omega) (by omega) (by omega)) ?_
  rintro v S2 ⟨⟨so, rfl, hso⟩, P2, F2⟩
  try simp only [sat_okI, evS, evT, evE, evL, evAll, Out.bind_ok, Out.bind_exc, Out.bind_err, bind_assoc_, Out.nox_ok, opt_some, opt_none, optD_some, optD_none, datb_, lookO, lookF_dat, look_dat, dats_nil, dats_cons, Option.map_some, Option.map_none, asT, asTs, it_ok, it_bind, dfl, List.map_nil, List.map_cons, List.append_nil, List.nil_append, List.cons_append, List.replicate_zero, List.replicate_succ, Nat.sub_self, List.getElem?_cons_zero, List.getElem?_cons_succ, List.set_cons_zero, List.set_cons_succ, List.length_cons, List.length_nil, at_0, at_1, at_2, at_3, isTy, bind_nm, bind_tp, bpts_nil, bpts_cons, retOf, isNon, partO, cond_t, cond_f, if_true, if_false, Bool.false_eq_true, reduceIte, reduceCtorEq, wipeE, Nat.reduceAdd, Nat.reduceSub, Nat.reduceLT, Nat.reduceLeDiff, Nat.lt_add_one, Nat.zero_add, Int.reduceNeg, Bool.not_true, Bool.not_false, bf_len_t, bf_len_l, bf_abs, bf_min2, bf_max2, bf_int_b, bf_repr, bf_list_l, bf_list_t, bf_tuple_l, bf_tuple_t, bf_all, bf_any, bf_sum, bf_isi, bin_add, bin_sub, bin_mul, bin_fdv, bin_mod, bin_p18, bin_p12, bin_add_t, bin_add_l, bin_add_s, bin_mul_t, cmpP_eq, eqO_s, cmpP_ne, cmpP_lt, cmpP_le, cmpP_gt, cmpP_ge, cmpP_in, cmpP_nin, eqP_int, eqP_str, eq_nil_nil, eq_lay, eq_row, eq_rns, add_rns, perm10, idx_t, idx_l, idx_pl0, idx_pl1, idx_lp0, idx_lp1, idx_rw0, kob_0, kob_1, kput_0, kput_1, sli_t, sli_l, rev_t, rev_l, items_t, items_l, seq_t, seq_l, bools_nil, bools_cons, compL, consO, List.all_cons, List.all_nil, List.any_cons, List.any_nil, id_eq, Bool.and_true, Bool.true_and, Bool.and_self, finD_rt, finD_nx, ix3_0, ix3_1, ix3_2, ne_eq, not_false_eq_true, not_true_eq_false, Int.reduceEq, Int.reduceLT, Int.reduceLE, decide_true, decide_false, List.set_set]
  refine sat_seq ?_
  simp only [sat_okI, evS, evT, evE, evL, evAll, Out.bind_ok, Out.bind_exc, Out.bind_err, bind_assoc_, Out.nox_ok, opt_some, opt_none, optD_some, optD_none, datb_, lookO, lookF_dat, look_dat, dats_nil, dats_cons, Option.map_some, Option.map_none, asT, asTs, it_ok, it_bind, dfl, List.map_nil, List.map_cons, List.append_nil, List.nil_append, List.cons_append, List.replicate_zero, List.replicate_succ, Nat.sub_self, List.getElem?_cons_zero, List.getElem?_cons_succ, List.set_cons_zero, List.set_cons_succ, List.length_cons, List.length_nil, at_0, at_1, at_2, at_3, isTy, bind_nm, bind_tp, bpts_nil, bpts_cons, retOf, isNon, partO, cond_t, cond_f, if_true, if_false, Bool.false_eq_true, reduceIte, reduceCtorEq, wipeE, Nat.reduceAdd, Nat.reduceSub, Nat.reduceLT, Nat.reduceLeDiff, Nat.lt_add_one, Nat.zero_add, Int.reduceNeg, Bool.not_true, Bool.not_false, bf_len_t, bf_len_l, bf_abs, bf_min2, bf_max2, bf_int_b, bf_repr, bf_list_l, bf_list_t, bf_tuple_l, bf_tuple_t, bf_all, bf_any, bf_sum, bf_isi, bin_add, bin_sub, bin_mul, bin_fdv, bin_mod, bin_p18, bin_p12, bin_add_t, bin_add_l, bin_add_s, bin_mul_t, cmpP_eq, eqO_s, cmpP_ne, cmpP_lt, cmpP_le, cmpP_gt, cmpP_ge, cmpP_in, cmpP_nin, eqP_int, eqP_str, eq_nil_nil, eq_lay, eq_row, eq_rns, add_rns, perm10, idx_t, idx_l, idx_pl0, idx_pl1, idx_lp0, idx_lp1, idx_rw0, kob_0, kob_1, kput_0, kput_1, sli_t, sli_l, rev_t, rev_l, items_t, items_l, seq_t, seq_l, bools_nil, bools_cons, compL, consO, List.all_cons, List.all_nil, List.any_cons, List.any_nil, id_eq, Bool.and_true, Bool.true_and, Bool.and_self, finD_rt, finD_nx, ix3_0, ix3_1, ix3_2, ne_eq, not_false_eq_true, not_true_eq_false, Int.reduceEq, Int.reduceLT, Int.reduceLE, decide_true, decide_false, List.set_set]
  refine sat_then (s_spot P2 (by omega) h0 (by omega)) ?_
  rintro v S3 ⟨⟨b, rfl, hb⟩, P3, F3⟩
  try simp only [sat_okI, evS, evT, evE, evL, evAll, Out.bind_ok, Out.bind_exc, Out.bind_err, bind_assoc_, Out.nox_ok, opt_some, opt_none, optD_some, optD_none, datb_, lookO, lookF_dat, look_dat, dats_nil, dats_cons, Option.map_some, Option.map_none, asT, asTs, it_ok, it_bind, dfl, List.map_nil, List.map_cons, List.append_nil, List.nil_append, List.cons_append, List.replicate_zero, List.replicate_succ, Nat.sub_self, List.getElem?_cons_zero, List.getElem?_cons_succ, List.set_cons_zero, List.set_cons_succ, List.length_cons, List.length_nil, at_0, at_1, at_2, at_3, isTy, bind_nm, bind_tp, bpts_nil, bpts_cons, retOf, isNon, partO, cond_t, cond_f, if_true, if_false, Bool.false_eq_true, reduceIte, reduceCtorEq, wipeE, Nat.reduceAdd, Nat.reduceSub, Nat.reduceLT, Nat.reduceLeDiff, Nat.lt_add_one, Nat.zero_add, Int.reduceNeg, Bool.not_true, Bool.not_false, bf_len_t, bf_len_l, bf_abs, bf_min2, bf_max2, bf_int_b, bf_repr, bf_list_l, bf_list_t, bf_tuple_l, bf_tuple_t, bf_all, bf_any, bf_sum, bf_isi, bin_add, bin_sub, bin_mul, bin_fdv, bin_mod, bin_p18, bin_p12, bin_add_t, bin_add_l, bin_add_s, bin_mul_t, cmpP_eq, eqO_s, cmpP_ne, cmpP_lt, cmpP_le, cmpP_gt, cmpP_ge, cmpP_in, cmpP_nin, eqP_int, eqP_str, eq_nil_nil, eq_lay, eq_row, eq_rns, add_rns, perm10, idx_t, idx_l, idx_pl0, idx_pl1, idx_lp0, idx_lp1, idx_rw0, kob_0, kob_1, kput_0, kput_1, sli_t, sli_l, rev_t, rev_l, items_t, items_l, seq_t, seq_l, bools_nil, bools_cons, compL, consO, List.all_cons, List.all_nil, List.any_cons, List.any_nil, id_eq, Bool.and_true, Bool.true_and, Bool.and_self, finD_rt, finD_nx, ix3_0, ix3_1, ix3_2, ne_eq, not_false_eq_true, not_true_eq_false, Int.reduceEq, Int.reduceLT, Int.reduceLE, decide_true, decide_false, List.set_set, d4, z0]
  have q1 := fd_nat (x := far) (m := 4) (by decide) (b := 10) (by omega)
  have q2 : 0 ≤ far.fdiv 4 := by
    have := Int.mul_fdiv_add_fmod far 4
    have := fm_lt (x := far) (m := 4) (by decide)
    omega
  obtain ⟨g, hg, g0, g1⟩ : ∃ g, 1 + far.fdiv 4 = g ∧ 0 ≤ g ∧ g ≤ 2 ^ 20 := ⟨_, rfl, by omega, by omega⟩
  rw [hg]
  clear hg q1 q2
  refine sat_then (s_spot P3 (by omega) g0 (by omega)) ?_
  rintro v S4 ⟨⟨st, rfl, hst⟩, P4, F4⟩
  try simp only [sat_okI, evS, evT, evE, evL, evAll, Out.bind_ok, Out.bind_exc, Out.bind_err, bind_assoc_, Out.nox_ok, opt_some, opt_none, optD_some, optD_none, datb_, lookO, lookF_dat, look_dat, dats_nil, dats_cons, Option.map_some, Option.map_none, asT, asTs, it_ok, it_bind, dfl, List.map_nil, List.map_cons, List.append_nil, List.nil_append, List.cons_append, List.replicate_zero, List.replicate_succ, Nat.sub_self, List.getElem?_cons_zero, List.getElem?_cons_succ, List.set_cons_zero, List.set_cons_succ, List.length_cons, List.length_nil, at_0, at_1, at_2, at_3, isTy, bind_nm, bind_tp, bpts_nil, bpts_cons, retOf, isNon, partO, cond_t, cond_f, if_true, if_false, Bool.false_eq_true, reduceIte, reduceCtorEq, wipeE, Nat.reduceAdd, Nat.reduceSub, Nat.reduceLT, Nat.reduceLeDiff, Nat.lt_add_one, Nat.zero_add, Int.reduceNeg, Bool.not_true, Bool.not_false, bf_len_t, bf_len_l, bf_abs, bf_min2, bf_max2, bf_int_b, bf_repr, bf_list_l, bf_list_t, bf_tuple_l, bf_tuple_t, bf_all, bf_any, bf_sum, bf_isi, bin_add, bin_sub, bin_mul, bin_fdv, bin_mod, bin_p18, bin_p12, bin_add_t, bin_add_l, bin_add_s, bin_mul_t, cmpP_eq, eqO_s, cmpP_ne, cmpP_lt, cmpP_le, cmpP_gt, cmpP_ge, cmpP_in, cmpP_nin, eqP_int, eqP_str, eq_nil_nil, eq_lay, eq_row, eq_rns, add_rns, perm10, idx_t, idx_l, idx_pl0, idx_pl1, idx_lp0, idx_lp1, idx_rw0, kob_0, kob_1, kput_0, kput_1, sli_t, sli_l, rev_t, rev_l, items_t, items_l, seq_t, seq_l, bools_nil, bools_cons, compL, consO, List.all_cons, List.all_nil, List.any_cons, List.any_nil, id_eq, Bool.and_true, Bool.true_and, Bool.and_self, finD_rt, finD_nx, ix3_0, ix3_1, ix3_2, ne_eq, not_false_eq_true, not_true_eq_false, Int.reduceEq, Int.reduceLT, Int.reduceLE, decide_true, decide_false, List.set_set]
  have F := F1.trans (F2.trans (F3.trans F4))
  have ne : S4.length ≠ l := by have := P4.lt; omega
  refine sat_seq ?_
  refine sat_for (xs := intRange 0 (1 + (r1 : Int))) (S1 := S4 ++ [Ob.lst []]) (by simp only [sat_okI, evS, evT, evE, evL, evAll, Out.bind_ok, Out.bind_exc, Out.bind_err, bind_assoc_, Out.nox_ok, opt_some, opt_none, optD_some, optD_none, datb_, lookO, lookF_dat, look_dat, dats_nil, dats_cons, Option.map_some, Option.map_none, asT, asTs, it_ok, it_bind, dfl, List.map_nil, List.map_cons, List.append_nil, List.nil_append, List.cons_append, List.replicate_zero, List.replicate_succ, Nat.sub_self, List.getElem?_cons_zero, List.getElem?_cons_succ, List.set_cons_zero, List.set_cons_succ, List.length_cons, List.length_nil, at_0, at_1, at_2, at_3, isTy, bind_nm, bind_tp, bpts_nil, bpts_cons, retOf, isNon, partO, cond_t, cond_f, if_true, if_false, Bool.false_eq_true, reduceIte, reduceCtorEq, wipeE, Nat.reduceAdd, Nat.reduceSub, Nat.reduceLT, Nat.reduceLeDiff, Nat.lt_add_one, Nat.zero_add, Int.reduceNeg, Bool.not_true, Bool.not_false, bf_len_t, bf_len_l, bf_abs, bf_min2, bf_max2, bf_int_b, bf_repr, bf_list_l, bf_list_t, bf_tuple_l, bf_tuple_t, bf_all, bf_any, bf_sum, bf_isi, bin_add, bin_sub, bin_mul, bin_fdv, bin_mod, bin_p18, bin_p12, bin_add_t, bin_add_l, bin_add_s, bin_mul_t, cmpP_eq, eqO_s, cmpP_ne, cmpP_lt, cmpP_le, cmpP_gt, cmpP_ge, cmpP_in, cmpP_nin, eqP_int, eqP_str, eq_nil_nil, eq_lay, eq_row, eq_rns, add_rns, perm10, idx_t, idx_l, idx_pl0, idx_pl1, idx_lp0, idx_lp1, idx_rw0, kob_0, kob_1, kput_0, kput_1, sli_t, sli_l, rev_t, rev_l, items_t, items_l, seq_t, seq_l, bools_nil, bools_cons, compL, consO, List.all_cons, List.all_nil, List.any_cons, List.any_nil, id_eq, Bool.and_true, Bool.true_and, Bool.and_self, finD_rt, finD_nx, ix3_0, ix3_1, ix3_2, ne_eq, not_false_eq_true, not_true_eq_false, Int.reduceEq, Int.reduceLT, Int.reduceLE, decide_true, decide_false, List.set_set, small_of (show -1000000000000 ≤ 1 + (r1 : Int) by omega) (show 1 + (r1 : Int) ≤ 1000000000000 by omega)]) ?_
  refine for_inv (fun i s S' => ∃ acc v3 v9 v10, s = [some (Val.ref l), some (Val.dat (.int most)), some (Val.dat (.int far)), v3, some (Val.dat (.int (1 + (r1 : Int)))), some (Val.dat (.int (so : Int))), some (Val.dat (pl b)), some (Val.dat (pl st)), some (Val.ref S4.length), v9, v10] ∧
    Mk1 (n + 10 + 10 * i) l S4.length far S i acc S') (intRange 0 (1 + (r1 : Int))) ⟨[], none, none, none, rfl, ⟨by simp, rfl, (fun p hp => by cases hp), P4.push.mono (by omega), F.trans Fr.push⟩⟩ ?_ ?_
  · rintro i x s S5 e ⟨acc, v3, v9, v10, rfl, M⟩
    obtain ⟨rfl, hi⟩ := rg_at e
    simp only [stepF, sat_okI, evS, evT, evE, evL, evAll, Out.bind_ok, Out.bind_exc, Out.bind_err, bind_assoc_, Out.nox_ok, opt_some, opt_none, optD_some, optD_none, datb_, lookO, lookF_dat, look_dat, dats_nil, dats_cons, Option.map_some, Option.map_none, asT, asTs, it_ok, it_bind, dfl, List.map_nil, List.map_cons, List.append_nil, List.nil_append, List.cons_append, List.replicate_zero, List.replicate_succ, Nat.sub_self, List.getElem?_cons_zero, List.getElem?_cons_succ, List.set_cons_zero, List.set_cons_succ, List.length_cons, List.length_nil, at_0, at_1, at_2, at_3, isTy, bind_nm, bind_tp, bpts_nil, bpts_cons, retOf, isNon, partO, cond_t, cond_f, if_true, if_false, Bool.false_eq_true, reduceIte, reduceCtorEq, wipeE, Nat.reduceAdd, Nat.reduceSub, Nat.reduceLT, Nat.reduceLeDiff, Nat.lt_add_one, Nat.zero_add, Int.reduceNeg, Bool.not_true, Bool.not_false, bf_len_t, bf_len_l, bf_abs, bf_min2, bf_max2, bf_int_b, bf_repr, bf_list_l, bf_list_t, bf_tuple_l, bf_tuple_t, bf_all, bf_any, bf_sum, bf_isi, bin_add, bin_sub, bin_mul, bin_fdv, bin_mod, bin_p18, bin_p12, bin_add_t, bin_add_l, bin_add_s, bin_mul_t, cmpP_eq, eqO_s, cmpP_ne, cmpP_lt, cmpP_le, cmpP_gt, cmpP_ge, cmpP_in, cmpP_nin, eqP_int, eqP_str, eq_nil_nil, eq_lay, eq_row, eq_rns, add_rns, perm10, idx_t, idx_l, idx_pl0, idx_pl1, idx_lp0, idx_lp1, idx_rw0, kob_0, kob_1, kput_0, kput_1, sli_t, sli_l, rev_t, rev_l, items_t, items_l, seq_t, seq_l, bools_nil, bools_cons, compL, consO, List.all_cons, List.all_nil, List.any_cons, List.any_nil, id_eq, Bool.and_true, Bool.true_and, Bool.and_self, finD_rt, finD_nx, ix3_0, ix3_1, ix3_2, ne_eq, not_false_eq_true, not_true_eq_false, Int.reduceEq, Int.reduceLT, Int.reduceLE, decide_true, decide_false, List.set_set]
    exact lay_step (many := 1 + (r1 : Int)) hn h0 h1 (by omega) g1 hb hst F.len ne M
  · rintro s S5 ⟨acc, v3, v9, v10, rfl, M⟩
    have ml := M.len
    rw [rg_len] at ml
    have pn := M.pen.mono (m := n + 2000) (by rw [rg_len]; omega)
    simp only [sat_okI, evS, evT, evE, evL, evAll, Out.bind_ok, Out.bind_exc, Out.bind_err, bind_assoc_, Out.nox_ok, opt_some, opt_none, optD_some, optD_none, datb_, lookO, lookF_dat, look_dat, dats_nil, dats_cons, Option.map_some, Option.map_none, asT, asTs, it_ok, it_bind, dfl, List.map_nil, List.map_cons, List.append_nil, List.nil_append, List.cons_append, List.replicate_zero, List.replicate_succ, Nat.sub_self, List.getElem?_cons_zero, List.getElem?_cons_succ, List.set_cons_zero, List.set_cons_succ, List.length_cons, List.length_nil, at_0, at_1, at_2, at_3, isTy, bind_nm, bind_tp, bpts_nil, bpts_cons, retOf, isNon, partO, cond_t, cond_f, if_true, if_false, Bool.false_eq_true, reduceIte, reduceCtorEq, wipeE, Nat.reduceAdd, Nat.reduceSub, Nat.reduceLT, Nat.reduceLeDiff, Nat.lt_add_one, Nat.zero_add, Int.reduceNeg, Bool.not_true, Bool.not_false, bf_len_t, bf_len_l, bf_abs, bf_min2, bf_max2, bf_int_b, bf_repr, bf_list_l, bf_list_t, bf_tuple_l, bf_tuple_t, bf_all, bf_any, bf_sum, bf_isi, bin_add, bin_sub, bin_mul, bin_fdv, bin_mod, bin_p18, bin_p12, bin_add_t, bin_add_l, bin_add_s, bin_mul_t, cmpP_eq, eqO_s, cmpP_ne, cmpP_lt, cmpP_le, cmpP_gt, cmpP_ge, cmpP_in, cmpP_nin, eqP_int, eqP_str, eq_nil_nil, eq_lay, eq_row, eq_rns, add_rns, perm10, idx_t, idx_l, idx_pl0, idx_pl1, idx_lp0, idx_lp1, idx_rw0, kob_0, kob_1, kput_0, kput_1, sli_t, sli_l, rev_t, rev_l, items_t, items_l, seq_t, seq_l, bools_nil, bools_cons, compL, consO, List.all_cons, List.all_nil, List.any_cons, List.any_nil, id_eq, Bool.and_true, Bool.true_and, Bool.and_self, finD_rt, finD_nx, ix3_0, ix3_1, ix3_2, ne_eq, not_false_eq_true, not_true_eq_false, Int.reduceEq, Int.reduceLT, Int.reduceLE, decide_true, decide_false, List.set_set]
    refine sat_seq ?_
    by_cases s5 : so = 5
    · subst s5
      have c5 : (-1000 ≤ 1 + (r1 : Int)) = True := eq_true (by omega)
      have c6 : (1 + (r1 : Int) ≤ 1000) = True := eq_true (by omega)
      simp only [sat_okI, evS, evT, evE, evL, evAll, Out.bind_ok, Out.bind_exc, Out.bind_err, bind_assoc_, Out.nox_ok, opt_some, opt_none, optD_some, optD_none, datb_, lookO, lookF_dat, look_dat, dats_nil, dats_cons, Option.map_some, Option.map_none, asT, asTs, it_ok, it_bind, dfl, List.map_nil, List.map_cons, List.append_nil, List.nil_append, List.cons_append, List.replicate_zero, List.replicate_succ, Nat.sub_self, List.getElem?_cons_zero, List.getElem?_cons_succ, List.set_cons_zero, List.set_cons_succ, List.length_cons, List.length_nil, at_0, at_1, at_2, at_3, isTy, bind_nm, bind_tp, bpts_nil, bpts_cons, retOf, isNon, partO, cond_t, cond_f, if_true, if_false, Bool.false_eq_true, reduceIte, reduceCtorEq, wipeE, Nat.reduceAdd, Nat.reduceSub, Nat.reduceLT, Nat.reduceLeDiff, Nat.lt_add_one, Nat.zero_add, Int.reduceNeg, Bool.not_true, Bool.not_false, bf_len_t, bf_len_l, bf_abs, bf_min2, bf_max2, bf_int_b, bf_repr, bf_list_l, bf_list_t, bf_tuple_l, bf_tuple_t, bf_all, bf_any, bf_sum, bf_isi, bin_add, bin_sub, bin_mul, bin_fdv, bin_mod, bin_p18, bin_p12, bin_add_t, bin_add_l, bin_add_s, bin_mul_t, cmpP_eq, eqO_s, cmpP_ne, cmpP_lt, cmpP_le, cmpP_gt, cmpP_ge, cmpP_in, cmpP_nin, eqP_int, eqP_str, eq_nil_nil, eq_lay, eq_row, eq_rns, add_rns, perm10, idx_t, idx_l, idx_pl0, idx_pl1, idx_lp0, idx_lp1, idx_rw0, kob_0, kob_1, kput_0, kput_1, sli_t, sli_l, rev_t, rev_l, items_t, items_l, seq_t, seq_l, bools_nil, bools_cons, compL, consO, List.all_cons, List.all_nil, List.any_cons, List.any_nil, id_eq, Bool.and_true, Bool.true_and, Bool.and_self, finD_rt, finD_nx, ix3_0, ix3_1, ix3_2, ne_eq, not_false_eq_true, not_true_eq_false, Int.reduceEq, Int.reduceLT, Int.reduceLE, decide_true, decide_false, List.set_set, show decide (((5 : Nat) : Int) = 5) = true from rfl]
      refine sat_seq ?_
      simp only [sat_okI, evS, evT, evE, evL, evAll, Out.bind_ok, Out.bind_exc, Out.bind_err, bind_assoc_, Out.nox_ok, opt_some, opt_none, optD_some, optD_none, datb_, lookO, lookF_dat, look_dat, dats_nil, dats_cons, Option.map_some, Option.map_none, asT, asTs, it_ok, it_bind, dfl, List.map_nil, List.map_cons, List.append_nil, List.nil_append, List.cons_append, List.replicate_zero, List.replicate_succ, Nat.sub_self, List.getElem?_cons_zero, List.getElem?_cons_succ, List.set_cons_zero, List.set_cons_succ, List.length_cons, List.length_nil, at_0, at_1, at_2, at_3, isTy, bind_nm, bind_tp, bpts_nil, bpts_cons, retOf, isNon, partO, cond_t, cond_f, if_true, if_false, Bool.false_eq_true, reduceIte, reduceCtorEq, wipeE, Nat.reduceAdd, Nat.reduceSub, Nat.reduceLT, Nat.reduceLeDiff, Nat.lt_add_one, Nat.zero_add, Int.reduceNeg, Bool.not_true, Bool.not_false, bf_len_t, bf_len_l, bf_abs, bf_min2, bf_max2, bf_int_b, bf_repr, bf_list_l, bf_list_t, bf_tuple_l, bf_tuple_t, bf_all, bf_any, bf_sum, bf_isi, bin_add, bin_sub, bin_mul, bin_fdv, bin_mod, bin_p18, bin_p12, bin_add_t, bin_add_l, bin_add_s, bin_mul_t, cmpP_eq, eqO_s, cmpP_ne, cmpP_lt, cmpP_le, cmpP_gt, cmpP_ge, cmpP_in, cmpP_nin, eqP_int, eqP_str, eq_nil_nil, eq_lay, eq_row, eq_rns, add_rns, perm10, idx_t, idx_l, idx_pl0, idx_pl1, idx_lp0, idx_lp1, idx_rw0, kob_0, kob_1, kput_0, kput_1, sli_t, sli_l, rev_t, rev_l, items_t, items_l, seq_t, seq_l, bools_nil, bools_cons, compL, consO, List.all_cons, List.all_nil, List.any_cons, List.any_nil, id_eq, Bool.and_true, Bool.true_and, Bool.and_self, finD_rt, finD_nx, ix3_0, ix3_1, ix3_2, ne_eq, not_false_eq_true, not_true_eq_false, Int.reduceEq, Int.reduceLT, Int.reduceLE, decide_true, decide_false, List.set_set, z1, c5, c6, and_self]
      refine ⟨⟨List.replicate (1 + (r1 : Int)).toNat b, ?_, by rw [List.length_replicate]; omega, by rw [List.length_replicate]; omega, fun p hp => by rw [(List.mem_replicate.mp hp).2]; exact hb⟩, pn, M.fr⟩
      unfold lay
      rw [List.map_replicate]
      simp
    · simp only [sat_okI, evS, evT, evE, evL, evAll, Out.bind_ok, Out.bind_exc, Out.bind_err, bind_assoc_, Out.nox_ok, opt_some, opt_none, optD_some, optD_none, datb_, lookO, lookF_dat, look_dat, dats_nil, dats_cons, Option.map_some, Option.map_none, asT, asTs, it_ok, it_bind, dfl, List.map_nil, List.map_cons, List.append_nil, List.nil_append, List.cons_append, List.replicate_zero, List.replicate_succ, Nat.sub_self, List.getElem?_cons_zero, List.getElem?_cons_succ, List.set_cons_zero, List.set_cons_succ, List.length_cons, List.length_nil, at_0, at_1, at_2, at_3, isTy, bind_nm, bind_tp, bpts_nil, bpts_cons, retOf, isNon, partO, cond_t, cond_f, if_true, if_false, Bool.false_eq_true, reduceIte, reduceCtorEq, wipeE, Nat.reduceAdd, Nat.reduceSub, Nat.reduceLT, Nat.reduceLeDiff, Nat.lt_add_one, Nat.zero_add, Int.reduceNeg, Bool.not_true, Bool.not_false, bf_len_t, bf_len_l, bf_abs, bf_min2, bf_max2, bf_int_b, bf_repr, bf_list_l, bf_list_t, bf_tuple_l, bf_tuple_t, bf_all, bf_any, bf_sum, bf_isi, bin_add, bin_sub, bin_mul, bin_fdv, bin_mod, bin_p18, bin_p12, bin_add_t, bin_add_l, bin_add_s, bin_mul_t, cmpP_eq, eqO_s, cmpP_ne, cmpP_lt, cmpP_le, cmpP_gt, cmpP_ge, cmpP_in, cmpP_nin, eqP_int, eqP_str, eq_nil_nil, eq_lay, eq_row, eq_rns, add_rns, perm10, idx_t, idx_l, idx_pl0, idx_pl1, idx_lp0, idx_lp1, idx_rw0, kob_0, kob_1, kput_0, kput_1, sli_t, sli_l, rev_t, rev_l, items_t, items_l, seq_t, seq_l, bools_nil, bools_cons, compL, consO, List.all_cons, List.all_nil, List.any_cons, List.any_nil, id_eq, Bool.and_true, Bool.true_and, Bool.and_self, finD_rt, finD_nx, ix3_0, ix3_1, ix3_2, ne_eq, not_false_eq_true, not_true_eq_false, Int.reduceEq, Int.reduceLT, Int.reduceLE, decide_true, decide_false, List.set_set, decide_eq_false (show ¬ ((so : Int) = 5) by omega)]
      refine sat_nil ?_
      refine sat_seq ?_
      simp only [sat_okI, evS, evT, evE, evL, evAll, Out.bind_ok, Out.bind_exc, Out.bind_err, bind_assoc_, Out.nox_ok, opt_some, opt_none, optD_some, optD_none, datb_, lookO, lookF_dat, look_dat, dats_nil, dats_cons, Option.map_some, Option.map_none, asT, asTs, it_ok, it_bind, dfl, List.map_nil, List.map_cons, List.append_nil, List.nil_append, List.cons_append, List.replicate_zero, List.replicate_succ, Nat.sub_self, List.getElem?_cons_zero, List.getElem?_cons_succ, List.set_cons_zero, List.set_cons_succ, List.length_cons, List.length_nil, at_0, at_1, at_2, at_3, isTy, bind_nm, bind_tp, bpts_nil, bpts_cons, retOf, isNon, partO, cond_t, cond_f, if_true, if_false, Bool.false_eq_true, reduceIte, reduceCtorEq, wipeE, Nat.reduceAdd, Nat.reduceSub, Nat.reduceLT, Nat.reduceLeDiff, Nat.lt_add_one, Nat.zero_add, Int.reduceNeg, Bool.not_true, Bool.not_false, bf_len_t, bf_len_l, bf_abs, bf_min2, bf_max2, bf_int_b, bf_repr, bf_list_l, bf_list_t, bf_tuple_l, bf_tuple_t, bf_all, bf_any, bf_sum, bf_isi, bin_add, bin_sub, bin_mul, bin_fdv, bin_mod, bin_p18, bin_p12, bin_add_t, bin_add_l, bin_add_s, bin_mul_t, cmpP_eq, eqO_s, cmpP_ne, cmpP_lt, cmpP_le, cmpP_gt, cmpP_ge, cmpP_in, cmpP_nin, eqP_int, eqP_str, eq_nil_nil, eq_lay, eq_row, eq_rns, add_rns, perm10, idx_t, idx_l, idx_pl0, idx_pl1, idx_lp0, idx_lp1, idx_rw0, kob_0, kob_1, kput_0, kput_1, sli_t, sli_l, rev_t, rev_l, items_t, items_l, seq_t, seq_l, bools_nil, bools_cons, compL, consO, List.all_cons, List.all_nil, List.any_cons, List.any_nil, id_eq, Bool.and_true, Bool.true_and, Bool.and_self, finD_rt, finD_nx, ix3_0, ix3_1, ix3_2, ne_eq, not_false_eq_true, not_true_eq_false, Int.reduceEq, Int.reduceLT, Int.reduceLE, decide_true, decide_false, List.set_set, lookF_lst M.at_]
      exact ⟨⟨acc, rfl, by omega, by omega, M.sp⟩, pn, M.fr⟩

theorem s_cell_at {k i : Nat} {ns : List Int} {S : Store} (h : S[0]? = some (.frz (ns.map .int))) : ∃ c : Int, callN PP W (k + 1) 4 [.ref 0, .dat (.int (i : Int))] S = .ok (.dat (.int c)) S := by
  by_cases hi : i < ns.length
  · refine ⟨ns[i], ?_⟩
    have a1 : L2.atI (ns.map PyData.int) (i : Int) = some (.int ns[i]) := at_nat (by rw [List.getElem?_map, List.getElem?_eq_getElem hi]; rfl)
    rw [callN_at P_4 rfl]
    simp only [d_4, b_4, evSs, evS, evT, evE, evL, evAll, Out.bind_ok, Out.bind_exc, Out.bind_err, bind_assoc_, Out.nox_ok, opt_some, opt_none, optD_some, optD_none, datb_, lookO, lookF_dat, look_dat, dats_nil, dats_cons, Option.map_some, Option.map_none, asT, asTs, it_ok, it_bind, dfl, List.map_nil, List.map_cons, List.append_nil, List.nil_append, List.cons_append, List.replicate_zero, List.replicate_succ, Nat.sub_self, List.getElem?_cons_zero, List.getElem?_cons_succ, List.set_cons_zero, List.set_cons_succ, List.length_cons, List.length_nil, at_0, at_1, at_2, at_3, isTy, bind_nm, bind_tp, bpts_nil, bpts_cons, retOf, isNon, partO, cond_t, cond_f, if_true, if_false, Bool.false_eq_true, reduceIte, reduceCtorEq, wipeE, Nat.reduceAdd, Nat.reduceSub, Nat.reduceLT, Nat.reduceLeDiff, Nat.lt_add_one, Nat.zero_add, Int.reduceNeg, Bool.not_true, Bool.not_false, bf_len_t, bf_len_l, bf_abs, bf_min2, bf_max2, bf_int_b, bf_repr, bf_list_l, bf_list_t, bf_tuple_l, bf_tuple_t, bf_all, bf_any, bf_sum, bf_isi, bin_add, bin_sub, bin_mul, bin_fdv, bin_mod, bin_p18, bin_p12, bin_add_t, bin_add_l, bin_add_s, bin_mul_t, cmpP_eq, eqO_s, cmpP_ne, cmpP_lt, cmpP_le, cmpP_gt, cmpP_ge, cmpP_in, cmpP_nin, eqP_int, eqP_str, eq_nil_nil, eq_lay, eq_row, eq_rns, add_rns, perm10, idx_t, idx_l, idx_pl0, idx_pl1, idx_lp0, idx_lp1, idx_rw0, kob_0, kob_1, kput_0, kput_1, sli_t, sli_l, rev_t, rev_l, items_t, items_l, seq_t, seq_l, bools_nil, bools_cons, compL, consO, List.all_cons, List.all_nil, List.any_cons, List.any_nil, id_eq, Bool.and_true, Bool.true_and, Bool.and_self, finD_rt, finD_nx, ix3_0, ix3_1, ix3_2, ne_eq, not_false_eq_true, not_true_eq_false, Int.reduceEq, Int.reduceLT, Int.reduceLE, decide_true, decide_false, List.set_set, lookF_frz h, List.length_map, decide_eq_true (show (i : Int) < (ns.length : Int) by omega), a1]
  · refine ⟨0, ?_⟩
    rw [callN_at P_4 rfl]
    simp only [d_4, b_4, evSs, evS, evT, evE, evL, evAll, Out.bind_ok, Out.bind_exc, Out.bind_err, bind_assoc_, Out.nox_ok, opt_some, opt_none, optD_some, optD_none, datb_, lookO, lookF_dat, look_dat, dats_nil, dats_cons, Option.map_some, Option.map_none, asT, asTs, it_ok, it_bind, dfl, List.map_nil, List.map_cons, List.append_nil, List.nil_append, List.cons_append, List.replicate_zero, List.replicate_succ, Nat.sub_self, List.getElem?_cons_zero, List.getElem?_cons_succ, List.set_cons_zero, List.set_cons_succ, List.length_cons, List.length_nil, at_0, at_1, at_2, at_3, isTy, bind_nm, bind_tp, bpts_nil, bpts_cons, retOf, isNon, partO, cond_t, cond_f, if_true, if_false, Bool.false_eq_true, reduceIte, reduceCtorEq, wipeE, Nat.reduceAdd, Nat.reduceSub, Nat.reduceLT, Nat.reduceLeDiff, Nat.lt_add_one, Nat.zero_add, Int.reduceNeg, Bool.not_true, Bool.not_false, bf_len_t, bf_len_l, bf_abs, bf_min2, bf_max2, bf_int_b, bf_repr, bf_list_l, bf_list_t, bf_tuple_l, bf_tuple_t, bf_all, bf_any, bf_sum, bf_isi, bin_add, bin_sub, bin_mul, bin_fdv, bin_mod, bin_p18, bin_p12, bin_add_t, bin_add_l, bin_add_s, bin_mul_t, cmpP_eq, eqO_s, cmpP_ne, cmpP_lt, cmpP_le, cmpP_gt, cmpP_ge, cmpP_in, cmpP_nin, eqP_int, eqP_str, eq_nil_nil, eq_lay, eq_row, eq_rns, add_rns, perm10, idx_t, idx_l, idx_pl0, idx_pl1, idx_lp0, idx_lp1, idx_rw0, kob_0, kob_1, kput_0, kput_1, sli_t, sli_l, rev_t, rev_l, items_t, items_l, seq_t, seq_l, bools_nil, bools_cons, compL, consO, List.all_cons, List.all_nil, List.any_cons, List.any_nil, id_eq, Bool.and_true, Bool.true_and, Bool.and_self, finD_rt, finD_nx, ix3_0, ix3_1, ix3_2, ne_eq, not_false_eq_true, not_true_eq_false, Int.reduceEq, Int.reduceLT, Int.reduceLE, decide_true, decide_false, List.set_set, lookF_frz h, List.length_map, decide_eq_false (show ¬ ((i : Int) < (ns.length : Int)) by omega)]
theorem s_pen {k : Nat} {c : Int} {S : Store} : ∃ a b : Int, callN PP W (k + 1) 5 [.dat (.int c)] S = .ok (.ref S.length) (S ++ [.lst [.int a, .int b, .int 0]]) ∧ 0 ≤ b ∧ b < 2 ^ 31 := by
  have g1 := fm_ge (x := c) (m := 2147483629) (by decide)
  have g2 := fm_lt (x := c) (m := 2147483629) (by decide)
  have z3 : (3 : Nat) ≤ sizeLine := by rw [sizeLine_eq]; omega
  refine ⟨if c - 1000000000000000000 > 0 then c - 1000000000000000000 else 0, c.fmod 2147483629 + 1, ?_, by omega, by omega⟩
  rw [callN_at P_5 rfl]
  simp only [d_5, b_5, evSs, evS, evT, evE, evL, evAll, Out.bind_ok, Out.bind_exc, Out.bind_err, bind_assoc_, Out.nox_ok, opt_some, opt_none, optD_some, optD_none, datb_, lookO, lookF_dat, look_dat, dats_nil, dats_cons, Option.map_some, Option.map_none, asT, asTs, it_ok, it_bind, dfl, List.map_nil, List.map_cons, List.append_nil, List.nil_append, List.cons_append, List.replicate_zero, List.replicate_succ, Nat.sub_self, List.getElem?_cons_zero, List.getElem?_cons_succ, List.set_cons_zero, List.set_cons_succ, List.length_cons, List.length_nil, at_0, at_1, at_2, at_3, isTy, bind_nm, bind_tp, bpts_nil, bpts_cons, retOf, isNon, partO, cond_t, cond_f, if_true, if_false, Bool.false_eq_true, reduceIte, reduceCtorEq, wipeE, Nat.reduceAdd, Nat.reduceSub, Nat.reduceLT, Nat.reduceLeDiff, Nat.lt_add_one, Nat.zero_add, Int.reduceNeg, Bool.not_true, Bool.not_false, bf_len_t, bf_len_l, bf_abs, bf_min2, bf_max2, bf_int_b, bf_repr, bf_list_l, bf_list_t, bf_tuple_l, bf_tuple_t, bf_all, bf_any, bf_sum, bf_isi, bin_add, bin_sub, bin_mul, bin_fdv, bin_mod, bin_p18, bin_p12, bin_add_t, bin_add_l, bin_add_s, bin_mul_t, cmpP_eq, eqO_s, cmpP_ne, cmpP_lt, cmpP_le, cmpP_gt, cmpP_ge, cmpP_in, cmpP_nin, eqP_int, eqP_str, eq_nil_nil, eq_lay, eq_row, eq_rns, add_rns, perm10, idx_t, idx_l, idx_pl0, idx_pl1, idx_lp0, idx_lp1, idx_rw0, kob_0, kob_1, kput_0, kput_1, sli_t, sli_l, rev_t, rev_l, items_t, items_l, seq_t, seq_l, bools_nil, bools_cons, compL, consO, List.all_cons, List.all_nil, List.any_cons, List.any_nil, id_eq, Bool.and_true, Bool.true_and, Bool.and_self, finD_rt, finD_nx, ix3_0, ix3_1, ix3_2, ne_eq, not_false_eq_true, not_true_eq_false, Int.reduceEq, Int.reduceLT, Int.reduceLE, decide_true, decide_false, List.set_set, z3]
  unfold finD leave
  simp [below]
theorem s_pick {k n l : Nat} {xs : List PyData} {S : Store} (h : Pen n l S) (hn : n ≤ 2 ^ 100) (h0 : 0 < xs.length) (h1 : xs.length ≤ 1000000) :
    (callN PP W (k + 2) 7 [.ref l, .dat (.list xs)] S).sat fun v S' => (∃ x, v = Val.dat x ∧ x ∈ xs) ∧ Pen (n + 1) l S' ∧ Fr l S S' := by
  refine call_pen P_7 rfl h.lt ?_
  simp only [d_7, b_7, evSs, evS, evT, evE, evL, evAll, Out.bind_ok, Out.bind_exc, Out.bind_err, bind_assoc_, Out.nox_ok, opt_some, opt_none, optD_some, optD_none, datb_, lookO, lookF_dat, look_dat, dats_nil, dats_cons, Option.map_some, Option.map_none, asT, asTs, it_ok, it_bind, dfl, List.map_nil, List.map_cons, List.append_nil, List.nil_append, List.cons_append, List.replicate_zero, List.replicate_succ, Nat.sub_self, List.getElem?_cons_zero, List.getElem?_cons_succ, List.set_cons_zero, List.set_cons_succ, List.length_cons, List.length_nil, at_0, at_1, at_2, at_3, isTy, bind_nm, bind_tp, bpts_nil, bpts_cons, retOf, isNon, partO, cond_t, cond_f, if_true, if_false, Bool.false_eq_true, reduceIte, reduceCtorEq, wipeE, Nat.reduceAdd, Nat.reduceSub, Nat.reduceLT, Nat.reduceLeDiff, Nat.lt_add_one, Nat.zero_add, Int.reduceNeg, Bool.not_true, Bool.not_false, bf_len_t, bf_len_l, bf_abs, bf_min2, bf_max2, bf_int_b, bf_repr, bf_list_l, bf_list_t, bf_tuple_l, bf_tuple_t, bf_all, bf_any, bf_sum, bf_isi, bin_add, bin_sub, bin_mul, bin_fdv, bin_mod, bin_p18, bin_p12, bin_add_t, bin_add_l, bin_add_s, bin_mul_t, cmpP_eq, eqO_s, cmpP_ne, cmpP_lt, cmpP_le, cmpP_gt, cmpP_ge, cmpP_in, cmpP_nin, eqP_int, eqP_str, eq_nil_nil, eq_lay, eq_row, eq_rns, add_rns, perm10, idx_t, idx_l, idx_pl0, idx_pl1, idx_lp0, idx_lp1, idx_rw0, kob_0, kob_1, kput_0, kput_1, sli_t, sli_l, rev_t, rev_l, items_t, items_l, seq_t, seq_l, bools_nil, bools_cons, compL, consO, List.all_cons, List.all_nil, List.any_cons, List.any_nil, id_eq, Bool.and_true, Bool.true_and, Bool.and_self, finD_rt, finD_nx, ix3_0, ix3_1, ix3_2, ne_eq, not_false_eq_true, not_true_eq_false, Int.reduceEq, Int.reduceLT, Int.reduceLE, decide_true, decide_false, List.set_set]
  refine sat_then (s_draw h hn (by omega) (by omega)) ?_
  rintro v S1 ⟨⟨r, rfl, hr⟩, P1, F1⟩
  have hr : r < xs.length := by omega
  have a1 : L2.atI xs (r : Int) = some xs[r] := at_nat (List.getElem?_eq_getElem hr)
  simp only [evSs, evS, evT, evE, evL, evAll, Out.bind_ok, Out.bind_exc, Out.bind_err, bind_assoc_, Out.nox_ok, opt_some, opt_none, optD_some, optD_none, datb_, lookO, lookF_dat, look_dat, dats_nil, dats_cons, Option.map_some, Option.map_none, asT, asTs, it_ok, it_bind, dfl, List.map_nil, List.map_cons, List.append_nil, List.nil_append, List.cons_append, List.replicate_zero, List.replicate_succ, Nat.sub_self, List.getElem?_cons_zero, List.getElem?_cons_succ, List.set_cons_zero, List.set_cons_succ, List.length_cons, List.length_nil, at_0, at_1, at_2, at_3, isTy, bind_nm, bind_tp, bpts_nil, bpts_cons, retOf, isNon, partO, cond_t, cond_f, if_true, if_false, Bool.false_eq_true, reduceIte, reduceCtorEq, wipeE, Nat.reduceAdd, Nat.reduceSub, Nat.reduceLT, Nat.reduceLeDiff, Nat.lt_add_one, Nat.zero_add, Int.reduceNeg, Bool.not_true, Bool.not_false, bf_len_t, bf_len_l, bf_abs, bf_min2, bf_max2, bf_int_b, bf_repr, bf_list_l, bf_list_t, bf_tuple_l, bf_tuple_t, bf_all, bf_any, bf_sum, bf_isi, bin_add, bin_sub, bin_mul, bin_fdv, bin_mod, bin_p18, bin_p12, bin_add_t, bin_add_l, bin_add_s, bin_mul_t, cmpP_eq, eqO_s, cmpP_ne, cmpP_lt, cmpP_le, cmpP_gt, cmpP_ge, cmpP_in, cmpP_nin, eqP_int, eqP_str, eq_nil_nil, eq_lay, eq_row, eq_rns, add_rns, perm10, idx_t, idx_l, idx_pl0, idx_pl1, idx_lp0, idx_lp1, idx_rw0, kob_0, kob_1, kput_0, kput_1, sli_t, sli_l, rev_t, rev_l, items_t, items_l, seq_t, seq_l, bools_nil, bools_cons, compL, consO, List.all_cons, List.all_nil, List.any_cons, List.any_nil, id_eq, Bool.and_true, Bool.true_and, Bool.and_self, finD_rt, finD_nx, ix3_0, ix3_1, ix3_2, ne_eq, not_false_eq_true, not_true_eq_false, Int.reduceEq, Int.reduceLT, Int.reduceLE, decide_true, decide_false, List.set_set, a1]
  exact sat_ok ⟨⟨_, rfl, List.getElem_mem hr⟩, P1, F1⟩
theorem s_same {k d n : Nat} {p : PyData} {S : Store} (h : Rk d n p) (h1 : d ≤ 64) (h2 : n ≤ 2 ^ 24) : callN PP W (k + 1) 8 [.dat p, .dat p] S = .ok (.dat (.bool true)) S := by
  rw [callN_at P_8 rfl]
  simp only [d_8, b_8, evSs, evS, evT, evE, evL, evAll, Out.bind_ok, Out.bind_exc, Out.bind_err, bind_assoc_, Out.nox_ok, opt_some, opt_none, optD_some, optD_none, datb_, lookO, lookF_dat, look_dat, dats_nil, dats_cons, Option.map_some, Option.map_none, asT, asTs, it_ok, it_bind, dfl, List.map_nil, List.map_cons, List.append_nil, List.nil_append, List.cons_append, List.replicate_zero, List.replicate_succ, Nat.sub_self, List.getElem?_cons_zero, List.getElem?_cons_succ, List.set_cons_zero, List.set_cons_succ, List.length_cons, List.length_nil, at_0, at_1, at_2, at_3, isTy, bind_nm, bind_tp, bpts_nil, bpts_cons, retOf, isNon, partO, cond_t, cond_f, if_true, if_false, Bool.false_eq_true, reduceIte, reduceCtorEq, wipeE, Nat.reduceAdd, Nat.reduceSub, Nat.reduceLT, Nat.reduceLeDiff, Nat.lt_add_one, Nat.zero_add, Int.reduceNeg, Bool.not_true, Bool.not_false, bf_len_t, bf_len_l, bf_abs, bf_min2, bf_max2, bf_int_b, bf_repr, bf_list_l, bf_list_t, bf_tuple_l, bf_tuple_t, bf_all, bf_any, bf_sum, bf_isi, bin_add, bin_sub, bin_mul, bin_fdv, bin_mod, bin_p18, bin_p12, bin_add_t, bin_add_l, bin_add_s, bin_mul_t, cmpP_eq, eqO_s, cmpP_ne, cmpP_lt, cmpP_le, cmpP_gt, cmpP_ge, cmpP_in, cmpP_nin, eqP_int, eqP_str, eq_nil_nil, eq_lay, eq_row, eq_rns, add_rns, perm10, idx_t, idx_l, idx_pl0, idx_pl1, idx_lp0, idx_lp1, idx_rw0, kob_0, kob_1, kput_0, kput_1, sli_t, sli_l, rev_t, rev_l, items_t, items_l, seq_t, seq_l, bools_nil, bools_cons, compL, consO, List.all_cons, List.all_nil, List.any_cons, List.any_nil, id_eq, Bool.and_true, Bool.true_and, Bool.and_self, finD_rt, finD_nx, ix3_0, ix3_1, ix3_2, ne_eq, not_false_eq_true, not_true_eq_false, Int.reduceEq, Int.reduceLT, Int.reduceLE, decide_true, decide_false, List.set_set, h.ok h1 h2]

/-! ### the program's looks at things of any kind -/
theorem s_wh {k : Nat} {p : PyData} {S : Store} : callN PP W (k + 1) 0 [.dat p] S = .ok (.dat (.bool (isWh p))) S := by
  rw [callN_at P_0 rfl]
  cases p <;> simp only [d_0, b_0, evSs, evS, evT, evE, evL, evAll, Out.bind_ok, Out.bind_exc, Out.bind_err, bind_assoc_, Out.nox_ok, opt_some, opt_none, optD_some, optD_none, datb_, lookO, lookF_dat, look_dat, dats_nil, dats_cons, Option.map_some, Option.map_none, asT, asTs, it_ok, it_bind, dfl, List.map_nil, List.map_cons, List.append_nil, List.nil_append, List.cons_append, List.replicate_zero, List.replicate_succ, Nat.sub_self, List.getElem?_cons_zero, List.getElem?_cons_succ, List.set_cons_zero, List.set_cons_succ, List.length_cons, List.length_nil, at_0, at_1, at_2, at_3, isTy, bind_nm, bind_tp, bpts_nil, bpts_cons, retOf, isNon, partO, cond_t, cond_f, if_true, if_false, Bool.false_eq_true, reduceIte, reduceCtorEq, wipeE, Nat.reduceAdd, Nat.reduceSub, Nat.reduceLT, Nat.reduceLeDiff, Nat.lt_add_one, Nat.zero_add, Int.reduceNeg, Bool.not_true, Bool.not_false, bf_len_t, bf_len_l, bf_abs, bf_min2, bf_max2, bf_int_b, bf_repr, bf_list_l, bf_list_t, bf_tuple_l, bf_tuple_t, bf_all, bf_any, bf_sum, bf_isi, bin_add, bin_sub, bin_mul, bin_fdv, bin_mod, bin_p18, bin_p12, bin_add_t, bin_add_l, bin_add_s, bin_mul_t, cmpP_eq, eqO_s, cmpP_ne, cmpP_lt, cmpP_le, cmpP_gt, cmpP_ge, cmpP_in, cmpP_nin, eqP_int, eqP_str, eq_nil_nil, eq_lay, eq_row, eq_rns, add_rns, perm10, idx_t, idx_l, idx_pl0, idx_pl1, idx_lp0, idx_lp1, idx_rw0, kob_0, kob_1, kput_0, kput_1, sli_t, sli_l, rev_t, rev_l, items_t, items_l, seq_t, seq_l, bools_nil, bools_cons, compL, consO, List.all_cons, List.all_nil, List.any_cons, List.any_nil, id_eq, Bool.and_true, Bool.true_and, Bool.and_self, finD_rt, finD_nx, ix3_0, ix3_1, ix3_2, ne_eq, not_false_eq_true, not_true_eq_false, Int.reduceEq, Int.reduceLT, Int.reduceLE, decide_true, decide_false, List.set_set, isWh]
def lgB (a b : Int) : PyData → Bool
  | .tuple xs => decide (a ≤ xs.length ∧ xs.length ≤ b)
  | _ => false
theorem s_lg {k : Nat} {p : PyData} {a b : Int} {S : Store} : callN PP W (k + 1) 1 [.dat p, .dat (.int a), .dat (.int b)] S = .ok (.dat (.bool (lgB a b p))) S := by
  cases p with
  | tuple xs => exact s_long
  | none => rw [callN_at P_1 rfl]; simp only [d_1, b_1, evSs, evS, evT, evE, evL, evAll, Out.bind_ok, Out.bind_exc, Out.bind_err, bind_assoc_, Out.nox_ok, opt_some, opt_none, optD_some, optD_none, datb_, lookO, lookF_dat, look_dat, dats_nil, dats_cons, Option.map_some, Option.map_none, asT, asTs, it_ok, it_bind, dfl, List.map_nil, List.map_cons, List.append_nil, List.nil_append, List.cons_append, List.replicate_zero, List.replicate_succ, Nat.sub_self, List.getElem?_cons_zero, List.getElem?_cons_succ, List.set_cons_zero, List.set_cons_succ, List.length_cons, List.length_nil, at_0, at_1, at_2, at_3, isTy, bind_nm, bind_tp, bpts_nil, bpts_cons, retOf, isNon, partO, cond_t, cond_f, if_true, if_false, Bool.false_eq_true, reduceIte, reduceCtorEq, wipeE, Nat.reduceAdd, Nat.reduceSub, Nat.reduceLT, Nat.reduceLeDiff, Nat.lt_add_one, Nat.zero_add, Int.reduceNeg, Bool.not_true, Bool.not_false, bf_len_t, bf_len_l, bf_abs, bf_min2, bf_max2, bf_int_b, bf_repr, bf_list_l, bf_list_t, bf_tuple_l, bf_tuple_t, bf_all, bf_any, bf_sum, bf_isi, bin_add, bin_sub, bin_mul, bin_fdv, bin_mod, bin_p18, bin_p12, bin_add_t, bin_add_l, bin_add_s, bin_mul_t, cmpP_eq, eqO_s, cmpP_ne, cmpP_lt, cmpP_le, cmpP_gt, cmpP_ge, cmpP_in, cmpP_nin, eqP_int, eqP_str, eq_nil_nil, eq_lay, eq_row, eq_rns, add_rns, perm10, idx_t, idx_l, idx_pl0, idx_pl1, idx_lp0, idx_lp1, idx_rw0, kob_0, kob_1, kput_0, kput_1, sli_t, sli_l, rev_t, rev_l, items_t, items_l, seq_t, seq_l, bools_nil, bools_cons, compL, consO, List.all_cons, List.all_nil, List.any_cons, List.any_nil, id_eq, Bool.and_true, Bool.true_and, Bool.and_self, finD_rt, finD_nx, ix3_0, ix3_1, ix3_2, ne_eq, not_false_eq_true, not_true_eq_false, Int.reduceEq, Int.reduceLT, Int.reduceLE, decide_true, decide_false, List.set_set, lgB]
  | bool c => rw [callN_at P_1 rfl]; simp only [d_1, b_1, evSs, evS, evT, evE, evL, evAll, Out.bind_ok, Out.bind_exc, Out.bind_err, bind_assoc_, Out.nox_ok, opt_some, opt_none, optD_some, optD_none, datb_, lookO, lookF_dat, look_dat, dats_nil, dats_cons, Option.map_some, Option.map_none, asT, asTs, it_ok, it_bind, dfl, List.map_nil, List.map_cons, List.append_nil, List.nil_append, List.cons_append, List.replicate_zero, List.replicate_succ, Nat.sub_self, List.getElem?_cons_zero, List.getElem?_cons_succ, List.set_cons_zero, List.set_cons_succ, List.length_cons, List.length_nil, at_0, at_1, at_2, at_3, isTy, bind_nm, bind_tp, bpts_nil, bpts_cons, retOf, isNon, partO, cond_t, cond_f, if_true, if_false, Bool.false_eq_true, reduceIte, reduceCtorEq, wipeE, Nat.reduceAdd, Nat.reduceSub, Nat.reduceLT, Nat.reduceLeDiff, Nat.lt_add_one, Nat.zero_add, Int.reduceNeg, Bool.not_true, Bool.not_false, bf_len_t, bf_len_l, bf_abs, bf_min2, bf_max2, bf_int_b, bf_repr, bf_list_l, bf_list_t, bf_tuple_l, bf_tuple_t, bf_all, bf_any, bf_sum, bf_isi, bin_add, bin_sub, bin_mul, bin_fdv, bin_mod, bin_p18, bin_p12, bin_add_t, bin_add_l, bin_add_s, bin_mul_t, cmpP_eq, eqO_s, cmpP_ne, cmpP_lt, cmpP_le, cmpP_gt, cmpP_ge, cmpP_in, cmpP_nin, eqP_int, eqP_str, eq_nil_nil, eq_lay, eq_row, eq_rns, add_rns, perm10, idx_t, idx_l, idx_pl0, idx_pl1, idx_lp0, idx_lp1, idx_rw0, kob_0, kob_1, kput_0, kput_1, sli_t, sli_l, rev_t, rev_l, items_t, items_l, seq_t, seq_l, bools_nil, bools_cons, compL, consO, List.all_cons, List.all_nil, List.any_cons, List.any_nil, id_eq, Bool.and_true, Bool.true_and, Bool.and_self, finD_rt, finD_nx, ix3_0, ix3_1, ix3_2, ne_eq, not_false_eq_true, not_true_eq_false, Int.reduceEq, Int.reduceLT, Int.reduceLE, decide_true, decide_false, List.set_set, lgB]
  | int c => rw [callN_at P_1 rfl]; simp only [d_1, b_1, evSs, evS, evT, evE, evL, evAll, Out.bind_ok, Out.bind_exc, Out.bind_err, bind_assoc_, Out.nox_ok, opt_some, opt_none, optD_some, optD_none, datb_, lookO, lookF_dat, look_dat, dats_nil, dats_cons, Option.map_some, Option.map_none, asT, asTs, it_ok, it_bind, dfl, List.map_nil, List.map_cons, List.append_nil, List.nil_append, List.cons_append, List.replicate_zero, List.replicate_succ, Nat.sub_self, List.getElem?_cons_zero, List.getElem?_cons_succ, List.set_cons_zero, List.set_cons_succ, List.length_cons, List.length_nil, at_0, at_1, at_2, at_3, isTy, bind_nm, bind_tp, bpts_nil, bpts_cons, retOf, isNon, partO, cond_t, cond_f, if_true, if_false, Bool.false_eq_true, reduceIte, reduceCtorEq, wipeE, Nat.reduceAdd, Nat.reduceSub, Nat.reduceLT, Nat.reduceLeDiff, Nat.lt_add_one, Nat.zero_add, Int.reduceNeg, Bool.not_true, Bool.not_false, bf_len_t, bf_len_l, bf_abs, bf_min2, bf_max2, bf_int_b, bf_repr, bf_list_l, bf_list_t, bf_tuple_l, bf_tuple_t, bf_all, bf_any, bf_sum, bf_isi, bin_add, bin_sub, bin_mul, bin_fdv, bin_mod, bin_p18, bin_p12, bin_add_t, bin_add_l, bin_add_s, bin_mul_t, cmpP_eq, eqO_s, cmpP_ne, cmpP_lt, cmpP_le, cmpP_gt, cmpP_ge, cmpP_in, cmpP_nin, eqP_int, eqP_str, eq_nil_nil, eq_lay, eq_row, eq_rns, add_rns, perm10, idx_t, idx_l, idx_pl0, idx_pl1, idx_lp0, idx_lp1, idx_rw0, kob_0, kob_1, kput_0, kput_1, sli_t, sli_l, rev_t, rev_l, items_t, items_l, seq_t, seq_l, bools_nil, bools_cons, compL, consO, List.all_cons, List.all_nil, List.any_cons, List.any_nil, id_eq, Bool.and_true, Bool.true_and, Bool.and_self, finD_rt, finD_nx, ix3_0, ix3_1, ix3_2, ne_eq, not_false_eq_true, not_true_eq_false, Int.reduceEq, Int.reduceLT, Int.reduceLE, decide_true, decide_false, List.set_set, lgB]
  | str c => rw [callN_at P_1 rfl]; simp only [d_1, b_1, evSs, evS, evT, evE, evL, evAll, Out.bind_ok, Out.bind_exc, Out.bind_err, bind_assoc_, Out.nox_ok, opt_some, opt_none, optD_some, optD_none, datb_, lookO, lookF_dat, look_dat, dats_nil, dats_cons, Option.map_some, Option.map_none, asT, asTs, it_ok, it_bind, dfl, List.map_nil, List.map_cons, List.append_nil, List.nil_append, List.cons_append, List.replicate_zero, List.replicate_succ, Nat.sub_self, List.getElem?_cons_zero, List.getElem?_cons_succ, List.set_cons_zero, List.set_cons_succ, List.length_cons, List.length_nil, at_0, at_1, at_2, at_3, isTy, bind_nm, bind_tp, bpts_nil, bpts_cons, retOf, isNon, partO, cond_t, cond_f, if_true, if_false, Bool.false_eq_true, reduceIte, reduceCtorEq, wipeE, Nat.reduceAdd, Nat.reduceSub, Nat.reduceLT, Nat.reduceLeDiff, Nat.lt_add_one, Nat.zero_add, Int.reduceNeg, Bool.not_true, Bool.not_false, bf_len_t, bf_len_l, bf_abs, bf_min2, bf_max2, bf_int_b, bf_repr, bf_list_l, bf_list_t, bf_tuple_l, bf_tuple_t, bf_all, bf_any, bf_sum, bf_isi, bin_add, bin_sub, bin_mul, bin_fdv, bin_mod, bin_p18, bin_p12, bin_add_t, bin_add_l, bin_add_s, bin_mul_t, cmpP_eq, eqO_s, cmpP_ne, cmpP_lt, cmpP_le, cmpP_gt, cmpP_ge, cmpP_in, cmpP_nin, eqP_int, eqP_str, eq_nil_nil, eq_lay, eq_row, eq_rns, add_rns, perm10, idx_t, idx_l, idx_pl0, idx_pl1, idx_lp0, idx_lp1, idx_rw0, kob_0, kob_1, kput_0, kput_1, sli_t, sli_l, rev_t, rev_l, items_t, items_l, seq_t, seq_l, bools_nil, bools_cons, compL, consO, List.all_cons, List.all_nil, List.any_cons, List.any_nil, id_eq, Bool.and_true, Bool.true_and, Bool.and_self, finD_rt, finD_nx, ix3_0, ix3_1, ix3_2, ne_eq, not_false_eq_true, not_true_eq_false, Int.reduceEq, Int.reduceLT, Int.reduceLE, decide_true, decide_false, List.set_set, lgB]
  | list c => rw [callN_at P_1 rfl]; simp only [d_1, b_1, evSs, evS, evT, evE, evL, evAll, Out.bind_ok, Out.bind_exc, Out.bind_err, bind_assoc_, Out.nox_ok, opt_some, opt_none, optD_some, optD_none, datb_, lookO, lookF_dat, look_dat, dats_nil, dats_cons, Option.map_some, Option.map_none, asT, asTs, it_ok, it_bind, dfl, List.map_nil, List.map_cons, List.append_nil, List.nil_append, List.cons_append, List.replicate_zero, List.replicate_succ, Nat.sub_self, List.getElem?_cons_zero, List.getElem?_cons_succ, List.set_cons_zero, List.set_cons_succ, List.length_cons, List.length_nil, at_0, at_1, at_2, at_3, isTy, bind_nm, bind_tp, bpts_nil, bpts_cons, retOf, isNon, partO, cond_t, cond_f, if_true, if_false, Bool.false_eq_true, reduceIte, reduceCtorEq, wipeE, Nat.reduceAdd, Nat.reduceSub, Nat.reduceLT, Nat.reduceLeDiff, Nat.lt_add_one, Nat.zero_add, Int.reduceNeg, Bool.not_true, Bool.not_false, bf_len_t, bf_len_l, bf_abs, bf_min2, bf_max2, bf_int_b, bf_repr, bf_list_l, bf_list_t, bf_tuple_l, bf_tuple_t, bf_all, bf_any, bf_sum, bf_isi, bin_add, bin_sub, bin_mul, bin_fdv, bin_mod, bin_p18, bin_p12, bin_add_t, bin_add_l, bin_add_s, bin_mul_t, cmpP_eq, eqO_s, cmpP_ne, cmpP_lt, cmpP_le, cmpP_gt, cmpP_ge, cmpP_in, cmpP_nin, eqP_int, eqP_str, eq_nil_nil, eq_lay, eq_row, eq_rns, add_rns, perm10, idx_t, idx_l, idx_pl0, idx_pl1, idx_lp0, idx_lp1, idx_rw0, kob_0, kob_1, kput_0, kput_1, sli_t, sli_l, rev_t, rev_l, items_t, items_l, seq_t, seq_l, bools_nil, bools_cons, compL, consO, List.all_cons, List.all_nil, List.any_cons, List.any_nil, id_eq, Bool.and_true, Bool.true_and, Bool.and_self, finD_rt, finD_nx, ix3_0, ix3_1, ix3_2, ne_eq, not_false_eq_true, not_true_eq_false, Int.reduceEq, Int.reduceLT, Int.reduceLE, decide_true, decide_false, List.set_set, lgB]
  | dict c => rw [callN_at P_1 rfl]; simp only [d_1, b_1, evSs, evS, evT, evE, evL, evAll, Out.bind_ok, Out.bind_exc, Out.bind_err, bind_assoc_, Out.nox_ok, opt_some, opt_none, optD_some, optD_none, datb_, lookO, lookF_dat, look_dat, dats_nil, dats_cons, Option.map_some, Option.map_none, asT, asTs, it_ok, it_bind, dfl, List.map_nil, List.map_cons, List.append_nil, List.nil_append, List.cons_append, List.replicate_zero, List.replicate_succ, Nat.sub_self, List.getElem?_cons_zero, List.getElem?_cons_succ, List.set_cons_zero, List.set_cons_succ, List.length_cons, List.length_nil, at_0, at_1, at_2, at_3, isTy, bind_nm, bind_tp, bpts_nil, bpts_cons, retOf, isNon, partO, cond_t, cond_f, if_true, if_false, Bool.false_eq_true, reduceIte, reduceCtorEq, wipeE, Nat.reduceAdd, Nat.reduceSub, Nat.reduceLT, Nat.reduceLeDiff, Nat.lt_add_one, Nat.zero_add, Int.reduceNeg, Bool.not_true, Bool.not_false, bf_len_t, bf_len_l, bf_abs, bf_min2, bf_max2, bf_int_b, bf_repr, bf_list_l, bf_list_t, bf_tuple_l, bf_tuple_t, bf_all, bf_any, bf_sum, bf_isi, bin_add, bin_sub, bin_mul, bin_fdv, bin_mod, bin_p18, bin_p12, bin_add_t, bin_add_l, bin_add_s, bin_mul_t, cmpP_eq, eqO_s, cmpP_ne, cmpP_lt, cmpP_le, cmpP_gt, cmpP_ge, cmpP_in, cmpP_nin, eqP_int, eqP_str, eq_nil_nil, eq_lay, eq_row, eq_rns, add_rns, perm10, idx_t, idx_l, idx_pl0, idx_pl1, idx_lp0, idx_lp1, idx_rw0, kob_0, kob_1, kput_0, kput_1, sli_t, sli_l, rev_t, rev_l, items_t, items_l, seq_t, seq_l, bools_nil, bools_cons, compL, consO, List.all_cons, List.all_nil, List.any_cons, List.any_nil, id_eq, Bool.and_true, Bool.true_and, Bool.and_self, finD_rt, finD_nx, ix3_0, ix3_1, ix3_2, ne_eq, not_false_eq_true, not_true_eq_false, Int.reduceEq, Int.reduceLT, Int.reduceLE, decide_true, decide_false, List.set_set, lgB]
theorem s_pl {k : Nat} {p : PyData} {S : Store} : callN PP W (k + 2) 2 [.dat p] S = .ok (.dat (.bool (isPl p))) S := by
  rw [callN_at P_2 rfl]
  simp only [d_2, b_2, evSs, evS, evT, evE, evL, evAll, Out.bind_ok, Out.bind_exc, Out.bind_err, bind_assoc_, Out.nox_ok, opt_some, opt_none, optD_some, optD_none, datb_, lookO, lookF_dat, look_dat, dats_nil, dats_cons, Option.map_some, Option.map_none, asT, asTs, it_ok, it_bind, dfl, List.map_nil, List.map_cons, List.append_nil, List.nil_append, List.cons_append, List.replicate_zero, List.replicate_succ, Nat.sub_self, List.getElem?_cons_zero, List.getElem?_cons_succ, List.set_cons_zero, List.set_cons_succ, List.length_cons, List.length_nil, at_0, at_1, at_2, at_3, isTy, bind_nm, bind_tp, bpts_nil, bpts_cons, retOf, isNon, partO, cond_t, cond_f, if_true, if_false, Bool.false_eq_true, reduceIte, reduceCtorEq, wipeE, Nat.reduceAdd, Nat.reduceSub, Nat.reduceLT, Nat.reduceLeDiff, Nat.lt_add_one, Nat.zero_add, Int.reduceNeg, Bool.not_true, Bool.not_false, bf_len_t, bf_len_l, bf_abs, bf_min2, bf_max2, bf_int_b, bf_repr, bf_list_l, bf_list_t, bf_tuple_l, bf_tuple_t, bf_all, bf_any, bf_sum, bf_isi, bin_add, bin_sub, bin_mul, bin_fdv, bin_mod, bin_p18, bin_p12, bin_add_t, bin_add_l, bin_add_s, bin_mul_t, cmpP_eq, eqO_s, cmpP_ne, cmpP_lt, cmpP_le, cmpP_gt, cmpP_ge, cmpP_in, cmpP_nin, eqP_int, eqP_str, eq_nil_nil, eq_lay, eq_row, eq_rns, add_rns, perm10, idx_t, idx_l, idx_pl0, idx_pl1, idx_lp0, idx_lp1, idx_rw0, kob_0, kob_1, kput_0, kput_1, sli_t, sli_l, rev_t, rev_l, items_t, items_l, seq_t, seq_l, bools_nil, bools_cons, compL, consO, List.all_cons, List.all_nil, List.any_cons, List.any_nil, id_eq, Bool.and_true, Bool.true_and, Bool.and_self, finD_rt, finD_nx, ix3_0, ix3_1, ix3_2, ne_eq, not_false_eq_true, not_true_eq_false, Int.reduceEq, Int.reduceLT, Int.reduceLE, decide_true, decide_false, List.set_set, s_lg]
  cases p with
  | tuple xs =>
    by_cases h : xs.length = 2
    · have zz : xs.length < sizeLine := by rw [h, sizeLine_eq]; omega
      simp only [lgB, decide_eq_true (show (2 : Int) ≤ (xs.length : Int) ∧ (xs.length : Int) ≤ 2 by omega), evSs, evS, evT, evE, evL, evAll, Out.bind_ok, Out.bind_exc, Out.bind_err, bind_assoc_, Out.nox_ok, opt_some, opt_none, optD_some, optD_none, datb_, lookO, lookF_dat, look_dat, dats_nil, dats_cons, Option.map_some, Option.map_none, asT, asTs, it_ok, it_bind, dfl, List.map_nil, List.map_cons, List.append_nil, List.nil_append, List.cons_append, List.replicate_zero, List.replicate_succ, Nat.sub_self, List.getElem?_cons_zero, List.getElem?_cons_succ, List.set_cons_zero, List.set_cons_succ, List.length_cons, List.length_nil, at_0, at_1, at_2, at_3, isTy, bind_nm, bind_tp, bpts_nil, bpts_cons, retOf, isNon, partO, cond_t, cond_f, if_true, if_false, Bool.false_eq_true, reduceIte, reduceCtorEq, wipeE, Nat.reduceAdd, Nat.reduceSub, Nat.reduceLT, Nat.reduceLeDiff, Nat.lt_add_one, Nat.zero_add, Int.reduceNeg, Bool.not_true, Bool.not_false, bf_len_t, bf_len_l, bf_abs, bf_min2, bf_max2, bf_int_b, bf_repr, bf_list_l, bf_list_t, bf_tuple_l, bf_tuple_t, bf_all, bf_any, bf_sum, bf_isi, bin_add, bin_sub, bin_mul, bin_fdv, bin_mod, bin_p18, bin_p12, bin_add_t, bin_add_l, bin_add_s, bin_mul_t, cmpP_eq, eqO_s, cmpP_ne, cmpP_lt, cmpP_le, cmpP_gt, cmpP_ge, cmpP_in, cmpP_nin, eqP_int, eqP_str, eq_nil_nil, eq_lay, eq_row, eq_rns, add_rns, perm10, idx_t, idx_l, idx_pl0, idx_pl1, idx_lp0, idx_lp1, idx_rw0, kob_0, kob_1, kput_0, kput_1, sli_t, sli_l, rev_t, rev_l, items_t, items_l, seq_t, seq_l, bools_nil, bools_cons, compL, consO, List.all_cons, List.all_nil, List.any_cons, List.any_nil, id_eq, Bool.and_true, Bool.true_and, Bool.and_self, finD_rt, finD_nx, ix3_0, ix3_1, ix3_2, ne_eq, not_false_eq_true, not_true_eq_false, Int.reduceEq, Int.reduceLT, Int.reduceLE, decide_true, decide_false, List.set_set, zz]
      rw [comp_mapL (g := fun x => .bool (isWh x))]
      · simp only [evSs, evS, evT, evE, evL, evAll, Out.bind_ok, Out.bind_exc, Out.bind_err, bind_assoc_, Out.nox_ok, opt_some, opt_none, optD_some, optD_none, datb_, lookO, lookF_dat, look_dat, dats_nil, dats_cons, Option.map_some, Option.map_none, asT, asTs, it_ok, it_bind, dfl, List.map_nil, List.map_cons, List.append_nil, List.nil_append, List.cons_append, List.replicate_zero, List.replicate_succ, Nat.sub_self, List.getElem?_cons_zero, List.getElem?_cons_succ, List.set_cons_zero, List.set_cons_succ, List.length_cons, List.length_nil, at_0, at_1, at_2, at_3, isTy, bind_nm, bind_tp, bpts_nil, bpts_cons, retOf, isNon, partO, cond_t, cond_f, if_true, if_false, Bool.false_eq_true, reduceIte, reduceCtorEq, wipeE, Nat.reduceAdd, Nat.reduceSub, Nat.reduceLT, Nat.reduceLeDiff, Nat.lt_add_one, Nat.zero_add, Int.reduceNeg, Bool.not_true, Bool.not_false, bf_len_t, bf_len_l, bf_abs, bf_min2, bf_max2, bf_int_b, bf_repr, bf_list_l, bf_list_t, bf_tuple_l, bf_tuple_t, bf_all, bf_any, bf_sum, bf_isi, bin_add, bin_sub, bin_mul, bin_fdv, bin_mod, bin_p18, bin_p12, bin_add_t, bin_add_l, bin_add_s, bin_mul_t, cmpP_eq, eqO_s, cmpP_ne, cmpP_lt, cmpP_le, cmpP_gt, cmpP_ge, cmpP_in, cmpP_nin, eqP_int, eqP_str, eq_nil_nil, eq_lay, eq_row, eq_rns, add_rns, perm10, idx_t, idx_l, idx_pl0, idx_pl1, idx_lp0, idx_lp1, idx_rw0, kob_0, kob_1, kput_0, kput_1, sli_t, sli_l, rev_t, rev_l, items_t, items_l, seq_t, seq_l, bools_nil, bools_cons, compL, consO, List.all_cons, List.all_nil, List.any_cons, List.any_nil, id_eq, Bool.and_true, Bool.true_and, Bool.and_self, finD_rt, finD_nx, ix3_0, ix3_1, ix3_2, ne_eq, not_false_eq_true, not_true_eq_false, Int.reduceEq, Int.reduceLT, Int.reduceLE, decide_true, decide_false, List.set_set, boolsOf_map]
        simp only [isPl, decide_eq_true h, Bool.true_and, List.all_map]
        rfl
      · intro x _
        simp only [evSs, evS, evT, evE, evL, evAll, Out.bind_ok, Out.bind_exc, Out.bind_err, bind_assoc_, Out.nox_ok, opt_some, opt_none, optD_some, optD_none, datb_, lookO, lookF_dat, look_dat, dats_nil, dats_cons, Option.map_some, Option.map_none, asT, asTs, it_ok, it_bind, dfl, List.map_nil, List.map_cons, List.append_nil, List.nil_append, List.cons_append, List.replicate_zero, List.replicate_succ, Nat.sub_self, List.getElem?_cons_zero, List.getElem?_cons_succ, List.set_cons_zero, List.set_cons_succ, List.length_cons, List.length_nil, at_0, at_1, at_2, at_3, isTy, bind_nm, bind_tp, bpts_nil, bpts_cons, retOf, isNon, partO, cond_t, cond_f, if_true, if_false, Bool.false_eq_true, reduceIte, reduceCtorEq, wipeE, Nat.reduceAdd, Nat.reduceSub, Nat.reduceLT, Nat.reduceLeDiff, Nat.lt_add_one, Nat.zero_add, Int.reduceNeg, Bool.not_true, Bool.not_false, bf_len_t, bf_len_l, bf_abs, bf_min2, bf_max2, bf_int_b, bf_repr, bf_list_l, bf_list_t, bf_tuple_l, bf_tuple_t, bf_all, bf_any, bf_sum, bf_isi, bin_add, bin_sub, bin_mul, bin_fdv, bin_mod, bin_p18, bin_p12, bin_add_t, bin_add_l, bin_add_s, bin_mul_t, cmpP_eq, eqO_s, cmpP_ne, cmpP_lt, cmpP_le, cmpP_gt, cmpP_ge, cmpP_in, cmpP_nin, eqP_int, eqP_str, eq_nil_nil, eq_lay, eq_row, eq_rns, add_rns, perm10, idx_t, idx_l, idx_pl0, idx_pl1, idx_lp0, idx_lp1, idx_rw0, kob_0, kob_1, kput_0, kput_1, sli_t, sli_l, rev_t, rev_l, items_t, items_l, seq_t, seq_l, bools_nil, bools_cons, compL, consO, List.all_cons, List.all_nil, List.any_cons, List.any_nil, id_eq, Bool.and_true, Bool.true_and, Bool.and_self, finD_rt, finD_nx, ix3_0, ix3_1, ix3_2, ne_eq, not_false_eq_true, not_true_eq_false, Int.reduceEq, Int.reduceLT, Int.reduceLE, decide_true, decide_false, List.set_set, s_wh]
    · simp only [lgB, decide_eq_false (show ¬ ((2 : Int) ≤ (xs.length : Int) ∧ (xs.length : Int) ≤ 2) by omega), evSs, evS, evT, evE, evL, evAll, Out.bind_ok, Out.bind_exc, Out.bind_err, bind_assoc_, Out.nox_ok, opt_some, opt_none, optD_some, optD_none, datb_, lookO, lookF_dat, look_dat, dats_nil, dats_cons, Option.map_some, Option.map_none, asT, asTs, it_ok, it_bind, dfl, List.map_nil, List.map_cons, List.append_nil, List.nil_append, List.cons_append, List.replicate_zero, List.replicate_succ, Nat.sub_self, List.getElem?_cons_zero, List.getElem?_cons_succ, List.set_cons_zero, List.set_cons_succ, List.length_cons, List.length_nil, at_0, at_1, at_2, at_3, isTy, bind_nm, bind_tp, bpts_nil, bpts_cons, retOf, isNon, partO, cond_t, cond_f, if_true, if_false, Bool.false_eq_true, reduceIte, reduceCtorEq, wipeE, Nat.reduceAdd, Nat.reduceSub, Nat.reduceLT, Nat.reduceLeDiff, Nat.lt_add_one, Nat.zero_add, Int.reduceNeg, Bool.not_true, Bool.not_false, bf_len_t, bf_len_l, bf_abs, bf_min2, bf_max2, bf_int_b, bf_repr, bf_list_l, bf_list_t, bf_tuple_l, bf_tuple_t, bf_all, bf_any, bf_sum, bf_isi, bin_add, bin_sub, bin_mul, bin_fdv, bin_mod, bin_p18, bin_p12, bin_add_t, bin_add_l, bin_add_s, bin_mul_t, cmpP_eq, eqO_s, cmpP_ne, cmpP_lt, cmpP_le, cmpP_gt, cmpP_ge, cmpP_in, cmpP_nin, eqP_int, eqP_str, eq_nil_nil, eq_lay, eq_row, eq_rns, add_rns, perm10, idx_t, idx_l, idx_pl0, idx_pl1, idx_lp0, idx_lp1, idx_rw0, kob_0, kob_1, kput_0, kput_1, sli_t, sli_l, rev_t, rev_l, items_t, items_l, seq_t, seq_l, bools_nil, bools_cons, compL, consO, List.all_cons, List.all_nil, List.any_cons, List.any_nil, id_eq, Bool.and_true, Bool.true_and, Bool.and_self, finD_rt, finD_nx, ix3_0, ix3_1, ix3_2, ne_eq, not_false_eq_true, not_true_eq_false, Int.reduceEq, Int.reduceLT, Int.reduceLE, decide_true, decide_false, List.set_set, isPl, decide_eq_false h, Bool.false_and]
  | _ => simp only [lgB, evSs, evS, evT, evE, evL, evAll, Out.bind_ok, Out.bind_exc, Out.bind_err, bind_assoc_, Out.nox_ok, opt_some, opt_none, optD_some, optD_none, datb_, lookO, lookF_dat, look_dat, dats_nil, dats_cons, Option.map_some, Option.map_none, asT, asTs, it_ok, it_bind, dfl, List.map_nil, List.map_cons, List.append_nil, List.nil_append, List.cons_append, List.replicate_zero, List.replicate_succ, Nat.sub_self, List.getElem?_cons_zero, List.getElem?_cons_succ, List.set_cons_zero, List.set_cons_succ, List.length_cons, List.length_nil, at_0, at_1, at_2, at_3, isTy, bind_nm, bind_tp, bpts_nil, bpts_cons, retOf, isNon, partO, cond_t, cond_f, if_true, if_false, Bool.false_eq_true, reduceIte, reduceCtorEq, wipeE, Nat.reduceAdd, Nat.reduceSub, Nat.reduceLT, Nat.reduceLeDiff, Nat.lt_add_one, Nat.zero_add, Int.reduceNeg, Bool.not_true, Bool.not_false, bf_len_t, bf_len_l, bf_abs, bf_min2, bf_max2, bf_int_b, bf_repr, bf_list_l, bf_list_t, bf_tuple_l, bf_tuple_t, bf_all, bf_any, bf_sum, bf_isi, bin_add, bin_sub, bin_mul, bin_fdv, bin_mod, bin_p18, bin_p12, bin_add_t, bin_add_l, bin_add_s, bin_mul_t, cmpP_eq, eqO_s, cmpP_ne, cmpP_lt, cmpP_le, cmpP_gt, cmpP_ge, cmpP_in, cmpP_nin, eqP_int, eqP_str, eq_nil_nil, eq_lay, eq_row, eq_rns, add_rns, perm10, idx_t, idx_l, idx_pl0, idx_pl1, idx_lp0, idx_lp1, idx_rw0, kob_0, kob_1, kput_0, kput_1, sli_t, sli_l, rev_t, rev_l, items_t, items_l, seq_t, seq_l, bools_nil, bools_cons, compL, consO, List.all_cons, List.all_nil, List.any_cons, List.any_nil, id_eq, Bool.and_true, Bool.true_and, Bool.and_self, finD_rt, finD_nx, ix3_0, ix3_1, ix3_2, ne_eq, not_false_eq_true, not_true_eq_false, Int.reduceEq, Int.reduceLT, Int.reduceLE, decide_true, decide_false, List.set_set, isPl]
theorem s_ly {k : Nat} {p : PyData} {S : Store} : callN PP W (k + 3) 3 [.dat p] S = .ok (.dat (.bool (isLy p))) S := by
  rw [callN_at P_3 rfl]
  simp only [d_3, b_3, evSs, evS, evT, evE, evL, evAll, Out.bind_ok, Out.bind_exc, Out.bind_err, bind_assoc_, Out.nox_ok, opt_some, opt_none, optD_some, optD_none, datb_, lookO, lookF_dat, look_dat, dats_nil, dats_cons, Option.map_some, Option.map_none, asT, asTs, it_ok, it_bind, dfl, List.map_nil, List.map_cons, List.append_nil, List.nil_append, List.cons_append, List.replicate_zero, List.replicate_succ, Nat.sub_self, List.getElem?_cons_zero, List.getElem?_cons_succ, List.set_cons_zero, List.set_cons_succ, List.length_cons, List.length_nil, at_0, at_1, at_2, at_3, isTy, bind_nm, bind_tp, bpts_nil, bpts_cons, retOf, isNon, partO, cond_t, cond_f, if_true, if_false, Bool.false_eq_true, reduceIte, reduceCtorEq, wipeE, Nat.reduceAdd, Nat.reduceSub, Nat.reduceLT, Nat.reduceLeDiff, Nat.lt_add_one, Nat.zero_add, Int.reduceNeg, Bool.not_true, Bool.not_false, bf_len_t, bf_len_l, bf_abs, bf_min2, bf_max2, bf_int_b, bf_repr, bf_list_l, bf_list_t, bf_tuple_l, bf_tuple_t, bf_all, bf_any, bf_sum, bf_isi, bin_add, bin_sub, bin_mul, bin_fdv, bin_mod, bin_p18, bin_p12, bin_add_t, bin_add_l, bin_add_s, bin_mul_t, cmpP_eq, eqO_s, cmpP_ne, cmpP_lt, cmpP_le, cmpP_gt, cmpP_ge, cmpP_in, cmpP_nin, eqP_int, eqP_str, eq_nil_nil, eq_lay, eq_row, eq_rns, add_rns, perm10, idx_t, idx_l, idx_pl0, idx_pl1, idx_lp0, idx_lp1, idx_rw0, kob_0, kob_1, kput_0, kput_1, sli_t, sli_l, rev_t, rev_l, items_t, items_l, seq_t, seq_l, bools_nil, bools_cons, compL, consO, List.all_cons, List.all_nil, List.any_cons, List.any_nil, id_eq, Bool.and_true, Bool.true_and, Bool.and_self, finD_rt, finD_nx, ix3_0, ix3_1, ix3_2, ne_eq, not_false_eq_true, not_true_eq_false, Int.reduceEq, Int.reduceLT, Int.reduceLE, decide_true, decide_false, List.set_set, s_lg]
  cases p with
  | tuple xs =>
    by_cases h : 1 ≤ xs.length ∧ xs.length ≤ 6
    · have zz : xs.length < sizeLine := by rw [sizeLine_eq]; omega
      simp only [lgB, decide_eq_true (show (1 : Int) ≤ (xs.length : Int) ∧ (xs.length : Int) ≤ 6 by omega), evSs, evS, evT, evE, evL, evAll, Out.bind_ok, Out.bind_exc, Out.bind_err, bind_assoc_, Out.nox_ok, opt_some, opt_none, optD_some, optD_none, datb_, lookO, lookF_dat, look_dat, dats_nil, dats_cons, Option.map_some, Option.map_none, asT, asTs, it_ok, it_bind, dfl, List.map_nil, List.map_cons, List.append_nil, List.nil_append, List.cons_append, List.replicate_zero, List.replicate_succ, Nat.sub_self, List.getElem?_cons_zero, List.getElem?_cons_succ, List.set_cons_zero, List.set_cons_succ, List.length_cons, List.length_nil, at_0, at_1, at_2, at_3, isTy, bind_nm, bind_tp, bpts_nil, bpts_cons, retOf, isNon, partO, cond_t, cond_f, if_true, if_false, Bool.false_eq_true, reduceIte, reduceCtorEq, wipeE, Nat.reduceAdd, Nat.reduceSub, Nat.reduceLT, Nat.reduceLeDiff, Nat.lt_add_one, Nat.zero_add, Int.reduceNeg, Bool.not_true, Bool.not_false, bf_len_t, bf_len_l, bf_abs, bf_min2, bf_max2, bf_int_b, bf_repr, bf_list_l, bf_list_t, bf_tuple_l, bf_tuple_t, bf_all, bf_any, bf_sum, bf_isi, bin_add, bin_sub, bin_mul, bin_fdv, bin_mod, bin_p18, bin_p12, bin_add_t, bin_add_l, bin_add_s, bin_mul_t, cmpP_eq, eqO_s, cmpP_ne, cmpP_lt, cmpP_le, cmpP_gt, cmpP_ge, cmpP_in, cmpP_nin, eqP_int, eqP_str, eq_nil_nil, eq_lay, eq_row, eq_rns, add_rns, perm10, idx_t, idx_l, idx_pl0, idx_pl1, idx_lp0, idx_lp1, idx_rw0, kob_0, kob_1, kput_0, kput_1, sli_t, sli_l, rev_t, rev_l, items_t, items_l, seq_t, seq_l, bools_nil, bools_cons, compL, consO, List.all_cons, List.all_nil, List.any_cons, List.any_nil, id_eq, Bool.and_true, Bool.true_and, Bool.and_self, finD_rt, finD_nx, ix3_0, ix3_1, ix3_2, ne_eq, not_false_eq_true, not_true_eq_false, Int.reduceEq, Int.reduceLT, Int.reduceLE, decide_true, decide_false, List.set_set, zz]
      rw [comp_mapL (g := fun x => .bool (isPl x))]
      · simp only [evSs, evS, evT, evE, evL, evAll, Out.bind_ok, Out.bind_exc, Out.bind_err, bind_assoc_, Out.nox_ok, opt_some, opt_none, optD_some, optD_none, datb_, lookO, lookF_dat, look_dat, dats_nil, dats_cons, Option.map_some, Option.map_none, asT, asTs, it_ok, it_bind, dfl, List.map_nil, List.map_cons, List.append_nil, List.nil_append, List.cons_append, List.replicate_zero, List.replicate_succ, Nat.sub_self, List.getElem?_cons_zero, List.getElem?_cons_succ, List.set_cons_zero, List.set_cons_succ, List.length_cons, List.length_nil, at_0, at_1, at_2, at_3, isTy, bind_nm, bind_tp, bpts_nil, bpts_cons, retOf, isNon, partO, cond_t, cond_f, if_true, if_false, Bool.false_eq_true, reduceIte, reduceCtorEq, wipeE, Nat.reduceAdd, Nat.reduceSub, Nat.reduceLT, Nat.reduceLeDiff, Nat.lt_add_one, Nat.zero_add, Int.reduceNeg, Bool.not_true, Bool.not_false, bf_len_t, bf_len_l, bf_abs, bf_min2, bf_max2, bf_int_b, bf_repr, bf_list_l, bf_list_t, bf_tuple_l, bf_tuple_t, bf_all, bf_any, bf_sum, bf_isi, bin_add, bin_sub, bin_mul, bin_fdv, bin_mod, bin_p18, bin_p12, bin_add_t, bin_add_l, bin_add_s, bin_mul_t, cmpP_eq, eqO_s, cmpP_ne, cmpP_lt, cmpP_le, cmpP_gt, cmpP_ge, cmpP_in, cmpP_nin, eqP_int, eqP_str, eq_nil_nil, eq_lay, eq_row, eq_rns, add_rns, perm10, idx_t, idx_l, idx_pl0, idx_pl1, idx_lp0, idx_lp1, idx_rw0, kob_0, kob_1, kput_0, kput_1, sli_t, sli_l, rev_t, rev_l, items_t, items_l, seq_t, seq_l, bools_nil, bools_cons, compL, consO, List.all_cons, List.all_nil, List.any_cons, List.any_nil, id_eq, Bool.and_true, Bool.true_and, Bool.and_self, finD_rt, finD_nx, ix3_0, ix3_1, ix3_2, ne_eq, not_false_eq_true, not_true_eq_false, Int.reduceEq, Int.reduceLT, Int.reduceLE, decide_true, decide_false, List.set_set, boolsOf_map]
        simp only [isLy, decide_eq_true h, Bool.true_and, List.all_map]
        rfl
      · intro x _
        simp only [evSs, evS, evT, evE, evL, evAll, Out.bind_ok, Out.bind_exc, Out.bind_err, bind_assoc_, Out.nox_ok, opt_some, opt_none, optD_some, optD_none, datb_, lookO, lookF_dat, look_dat, dats_nil, dats_cons, Option.map_some, Option.map_none, asT, asTs, it_ok, it_bind, dfl, List.map_nil, List.map_cons, List.append_nil, List.nil_append, List.cons_append, List.replicate_zero, List.replicate_succ, Nat.sub_self, List.getElem?_cons_zero, List.getElem?_cons_succ, List.set_cons_zero, List.set_cons_succ, List.length_cons, List.length_nil, at_0, at_1, at_2, at_3, isTy, bind_nm, bind_tp, bpts_nil, bpts_cons, retOf, isNon, partO, cond_t, cond_f, if_true, if_false, Bool.false_eq_true, reduceIte, reduceCtorEq, wipeE, Nat.reduceAdd, Nat.reduceSub, Nat.reduceLT, Nat.reduceLeDiff, Nat.lt_add_one, Nat.zero_add, Int.reduceNeg, Bool.not_true, Bool.not_false, bf_len_t, bf_len_l, bf_abs, bf_min2, bf_max2, bf_int_b, bf_repr, bf_list_l, bf_list_t, bf_tuple_l, bf_tuple_t, bf_all, bf_any, bf_sum, bf_isi, bin_add, bin_sub, bin_mul, bin_fdv, bin_mod, bin_p18, bin_p12, bin_add_t, bin_add_l, bin_add_s, bin_mul_t, cmpP_eq, eqO_s, cmpP_ne, cmpP_lt, cmpP_le, cmpP_gt, cmpP_ge, cmpP_in, cmpP_nin, eqP_int, eqP_str, eq_nil_nil, eq_lay, eq_row, eq_rns, add_rns, perm10, idx_t, idx_l, idx_pl0, idx_pl1, idx_lp0, idx_lp1, idx_rw0, kob_0, kob_1, kput_0, kput_1, sli_t, sli_l, rev_t, rev_l, items_t, items_l, seq_t, seq_l, bools_nil, bools_cons, compL, consO, List.all_cons, List.all_nil, List.any_cons, List.any_nil, id_eq, Bool.and_true, Bool.true_and, Bool.and_self, finD_rt, finD_nx, ix3_0, ix3_1, ix3_2, ne_eq, not_false_eq_true, not_true_eq_false, Int.reduceEq, Int.reduceLT, Int.reduceLE, decide_true, decide_false, List.set_set, s_pl]
    · simp only [lgB, decide_eq_false (show ¬ ((1 : Int) ≤ (xs.length : Int) ∧ (xs.length : Int) ≤ 6) by omega), evSs, evS, evT, evE, evL, evAll, Out.bind_ok, Out.bind_exc, Out.bind_err, bind_assoc_, Out.nox_ok, opt_some, opt_none, optD_some, optD_none, datb_, lookO, lookF_dat, look_dat, dats_nil, dats_cons, Option.map_some, Option.map_none, asT, asTs, it_ok, it_bind, dfl, List.map_nil, List.map_cons, List.append_nil, List.nil_append, List.cons_append, List.replicate_zero, List.replicate_succ, Nat.sub_self, List.getElem?_cons_zero, List.getElem?_cons_succ, List.set_cons_zero, List.set_cons_succ, List.length_cons, List.length_nil, at_0, at_1, at_2, at_3, isTy, bind_nm, bind_tp, bpts_nil, bpts_cons, retOf, isNon, partO, cond_t, cond_f, if_true, if_false, Bool.false_eq_true, reduceIte, reduceCtorEq, wipeE, Nat.reduceAdd, Nat.reduceSub, Nat.reduceLT, Nat.reduceLeDiff, Nat.lt_add_one, Nat.zero_add, Int.reduceNeg, Bool.not_true, Bool.not_false, bf_len_t, bf_len_l, bf_abs, bf_min2, bf_max2, bf_int_b, bf_repr, bf_list_l, bf_list_t, bf_tuple_l, bf_tuple_t, bf_all, bf_any, bf_sum, bf_isi, bin_add, bin_sub, bin_mul, bin_fdv, bin_mod, bin_p18, bin_p12, bin_add_t, bin_add_l, bin_add_s, bin_mul_t, cmpP_eq, eqO_s, cmpP_ne, cmpP_lt, cmpP_le, cmpP_gt, cmpP_ge, cmpP_in, cmpP_nin, eqP_int, eqP_str, eq_nil_nil, eq_lay, eq_row, eq_rns, add_rns, perm10, idx_t, idx_l, idx_pl0, idx_pl1, idx_lp0, idx_lp1, idx_rw0, kob_0, kob_1, kput_0, kput_1, sli_t, sli_l, rev_t, rev_l, items_t, items_l, seq_t, seq_l, bools_nil, bools_cons, compL, consO, List.all_cons, List.all_nil, List.any_cons, List.any_nil, id_eq, Bool.and_true, Bool.true_and, Bool.and_self, finD_rt, finD_nx, ix3_0, ix3_1, ix3_2, ne_eq, not_false_eq_true, not_true_eq_false, Int.reduceEq, Int.reduceLT, Int.reduceLE, decide_true, decide_false, List.set_set, isLy, decide_eq_false h, Bool.false_and]
  | _ => simp only [lgB, evSs, evS, evT, evE, evL, evAll, Out.bind_ok, Out.bind_exc, Out.bind_err, bind_assoc_, Out.nox_ok, opt_some, opt_none, optD_some, optD_none, datb_, lookO, lookF_dat, look_dat, dats_nil, dats_cons, Option.map_some, Option.map_none, asT, asTs, it_ok, it_bind, dfl, List.map_nil, List.map_cons, List.append_nil, List.nil_append, List.cons_append, List.replicate_zero, List.replicate_succ, Nat.sub_self, List.getElem?_cons_zero, List.getElem?_cons_succ, List.set_cons_zero, List.set_cons_succ, List.length_cons, List.length_nil, at_0, at_1, at_2, at_3, isTy, bind_nm, bind_tp, bpts_nil, bpts_cons, retOf, isNon, partO, cond_t, cond_f, if_true, if_false, Bool.false_eq_true, reduceIte, reduceCtorEq, wipeE, Nat.reduceAdd, Nat.reduceSub, Nat.reduceLT, Nat.reduceLeDiff, Nat.lt_add_one, Nat.zero_add, Int.reduceNeg, Bool.not_true, Bool.not_false, bf_len_t, bf_len_l, bf_abs, bf_min2, bf_max2, bf_int_b, bf_repr, bf_list_l, bf_list_t, bf_tuple_l, bf_tuple_t, bf_all, bf_any, bf_sum, bf_isi, bin_add, bin_sub, bin_mul, bin_fdv, bin_mod, bin_p18, bin_p12, bin_add_t, bin_add_l, bin_add_s, bin_mul_t, cmpP_eq, eqO_s, cmpP_ne, cmpP_lt, cmpP_le, cmpP_gt, cmpP_ge, cmpP_in, cmpP_nin, eqP_int, eqP_str, eq_nil_nil, eq_lay, eq_row, eq_rns, add_rns, perm10, idx_t, idx_l, idx_pl0, idx_pl1, idx_lp0, idx_lp1, idx_rw0, kob_0, kob_1, kput_0, kput_1, sli_t, sli_l, rev_t, rev_l, items_t, items_l, seq_t, seq_l, bools_nil, bools_cons, compL, consO, List.all_cons, List.all_nil, List.any_cons, List.any_nil, id_eq, Bool.and_true, Bool.true_and, Bool.and_self, finD_rt, finD_nx, ix3_0, ix3_1, ix3_2, ne_eq, not_false_eq_true, not_true_eq_false, Int.reduceEq, Int.reduceLT, Int.reduceLE, decide_true, decide_false, List.set_set, isLy]
/-! ### the law's looks -/
theorem s_law_wh {k : Nat} {p : PyData} {S : Store} : callN PP W (k + 1) 11 [.dat p] S = .ok (.dat (.bool (isWh p))) S := by
  rw [callN_at P_11 rfl]
  cases p <;> simp only [d_11, b_11, evSs, evS, evT, evE, evL, evAll, Out.bind_ok, Out.bind_exc, Out.bind_err, bind_assoc_, Out.nox_ok, opt_some, opt_none, optD_some, optD_none, datb_, lookO, lookF_dat, look_dat, dats_nil, dats_cons, Option.map_some, Option.map_none, asT, asTs, it_ok, it_bind, dfl, List.map_nil, List.map_cons, List.append_nil, List.nil_append, List.cons_append, List.replicate_zero, List.replicate_succ, Nat.sub_self, List.getElem?_cons_zero, List.getElem?_cons_succ, List.set_cons_zero, List.set_cons_succ, List.length_cons, List.length_nil, at_0, at_1, at_2, at_3, isTy, bind_nm, bind_tp, bpts_nil, bpts_cons, retOf, isNon, partO, cond_t, cond_f, if_true, if_false, Bool.false_eq_true, reduceIte, reduceCtorEq, wipeE, Nat.reduceAdd, Nat.reduceSub, Nat.reduceLT, Nat.reduceLeDiff, Nat.lt_add_one, Nat.zero_add, Int.reduceNeg, Bool.not_true, Bool.not_false, bf_len_t, bf_len_l, bf_abs, bf_min2, bf_max2, bf_int_b, bf_repr, bf_list_l, bf_list_t, bf_tuple_l, bf_tuple_t, bf_all, bf_any, bf_sum, bf_isi, bin_add, bin_sub, bin_mul, bin_fdv, bin_mod, bin_p18, bin_p12, bin_add_t, bin_add_l, bin_add_s, bin_mul_t, cmpP_eq, eqO_s, cmpP_ne, cmpP_lt, cmpP_le, cmpP_gt, cmpP_ge, cmpP_in, cmpP_nin, eqP_int, eqP_str, eq_nil_nil, eq_lay, eq_row, eq_rns, add_rns, perm10, idx_t, idx_l, idx_pl0, idx_pl1, idx_lp0, idx_lp1, idx_rw0, kob_0, kob_1, kput_0, kput_1, sli_t, sli_l, rev_t, rev_l, items_t, items_l, seq_t, seq_l, bools_nil, bools_cons, compL, consO, List.all_cons, List.all_nil, List.any_cons, List.any_nil, id_eq, Bool.and_true, Bool.true_and, Bool.and_self, finD_rt, finD_nx, ix3_0, ix3_1, ix3_2, ne_eq, not_false_eq_true, not_true_eq_false, Int.reduceEq, Int.reduceLT, Int.reduceLE, decide_true, decide_false, List.set_set, isWh]
theorem s_law_spot {k : Nat} {p : PyData} {S : Store} : callN PP W (k + 2) 12 [.dat p] S = .ok (.dat (.bool (isPl p))) S := by
  rw [callN_at P_12 rfl]
  simp only [d_12, b_12, evSs, evS, evT, evE, evL, evAll, Out.bind_ok, Out.bind_exc, Out.bind_err, bind_assoc_, Out.nox_ok, opt_some, opt_none, optD_some, optD_none, datb_, lookO, lookF_dat, look_dat, dats_nil, dats_cons, Option.map_some, Option.map_none, asT, asTs, it_ok, it_bind, dfl, List.map_nil, List.map_cons, List.append_nil, List.nil_append, List.cons_append, List.replicate_zero, List.replicate_succ, Nat.sub_self, List.getElem?_cons_zero, List.getElem?_cons_succ, List.set_cons_zero, List.set_cons_succ, List.length_cons, List.length_nil, at_0, at_1, at_2, at_3, isTy, bind_nm, bind_tp, bpts_nil, bpts_cons, retOf, isNon, partO, cond_t, cond_f, if_true, if_false, Bool.false_eq_true, reduceIte, reduceCtorEq, wipeE, Nat.reduceAdd, Nat.reduceSub, Nat.reduceLT, Nat.reduceLeDiff, Nat.lt_add_one, Nat.zero_add, Int.reduceNeg, Bool.not_true, Bool.not_false, bf_len_t, bf_len_l, bf_abs, bf_min2, bf_max2, bf_int_b, bf_repr, bf_list_l, bf_list_t, bf_tuple_l, bf_tuple_t, bf_all, bf_any, bf_sum, bf_isi, bin_add, bin_sub, bin_mul, bin_fdv, bin_mod, bin_p18, bin_p12, bin_add_t, bin_add_l, bin_add_s, bin_mul_t, cmpP_eq, eqO_s, cmpP_ne, cmpP_lt, cmpP_le, cmpP_gt, cmpP_ge, cmpP_in, cmpP_nin, eqP_int, eqP_str, eq_nil_nil, eq_lay, eq_row, eq_rns, add_rns, perm10, idx_t, idx_l, idx_pl0, idx_pl1, idx_lp0, idx_lp1, idx_rw0, kob_0, kob_1, kput_0, kput_1, sli_t, sli_l, rev_t, rev_l, items_t, items_l, seq_t, seq_l, bools_nil, bools_cons, compL, consO, List.all_cons, List.all_nil, List.any_cons, List.any_nil, id_eq, Bool.and_true, Bool.true_and, Bool.and_self, finD_rt, finD_nx, ix3_0, ix3_1, ix3_2, ne_eq, not_false_eq_true, not_true_eq_false, Int.reduceEq, Int.reduceLT, Int.reduceLE, decide_true, decide_false, List.set_set]
  cases p with
  | tuple xs =>
    by_cases h : xs.length = 2
    · have zz : xs.length < sizeLine := by rw [h, sizeLine_eq]; omega
      simp only [evSs, evS, evT, evE, evL, evAll, Out.bind_ok, Out.bind_exc, Out.bind_err, bind_assoc_, Out.nox_ok, opt_some, opt_none, optD_some, optD_none, datb_, lookO, lookF_dat, look_dat, dats_nil, dats_cons, Option.map_some, Option.map_none, asT, asTs, it_ok, it_bind, dfl, List.map_nil, List.map_cons, List.append_nil, List.nil_append, List.cons_append, List.replicate_zero, List.replicate_succ, Nat.sub_self, List.getElem?_cons_zero, List.getElem?_cons_succ, List.set_cons_zero, List.set_cons_succ, List.length_cons, List.length_nil, at_0, at_1, at_2, at_3, isTy, bind_nm, bind_tp, bpts_nil, bpts_cons, retOf, isNon, partO, cond_t, cond_f, if_true, if_false, Bool.false_eq_true, reduceIte, reduceCtorEq, wipeE, Nat.reduceAdd, Nat.reduceSub, Nat.reduceLT, Nat.reduceLeDiff, Nat.lt_add_one, Nat.zero_add, Int.reduceNeg, Bool.not_true, Bool.not_false, bf_len_t, bf_len_l, bf_abs, bf_min2, bf_max2, bf_int_b, bf_repr, bf_list_l, bf_list_t, bf_tuple_l, bf_tuple_t, bf_all, bf_any, bf_sum, bf_isi, bin_add, bin_sub, bin_mul, bin_fdv, bin_mod, bin_p18, bin_p12, bin_add_t, bin_add_l, bin_add_s, bin_mul_t, cmpP_eq, eqO_s, cmpP_ne, cmpP_lt, cmpP_le, cmpP_gt, cmpP_ge, cmpP_in, cmpP_nin, eqP_int, eqP_str, eq_nil_nil, eq_lay, eq_row, eq_rns, add_rns, perm10, idx_t, idx_l, idx_pl0, idx_pl1, idx_lp0, idx_lp1, idx_rw0, kob_0, kob_1, kput_0, kput_1, sli_t, sli_l, rev_t, rev_l, items_t, items_l, seq_t, seq_l, bools_nil, bools_cons, compL, consO, List.all_cons, List.all_nil, List.any_cons, List.any_nil, id_eq, Bool.and_true, Bool.true_and, Bool.and_self, finD_rt, finD_nx, ix3_0, ix3_1, ix3_2, ne_eq, not_false_eq_true, not_true_eq_false, Int.reduceEq, Int.reduceLT, Int.reduceLE, decide_true, decide_false, List.set_set, decide_eq_true (show ((xs.length : Nat) : Int) = 2 by omega), zz]
      rw [comp_mapL (g := fun x => .bool (isWh x))]
      · simp only [evSs, evS, evT, evE, evL, evAll, Out.bind_ok, Out.bind_exc, Out.bind_err, bind_assoc_, Out.nox_ok, opt_some, opt_none, optD_some, optD_none, datb_, lookO, lookF_dat, look_dat, dats_nil, dats_cons, Option.map_some, Option.map_none, asT, asTs, it_ok, it_bind, dfl, List.map_nil, List.map_cons, List.append_nil, List.nil_append, List.cons_append, List.replicate_zero, List.replicate_succ, Nat.sub_self, List.getElem?_cons_zero, List.getElem?_cons_succ, List.set_cons_zero, List.set_cons_succ, List.length_cons, List.length_nil, at_0, at_1, at_2, at_3, isTy, bind_nm, bind_tp, bpts_nil, bpts_cons, retOf, isNon, partO, cond_t, cond_f, if_true, if_false, Bool.false_eq_true, reduceIte, reduceCtorEq, wipeE, Nat.reduceAdd, Nat.reduceSub, Nat.reduceLT, Nat.reduceLeDiff, Nat.lt_add_one, Nat.zero_add, Int.reduceNeg, Bool.not_true, Bool.not_false, bf_len_t, bf_len_l, bf_abs, bf_min2, bf_max2, bf_int_b, bf_repr, bf_list_l, bf_list_t, bf_tuple_l, bf_tuple_t, bf_all, bf_any, bf_sum, bf_isi, bin_add, bin_sub, bin_mul, bin_fdv, bin_mod, bin_p18, bin_p12, bin_add_t, bin_add_l, bin_add_s, bin_mul_t, cmpP_eq, eqO_s, cmpP_ne, cmpP_lt, cmpP_le, cmpP_gt, cmpP_ge, cmpP_in, cmpP_nin, eqP_int, eqP_str, eq_nil_nil, eq_lay, eq_row, eq_rns, add_rns, perm10, idx_t, idx_l, idx_pl0, idx_pl1, idx_lp0, idx_lp1, idx_rw0, kob_0, kob_1, kput_0, kput_1, sli_t, sli_l, rev_t, rev_l, items_t, items_l, seq_t, seq_l, bools_nil, bools_cons, compL, consO, List.all_cons, List.all_nil, List.any_cons, List.any_nil, id_eq, Bool.and_true, Bool.true_and, Bool.and_self, finD_rt, finD_nx, ix3_0, ix3_1, ix3_2, ne_eq, not_false_eq_true, not_true_eq_false, Int.reduceEq, Int.reduceLT, Int.reduceLE, decide_true, decide_false, List.set_set, boolsOf_map]
        simp only [isPl, decide_eq_true h, Bool.true_and, List.all_map]
        rfl
      · intro x _
        simp only [evSs, evS, evT, evE, evL, evAll, Out.bind_ok, Out.bind_exc, Out.bind_err, bind_assoc_, Out.nox_ok, opt_some, opt_none, optD_some, optD_none, datb_, lookO, lookF_dat, look_dat, dats_nil, dats_cons, Option.map_some, Option.map_none, asT, asTs, it_ok, it_bind, dfl, List.map_nil, List.map_cons, List.append_nil, List.nil_append, List.cons_append, List.replicate_zero, List.replicate_succ, Nat.sub_self, List.getElem?_cons_zero, List.getElem?_cons_succ, List.set_cons_zero, List.set_cons_succ, List.length_cons, List.length_nil, at_0, at_1, at_2, at_3, isTy, bind_nm, bind_tp, bpts_nil, bpts_cons, retOf, isNon, partO, cond_t, cond_f, if_true, if_false, Bool.false_eq_true, reduceIte, reduceCtorEq, wipeE, Nat.reduceAdd, Nat.reduceSub, Nat.reduceLT, Nat.reduceLeDiff, Nat.lt_add_one, Nat.zero_add, Int.reduceNeg, Bool.not_true, Bool.not_false, bf_len_t, bf_len_l, bf_abs, bf_min2, bf_max2, bf_int_b, bf_repr, bf_list_l, bf_list_t, bf_tuple_l, bf_tuple_t, bf_all, bf_any, bf_sum, bf_isi, bin_add, bin_sub, bin_mul, bin_fdv, bin_mod, bin_p18, bin_p12, bin_add_t, bin_add_l, bin_add_s, bin_mul_t, cmpP_eq, eqO_s, cmpP_ne, cmpP_lt, cmpP_le, cmpP_gt, cmpP_ge, cmpP_in, cmpP_nin, eqP_int, eqP_str, eq_nil_nil, eq_lay, eq_row, eq_rns, add_rns, perm10, idx_t, idx_l, idx_pl0, idx_pl1, idx_lp0, idx_lp1, idx_rw0, kob_0, kob_1, kput_0, kput_1, sli_t, sli_l, rev_t, rev_l, items_t, items_l, seq_t, seq_l, bools_nil, bools_cons, compL, consO, List.all_cons, List.all_nil, List.any_cons, List.any_nil, id_eq, Bool.and_true, Bool.true_and, Bool.and_self, finD_rt, finD_nx, ix3_0, ix3_1, ix3_2, ne_eq, not_false_eq_true, not_true_eq_false, Int.reduceEq, Int.reduceLT, Int.reduceLE, decide_true, decide_false, List.set_set, s_law_wh]
    · simp only [evSs, evS, evT, evE, evL, evAll, Out.bind_ok, Out.bind_exc, Out.bind_err, bind_assoc_, Out.nox_ok, opt_some, opt_none, optD_some, optD_none, datb_, lookO, lookF_dat, look_dat, dats_nil, dats_cons, Option.map_some, Option.map_none, asT, asTs, it_ok, it_bind, dfl, List.map_nil, List.map_cons, List.append_nil, List.nil_append, List.cons_append, List.replicate_zero, List.replicate_succ, Nat.sub_self, List.getElem?_cons_zero, List.getElem?_cons_succ, List.set_cons_zero, List.set_cons_succ, List.length_cons, List.length_nil, at_0, at_1, at_2, at_3, isTy, bind_nm, bind_tp, bpts_nil, bpts_cons, retOf, isNon, partO, cond_t, cond_f, if_true, if_false, Bool.false_eq_true, reduceIte, reduceCtorEq, wipeE, Nat.reduceAdd, Nat.reduceSub, Nat.reduceLT, Nat.reduceLeDiff, Nat.lt_add_one, Nat.zero_add, Int.reduceNeg, Bool.not_true, Bool.not_false, bf_len_t, bf_len_l, bf_abs, bf_min2, bf_max2, bf_int_b, bf_repr, bf_list_l, bf_list_t, bf_tuple_l, bf_tuple_t, bf_all, bf_any, bf_sum, bf_isi, bin_add, bin_sub, bin_mul, bin_fdv, bin_mod, bin_p18, bin_p12, bin_add_t, bin_add_l, bin_add_s, bin_mul_t, cmpP_eq, eqO_s, cmpP_ne, cmpP_lt, cmpP_le, cmpP_gt, cmpP_ge, cmpP_in, cmpP_nin, eqP_int, eqP_str, eq_nil_nil, eq_lay, eq_row, eq_rns, add_rns, perm10, idx_t, idx_l, idx_pl0, idx_pl1, idx_lp0, idx_lp1, idx_rw0, kob_0, kob_1, kput_0, kput_1, sli_t, sli_l, rev_t, rev_l, items_t, items_l, seq_t, seq_l, bools_nil, bools_cons, compL, consO, List.all_cons, List.all_nil, List.any_cons, List.any_nil, id_eq, Bool.and_true, Bool.true_and, Bool.and_self, finD_rt, finD_nx, ix3_0, ix3_1, ix3_2, ne_eq, not_false_eq_true, not_true_eq_false, Int.reduceEq, Int.reduceLT, Int.reduceLE, decide_true, decide_false, List.set_set, decide_eq_false (show ¬ ((xs.length : Nat) : Int) = 2 by omega), isPl, decide_eq_false h, Bool.false_and]
  | _ => simp only [evSs, evS, evT, evE, evL, evAll, Out.bind_ok, Out.bind_exc, Out.bind_err, bind_assoc_, Out.nox_ok, opt_some, opt_none, optD_some, optD_none, datb_, lookO, lookF_dat, look_dat, dats_nil, dats_cons, Option.map_some, Option.map_none, asT, asTs, it_ok, it_bind, dfl, List.map_nil, List.map_cons, List.append_nil, List.nil_append, List.cons_append, List.replicate_zero, List.replicate_succ, Nat.sub_self, List.getElem?_cons_zero, List.getElem?_cons_succ, List.set_cons_zero, List.set_cons_succ, List.length_cons, List.length_nil, at_0, at_1, at_2, at_3, isTy, bind_nm, bind_tp, bpts_nil, bpts_cons, retOf, isNon, partO, cond_t, cond_f, if_true, if_false, Bool.false_eq_true, reduceIte, reduceCtorEq, wipeE, Nat.reduceAdd, Nat.reduceSub, Nat.reduceLT, Nat.reduceLeDiff, Nat.lt_add_one, Nat.zero_add, Int.reduceNeg, Bool.not_true, Bool.not_false, bf_len_t, bf_len_l, bf_abs, bf_min2, bf_max2, bf_int_b, bf_repr, bf_list_l, bf_list_t, bf_tuple_l, bf_tuple_t, bf_all, bf_any, bf_sum, bf_isi, bin_add, bin_sub, bin_mul, bin_fdv, bin_mod, bin_p18, bin_p12, bin_add_t, bin_add_l, bin_add_s, bin_mul_t, cmpP_eq, eqO_s, cmpP_ne, cmpP_lt, cmpP_le, cmpP_gt, cmpP_ge, cmpP_in, cmpP_nin, eqP_int, eqP_str, eq_nil_nil, eq_lay, eq_row, eq_rns, add_rns, perm10, idx_t, idx_l, idx_pl0, idx_pl1, idx_lp0, idx_lp1, idx_rw0, kob_0, kob_1, kput_0, kput_1, sli_t, sli_l, rev_t, rev_l, items_t, items_l, seq_t, seq_l, bools_nil, bools_cons, compL, consO, List.all_cons, List.all_nil, List.any_cons, List.any_nil, id_eq, Bool.and_true, Bool.true_and, Bool.and_self, finD_rt, finD_nx, ix3_0, ix3_1, ix3_2, ne_eq, not_false_eq_true, not_true_eq_false, Int.reduceEq, Int.reduceLT, Int.reduceLE, decide_true, decide_false, List.set_set, isPl]
theorem s_law_is_lay {k : Nat} {p : PyData} {S : Store} : callN PP W (k + 3) 14 [.dat p] S = .ok (.dat (.bool (isLy p))) S := by
  rw [callN_at P_14 rfl]
  simp only [d_14, b_14, evSs, evS, evT, evE, evL, evAll, Out.bind_ok, Out.bind_exc, Out.bind_err, bind_assoc_, Out.nox_ok, opt_some, opt_none, optD_some, optD_none, datb_, lookO, lookF_dat, look_dat, dats_nil, dats_cons, Option.map_some, Option.map_none, asT, asTs, it_ok, it_bind, dfl, List.map_nil, List.map_cons, List.append_nil, List.nil_append, List.cons_append, List.replicate_zero, List.replicate_succ, Nat.sub_self, List.getElem?_cons_zero, List.getElem?_cons_succ, List.set_cons_zero, List.set_cons_succ, List.length_cons, List.length_nil, at_0, at_1, at_2, at_3, isTy, bind_nm, bind_tp, bpts_nil, bpts_cons, retOf, isNon, partO, cond_t, cond_f, if_true, if_false, Bool.false_eq_true, reduceIte, reduceCtorEq, wipeE, Nat.reduceAdd, Nat.reduceSub, Nat.reduceLT, Nat.reduceLeDiff, Nat.lt_add_one, Nat.zero_add, Int.reduceNeg, Bool.not_true, Bool.not_false, bf_len_t, bf_len_l, bf_abs, bf_min2, bf_max2, bf_int_b, bf_repr, bf_list_l, bf_list_t, bf_tuple_l, bf_tuple_t, bf_all, bf_any, bf_sum, bf_isi, bin_add, bin_sub, bin_mul, bin_fdv, bin_mod, bin_p18, bin_p12, bin_add_t, bin_add_l, bin_add_s, bin_mul_t, cmpP_eq, eqO_s, cmpP_ne, cmpP_lt, cmpP_le, cmpP_gt, cmpP_ge, cmpP_in, cmpP_nin, eqP_int, eqP_str, eq_nil_nil, eq_lay, eq_row, eq_rns, add_rns, perm10, idx_t, idx_l, idx_pl0, idx_pl1, idx_lp0, idx_lp1, idx_rw0, kob_0, kob_1, kput_0, kput_1, sli_t, sli_l, rev_t, rev_l, items_t, items_l, seq_t, seq_l, bools_nil, bools_cons, compL, consO, List.all_cons, List.all_nil, List.any_cons, List.any_nil, id_eq, Bool.and_true, Bool.true_and, Bool.and_self, finD_rt, finD_nx, ix3_0, ix3_1, ix3_2, ne_eq, not_false_eq_true, not_true_eq_false, Int.reduceEq, Int.reduceLT, Int.reduceLE, decide_true, decide_false, List.set_set]
  cases p with
  | tuple xs =>
    by_cases h1 : 1 ≤ xs.length
    · by_cases h2 : xs.length ≤ 6
      · have zz : xs.length < sizeLine := by rw [sizeLine_eq]; omega
        simp only [evSs, evS, evT, evE, evL, evAll, Out.bind_ok, Out.bind_exc, Out.bind_err, bind_assoc_, Out.nox_ok, opt_some, opt_none, optD_some, optD_none, datb_, lookO, lookF_dat, look_dat, dats_nil, dats_cons, Option.map_some, Option.map_none, asT, asTs, it_ok, it_bind, dfl, List.map_nil, List.map_cons, List.append_nil, List.nil_append, List.cons_append, List.replicate_zero, List.replicate_succ, Nat.sub_self, List.getElem?_cons_zero, List.getElem?_cons_succ, List.set_cons_zero, List.set_cons_succ, List.length_cons, List.length_nil, at_0, at_1, at_2, at_3, isTy, bind_nm, bind_tp, bpts_nil, bpts_cons, retOf, isNon, partO, cond_t, cond_f, if_true, if_false, Bool.false_eq_true, reduceIte, reduceCtorEq, wipeE, Nat.reduceAdd, Nat.reduceSub, Nat.reduceLT, Nat.reduceLeDiff, Nat.lt_add_one, Nat.zero_add, Int.reduceNeg, Bool.not_true, Bool.not_false, bf_len_t, bf_len_l, bf_abs, bf_min2, bf_max2, bf_int_b, bf_repr, bf_list_l, bf_list_t, bf_tuple_l, bf_tuple_t, bf_all, bf_any, bf_sum, bf_isi, bin_add, bin_sub, bin_mul, bin_fdv, bin_mod, bin_p18, bin_p12, bin_add_t, bin_add_l, bin_add_s, bin_mul_t, cmpP_eq, eqO_s, cmpP_ne, cmpP_lt, cmpP_le, cmpP_gt, cmpP_ge, cmpP_in, cmpP_nin, eqP_int, eqP_str, eq_nil_nil, eq_lay, eq_row, eq_rns, add_rns, perm10, idx_t, idx_l, idx_pl0, idx_pl1, idx_lp0, idx_lp1, idx_rw0, kob_0, kob_1, kput_0, kput_1, sli_t, sli_l, rev_t, rev_l, items_t, items_l, seq_t, seq_l, bools_nil, bools_cons, compL, consO, List.all_cons, List.all_nil, List.any_cons, List.any_nil, id_eq, Bool.and_true, Bool.true_and, Bool.and_self, finD_rt, finD_nx, ix3_0, ix3_1, ix3_2, ne_eq, not_false_eq_true, not_true_eq_false, Int.reduceEq, Int.reduceLT, Int.reduceLE, decide_true, decide_false, List.set_set, decide_eq_true (show (1 : Int) ≤ (xs.length : Int) by omega), decide_eq_true (show (xs.length : Int) ≤ 6 by omega), zz]
        rw [comp_mapL (g := fun x => .bool (isPl x))]
        · simp only [evSs, evS, evT, evE, evL, evAll, Out.bind_ok, Out.bind_exc, Out.bind_err, bind_assoc_, Out.nox_ok, opt_some, opt_none, optD_some, optD_none, datb_, lookO, lookF_dat, look_dat, dats_nil, dats_cons, Option.map_some, Option.map_none, asT, asTs, it_ok, it_bind, dfl, List.map_nil, List.map_cons, List.append_nil, List.nil_append, List.cons_append, List.replicate_zero, List.replicate_succ, Nat.sub_self, List.getElem?_cons_zero, List.getElem?_cons_succ, List.set_cons_zero, List.set_cons_succ, List.length_cons, List.length_nil, at_0, at_1, at_2, at_3, isTy, bind_nm, bind_tp, bpts_nil, bpts_cons, retOf, isNon, partO, cond_t, cond_f, if_true, if_false, Bool.false_eq_true, reduceIte, reduceCtorEq, wipeE, Nat.reduceAdd, Nat.reduceSub, Nat.reduceLT, Nat.reduceLeDiff, Nat.lt_add_one, Nat.zero_add, Int.reduceNeg, Bool.not_true, Bool.not_false, bf_len_t, bf_len_l, bf_abs, bf_min2, bf_max2, bf_int_b, bf_repr, bf_list_l, bf_list_t, bf_tuple_l, bf_tuple_t, bf_all, bf_any, bf_sum, bf_isi, bin_add, bin_sub, bin_mul, bin_fdv, bin_mod, bin_p18, bin_p12, bin_add_t, bin_add_l, bin_add_s, bin_mul_t, cmpP_eq, eqO_s, cmpP_ne, cmpP_lt, cmpP_le, cmpP_gt, cmpP_ge, cmpP_in, cmpP_nin, eqP_int, eqP_str, eq_nil_nil, eq_lay, eq_row, eq_rns, add_rns, perm10, idx_t, idx_l, idx_pl0, idx_pl1, idx_lp0, idx_lp1, idx_rw0, kob_0, kob_1, kput_0, kput_1, sli_t, sli_l, rev_t, rev_l, items_t, items_l, seq_t, seq_l, bools_nil, bools_cons, compL, consO, List.all_cons, List.all_nil, List.any_cons, List.any_nil, id_eq, Bool.and_true, Bool.true_and, Bool.and_self, finD_rt, finD_nx, ix3_0, ix3_1, ix3_2, ne_eq, not_false_eq_true, not_true_eq_false, Int.reduceEq, Int.reduceLT, Int.reduceLE, decide_true, decide_false, List.set_set, boolsOf_map]
          simp only [isLy, decide_eq_true (And.intro h1 h2), Bool.true_and, List.all_map]
          rfl
        · intro x _
          simp only [evSs, evS, evT, evE, evL, evAll, Out.bind_ok, Out.bind_exc, Out.bind_err, bind_assoc_, Out.nox_ok, opt_some, opt_none, optD_some, optD_none, datb_, lookO, lookF_dat, look_dat, dats_nil, dats_cons, Option.map_some, Option.map_none, asT, asTs, it_ok, it_bind, dfl, List.map_nil, List.map_cons, List.append_nil, List.nil_append, List.cons_append, List.replicate_zero, List.replicate_succ, Nat.sub_self, List.getElem?_cons_zero, List.getElem?_cons_succ, List.set_cons_zero, List.set_cons_succ, List.length_cons, List.length_nil, at_0, at_1, at_2, at_3, isTy, bind_nm, bind_tp, bpts_nil, bpts_cons, retOf, isNon, partO, cond_t, cond_f, if_true, if_false, Bool.false_eq_true, reduceIte, reduceCtorEq, wipeE, Nat.reduceAdd, Nat.reduceSub, Nat.reduceLT, Nat.reduceLeDiff, Nat.lt_add_one, Nat.zero_add, Int.reduceNeg, Bool.not_true, Bool.not_false, bf_len_t, bf_len_l, bf_abs, bf_min2, bf_max2, bf_int_b, bf_repr, bf_list_l, bf_list_t, bf_tuple_l, bf_tuple_t, bf_all, bf_any, bf_sum, bf_isi, bin_add, bin_sub, bin_mul, bin_fdv, bin_mod, bin_p18, bin_p12, bin_add_t, bin_add_l, bin_add_s, bin_mul_t, cmpP_eq, eqO_s, cmpP_ne, cmpP_lt, cmpP_le, cmpP_gt, cmpP_ge, cmpP_in, cmpP_nin, eqP_int, eqP_str, eq_nil_nil, eq_lay, eq_row, eq_rns, add_rns, perm10, idx_t, idx_l, idx_pl0, idx_pl1, idx_lp0, idx_lp1, idx_rw0, kob_0, kob_1, kput_0, kput_1, sli_t, sli_l, rev_t, rev_l, items_t, items_l, seq_t, seq_l, bools_nil, bools_cons, compL, consO, List.all_cons, List.all_nil, List.any_cons, List.any_nil, id_eq, Bool.and_true, Bool.true_and, Bool.and_self, finD_rt, finD_nx, ix3_0, ix3_1, ix3_2, ne_eq, not_false_eq_true, not_true_eq_false, Int.reduceEq, Int.reduceLT, Int.reduceLE, decide_true, decide_false, List.set_set, s_law_spot]
      · simp only [evSs, evS, evT, evE, evL, evAll, Out.bind_ok, Out.bind_exc, Out.bind_err, bind_assoc_, Out.nox_ok, opt_some, opt_none, optD_some, optD_none, datb_, lookO, lookF_dat, look_dat, dats_nil, dats_cons, Option.map_some, Option.map_none, asT, asTs, it_ok, it_bind, dfl, List.map_nil, List.map_cons, List.append_nil, List.nil_append, List.cons_append, List.replicate_zero, List.replicate_succ, Nat.sub_self, List.getElem?_cons_zero, List.getElem?_cons_succ, List.set_cons_zero, List.set_cons_succ, List.length_cons, List.length_nil, at_0, at_1, at_2, at_3, isTy, bind_nm, bind_tp, bpts_nil, bpts_cons, retOf, isNon, partO, cond_t, cond_f, if_true, if_false, Bool.false_eq_true, reduceIte, reduceCtorEq, wipeE, Nat.reduceAdd, Nat.reduceSub, Nat.reduceLT, Nat.reduceLeDiff, Nat.lt_add_one, Nat.zero_add, Int.reduceNeg, Bool.not_true, Bool.not_false, bf_len_t, bf_len_l, bf_abs, bf_min2, bf_max2, bf_int_b, bf_repr, bf_list_l, bf_list_t, bf_tuple_l, bf_tuple_t, bf_all, bf_any, bf_sum, bf_isi, bin_add, bin_sub, bin_mul, bin_fdv, bin_mod, bin_p18, bin_p12, bin_add_t, bin_add_l, bin_add_s, bin_mul_t, cmpP_eq, eqO_s, cmpP_ne, cmpP_lt, cmpP_le, cmpP_gt, cmpP_ge, cmpP_in, cmpP_nin, eqP_int, eqP_str, eq_nil_nil, eq_lay, eq_row, eq_rns, add_rns, perm10, idx_t, idx_l, idx_pl0, idx_pl1, idx_lp0, idx_lp1, idx_rw0, kob_0, kob_1, kput_0, kput_1, sli_t, sli_l, rev_t, rev_l, items_t, items_l, seq_t, seq_l, bools_nil, bools_cons, compL, consO, List.all_cons, List.all_nil, List.any_cons, List.any_nil, id_eq, Bool.and_true, Bool.true_and, Bool.and_self, finD_rt, finD_nx, ix3_0, ix3_1, ix3_2, ne_eq, not_false_eq_true, not_true_eq_false, Int.reduceEq, Int.reduceLT, Int.reduceLE, decide_true, decide_false, List.set_set, decide_eq_true (show (1 : Int) ≤ (xs.length : Int) by omega), decide_eq_false (show ¬ (xs.length : Int) ≤ 6 by omega), isLy, decide_eq_false (show ¬ (1 ≤ xs.length ∧ xs.length ≤ 6) by omega), Bool.false_and]
    · simp only [evSs, evS, evT, evE, evL, evAll, Out.bind_ok, Out.bind_exc, Out.bind_err, bind_assoc_, Out.nox_ok, opt_some, opt_none, optD_some, optD_none, datb_, lookO, lookF_dat, look_dat, dats_nil, dats_cons, Option.map_some, Option.map_none, asT, asTs, it_ok, it_bind, dfl, List.map_nil, List.map_cons, List.append_nil, List.nil_append, List.cons_append, List.replicate_zero, List.replicate_succ, Nat.sub_self, List.getElem?_cons_zero, List.getElem?_cons_succ, List.set_cons_zero, List.set_cons_succ, List.length_cons, List.length_nil, at_0, at_1, at_2, at_3, isTy, bind_nm, bind_tp, bpts_nil, bpts_cons, retOf, isNon, partO, cond_t, cond_f, if_true, if_false, Bool.false_eq_true, reduceIte, reduceCtorEq, wipeE, Nat.reduceAdd, Nat.reduceSub, Nat.reduceLT, Nat.reduceLeDiff, Nat.lt_add_one, Nat.zero_add, Int.reduceNeg, Bool.not_true, Bool.not_false, bf_len_t, bf_len_l, bf_abs, bf_min2, bf_max2, bf_int_b, bf_repr, bf_list_l, bf_list_t, bf_tuple_l, bf_tuple_t, bf_all, bf_any, bf_sum, bf_isi, bin_add, bin_sub, bin_mul, bin_fdv, bin_mod, bin_p18, bin_p12, bin_add_t, bin_add_l, bin_add_s, bin_mul_t, cmpP_eq, eqO_s, cmpP_ne, cmpP_lt, cmpP_le, cmpP_gt, cmpP_ge, cmpP_in, cmpP_nin, eqP_int, eqP_str, eq_nil_nil, eq_lay, eq_row, eq_rns, add_rns, perm10, idx_t, idx_l, idx_pl0, idx_pl1, idx_lp0, idx_lp1, idx_rw0, kob_0, kob_1, kput_0, kput_1, sli_t, sli_l, rev_t, rev_l, items_t, items_l, seq_t, seq_l, bools_nil, bools_cons, compL, consO, List.all_cons, List.all_nil, List.any_cons, List.any_nil, id_eq, Bool.and_true, Bool.true_and, Bool.and_self, finD_rt, finD_nx, ix3_0, ix3_1, ix3_2, ne_eq, not_false_eq_true, not_true_eq_false, Int.reduceEq, Int.reduceLT, Int.reduceLE, decide_true, decide_false, List.set_set, decide_eq_false (show ¬ (1 : Int) ≤ (xs.length : Int) by omega), isLy, decide_eq_false (show ¬ (1 ≤ xs.length ∧ xs.length ≤ 6) by omega), Bool.false_and]
  | _ => simp only [evSs, evS, evT, evE, evL, evAll, Out.bind_ok, Out.bind_exc, Out.bind_err, bind_assoc_, Out.nox_ok, opt_some, opt_none, optD_some, optD_none, datb_, lookO, lookF_dat, look_dat, dats_nil, dats_cons, Option.map_some, Option.map_none, asT, asTs, it_ok, it_bind, dfl, List.map_nil, List.map_cons, List.append_nil, List.nil_append, List.cons_append, List.replicate_zero, List.replicate_succ, Nat.sub_self, List.getElem?_cons_zero, List.getElem?_cons_succ, List.set_cons_zero, List.set_cons_succ, List.length_cons, List.length_nil, at_0, at_1, at_2, at_3, isTy, bind_nm, bind_tp, bpts_nil, bpts_cons, retOf, isNon, partO, cond_t, cond_f, if_true, if_false, Bool.false_eq_true, reduceIte, reduceCtorEq, wipeE, Nat.reduceAdd, Nat.reduceSub, Nat.reduceLT, Nat.reduceLeDiff, Nat.lt_add_one, Nat.zero_add, Int.reduceNeg, Bool.not_true, Bool.not_false, bf_len_t, bf_len_l, bf_abs, bf_min2, bf_max2, bf_int_b, bf_repr, bf_list_l, bf_list_t, bf_tuple_l, bf_tuple_t, bf_all, bf_any, bf_sum, bf_isi, bin_add, bin_sub, bin_mul, bin_fdv, bin_mod, bin_p18, bin_p12, bin_add_t, bin_add_l, bin_add_s, bin_mul_t, cmpP_eq, eqO_s, cmpP_ne, cmpP_lt, cmpP_le, cmpP_gt, cmpP_ge, cmpP_in, cmpP_nin, eqP_int, eqP_str, eq_nil_nil, eq_lay, eq_row, eq_rns, add_rns, perm10, idx_t, idx_l, idx_pl0, idx_pl1, idx_lp0, idx_lp1, idx_rw0, kob_0, kob_1, kput_0, kput_1, sli_t, sli_l, rev_t, rev_l, items_t, items_l, seq_t, seq_l, bools_nil, bools_cons, compL, consO, List.all_cons, List.all_nil, List.any_cons, List.any_nil, id_eq, Bool.and_true, Bool.true_and, Bool.and_self, finD_rt, finD_nx, ix3_0, ix3_1, ix3_2, ne_eq, not_false_eq_true, not_true_eq_false, Int.reduceEq, Int.reduceLT, Int.reduceLE, decide_true, decide_false, List.set_set, isLy]
theorem s_odd {k n l : Nat} {S : Store} (h : Pen n l S) (hn : n ≤ 2 ^ 90) : (callN PP W (k + 3) 13 [.ref l] S).sat fun v S' => (∃ x, v = Val.dat x ∧ Gd 40 3 500 x) ∧ Pen (n + 1) l S' ∧ Fr l S S' := by
  refine call_pen P_13 rfl h.lt ?_
  have zz : ∀ a : Nat, a ≤ 100 → a ≤ sizeLine := fun a ha => by rw [sizeLine_eq]; omega
  have p11 : binP .pow (.int 10) (.int 11) = some (.int 100000000000) := by unfold binP; rfl
  have z0 := zz 0 (by omega)
  have z1 := zz 1 (by omega)
  have z2 := zz 2 (by omega)
  have z3 := zz 3 (by omega)
  have z4 := zz 4 (by omega)
  have z17 := zz 17 (by omega)
  have z20 := zz 20 (by omega)
  simp only [d_13, b_13, sat_okI, evS, evT, evE, evL, evAll, Out.bind_ok, Out.bind_exc, Out.bind_err, bind_assoc_, Out.nox_ok, opt_some, opt_none, optD_some, optD_none, datb_, lookO, lookF_dat, look_dat, dats_nil, dats_cons, Option.map_some, Option.map_none, asT, asTs, it_ok, it_bind, dfl, List.map_nil, List.map_cons, List.append_nil, List.nil_append, List.cons_append, List.replicate_zero, List.replicate_succ, Nat.sub_self, List.getElem?_cons_zero, List.getElem?_cons_succ, List.set_cons_zero, List.set_cons_succ, List.length_cons, List.length_nil, at_0, at_1, at_2, at_3, isTy, bind_nm, bind_tp, bpts_nil, bpts_cons, retOf, isNon, partO, cond_t, cond_f, if_true, if_false, Bool.false_eq_true, reduceIte, reduceCtorEq, wipeE, Nat.reduceAdd, Nat.reduceSub, Nat.reduceLT, Nat.reduceLeDiff, Nat.lt_add_one, Nat.zero_add, Int.reduceNeg, Bool.not_true, Bool.not_false, bf_len_t, bf_len_l, bf_abs, bf_min2, bf_max2, bf_int_b, bf_repr, bf_list_l, bf_list_t, bf_tuple_l, bf_tuple_t, bf_all, bf_any, bf_sum, bf_isi, bin_add, bin_sub, bin_mul, bin_fdv, bin_mod, bin_p18, bin_p12, bin_add_t, bin_add_l, bin_add_s, bin_mul_t, cmpP_eq, eqO_s, cmpP_ne, cmpP_lt, cmpP_le, cmpP_gt, cmpP_ge, cmpP_in, cmpP_nin, eqP_int, eqP_str, eq_nil_nil, eq_lay, eq_row, eq_rns, add_rns, perm10, idx_t, idx_l, idx_pl0, idx_pl1, idx_lp0, idx_lp1, idx_rw0, kob_0, kob_1, kput_0, kput_1, sli_t, sli_l, rev_t, rev_l, items_t, items_l, seq_t, seq_l, bools_nil, bools_cons, compL, consO, List.all_cons, List.all_nil, List.any_cons, List.any_nil, id_eq, Bool.and_true, Bool.true_and, Bool.and_self, finD_rt, finD_nx, ix3_0, ix3_1, ix3_2, ne_eq, not_false_eq_true, not_true_eq_false, Int.reduceEq, Int.reduceLT, Int.reduceLE, decide_true, decide_false, List.set_set]
  refine sat_seq ?_
  simp only [sat_okI, evS, evT, evE, evL, evAll, Out.bind_ok, Out.bind_exc, Out.bind_err, bind_assoc_, Out.nox_ok, opt_some, opt_none, optD_some, optD_none, datb_, lookO, lookF_dat, look_dat, dats_nil, dats_cons, Option.map_some, Option.map_none, asT, asTs, it_ok, it_bind, dfl, List.map_nil, List.map_cons, List.append_nil, List.nil_append, List.cons_append, List.replicate_zero, List.replicate_succ, Nat.sub_self, List.getElem?_cons_zero, List.getElem?_cons_succ, List.set_cons_zero, List.set_cons_succ, List.length_cons, List.length_nil, at_0, at_1, at_2, at_3, isTy, bind_nm, bind_tp, bpts_nil, bpts_cons, retOf, isNon, partO, cond_t, cond_f, if_true, if_false, Bool.false_eq_true, reduceIte, reduceCtorEq, wipeE, Nat.reduceAdd, Nat.reduceSub, Nat.reduceLT, Nat.reduceLeDiff, Nat.lt_add_one, Nat.zero_add, Int.reduceNeg, Bool.not_true, Bool.not_false, bf_len_t, bf_len_l, bf_abs, bf_min2, bf_max2, bf_int_b, bf_repr, bf_list_l, bf_list_t, bf_tuple_l, bf_tuple_t, bf_all, bf_any, bf_sum, bf_isi, bin_add, bin_sub, bin_mul, bin_fdv, bin_mod, bin_p18, bin_p12, bin_add_t, bin_add_l, bin_add_s, bin_mul_t, cmpP_eq, eqO_s, cmpP_ne, cmpP_lt, cmpP_le, cmpP_gt, cmpP_ge, cmpP_in, cmpP_nin, eqP_int, eqP_str, eq_nil_nil, eq_lay, eq_row, eq_rns, add_rns, perm10, idx_t, idx_l, idx_pl0, idx_pl1, idx_lp0, idx_lp1, idx_rw0, kob_0, kob_1, kput_0, kput_1, sli_t, sli_l, rev_t, rev_l, items_t, items_l, seq_t, seq_l, bools_nil, bools_cons, compL, consO, List.all_cons, List.all_nil, List.any_cons, List.any_nil, id_eq, Bool.and_true, Bool.true_and, Bool.and_self, finD_rt, finD_nx, ix3_0, ix3_1, ix3_2, ne_eq, not_false_eq_true, not_true_eq_false, Int.reduceEq, Int.reduceLT, Int.reduceLE, decide_true, decide_false, List.set_set, z0, z1, z2, p11, z17]
  refine sat_seq ?_
  simp only [sat_okI, evS, evT, evE, evL, evAll, Out.bind_ok, Out.bind_exc, Out.bind_err, bind_assoc_, Out.nox_ok, opt_some, opt_none, optD_some, optD_none, datb_, lookO, lookF_dat, look_dat, dats_nil, dats_cons, Option.map_some, Option.map_none, asT, asTs, it_ok, it_bind, dfl, List.map_nil, List.map_cons, List.append_nil, List.nil_append, List.cons_append, List.replicate_zero, List.replicate_succ, Nat.sub_self, List.getElem?_cons_zero, List.getElem?_cons_succ, List.set_cons_zero, List.set_cons_succ, List.length_cons, List.length_nil, at_0, at_1, at_2, at_3, isTy, bind_nm, bind_tp, bpts_nil, bpts_cons, retOf, isNon, partO, cond_t, cond_f, if_true, if_false, Bool.false_eq_true, reduceIte, reduceCtorEq, wipeE, Nat.reduceAdd, Nat.reduceSub, Nat.reduceLT, Nat.reduceLeDiff, Nat.lt_add_one, Nat.zero_add, Int.reduceNeg, Bool.not_true, Bool.not_false, bf_len_t, bf_len_l, bf_abs, bf_min2, bf_max2, bf_int_b, bf_repr, bf_list_l, bf_list_t, bf_tuple_l, bf_tuple_t, bf_all, bf_any, bf_sum, bf_isi, bin_add, bin_sub, bin_mul, bin_fdv, bin_mod, bin_p18, bin_p12, bin_add_t, bin_add_l, bin_add_s, bin_mul_t, cmpP_eq, eqO_s, cmpP_ne, cmpP_lt, cmpP_le, cmpP_gt, cmpP_ge, cmpP_in, cmpP_nin, eqP_int, eqP_str, eq_nil_nil, eq_lay, eq_row, eq_rns, add_rns, perm10, idx_t, idx_l, idx_pl0, idx_pl1, idx_lp0, idx_lp1, idx_rw0, kob_0, kob_1, kput_0, kput_1, sli_t, sli_l, rev_t, rev_l, items_t, items_l, seq_t, seq_l, bools_nil, bools_cons, compL, consO, List.all_cons, List.all_nil, List.any_cons, List.any_nil, id_eq, Bool.and_true, Bool.true_and, Bool.and_self, finD_rt, finD_nx, ix3_0, ix3_1, ix3_2, ne_eq, not_false_eq_true, not_true_eq_false, Int.reduceEq, Int.reduceLT, Int.reduceLE, decide_true, decide_false, List.set_set, z0, z1, z2, z3, z4, z20]
  refine sat_then (s_pick (k := k) h (by omega) (by simp) (by simp)) ?_
  rintro v S1 ⟨⟨x, rfl, hx⟩, P1, F1⟩
  refine .ok ⟨⟨x, rfl, ?_⟩, P1, F1⟩
  exact gs_of (by kernel_rfl) x hx

theorem wts_app : ∀ {xs ys : List PyData}, wts (xs ++ ys) = wts xs + wts ys
  | [], ys => by simp [wts]
  | x :: xs, ys => by
    rw [List.cons_append]
    simp only [wts]
    rw [wts_app]
    omega
theorem wts_split {xs : List PyData} {r : Nat} {x : PyData} (h : xs[r]? = some x) : wts (xs.take r) + (wt x + 2) + wts (xs.drop (r + 1)) = wts xs := by
  have e : xs = xs.take r ++ x :: xs.drop (r + 1) := by
    obtain ⟨hr, rfl⟩ := List.getElem?_eq_some_iff.mp h
    rw [List.getElem_cons_drop, List.take_append_drop]
  conv => rhs; rw [e, wts_app]
  simp only [wts]
  omega
theorem Gd.len {b d n : Nat} {xs : List PyData} (h : Gd b d n (.tuple xs)) : xs.length ≤ n := by
  have h3 := h.w
  simp only [wt] at h3
  have : ∀ xs : List PyData, xs.length ≤ wts xs := by
    intro xs
    induction xs with
    | nil => exact Nat.le_refl _
    | cons x xs ih => simp only [wts, List.length_cons]; omega
  have := this xs
  omega
theorem eqU (xs : List PyData) : eqO (eqP (.tuple xs) (.tuple [])) (eqT0 (.tuple xs) (.tuple [])) = some xs.isEmpty := eq_unit xs
def BentQ (b d m deep n l : Nat) (S : Store) (v : Val) (S' : Store) : Prop := (∃ x, v = Val.dat x ∧ Gd (b + 1) (max d (deep + 3)) (2 * m + 600) x) ∧ Pen (n + 10 + 10 * deep) l S' ∧ Fr l S S'
theorem bent_rest {b k deep n n0 l d m : Nat} {p : PyData} {S0 S : Store} (hb0 : 41 ≤ b) (hb1 : b ≤ 60) (h : Pen n l S) (hn : n + 20 * deep ≤ 2 ^ 81 + 1) (hn0 : n ≤ n0 + 1) (F0 : Fr l S0 S) (hd : deep ≤ 6) (G : Gd b d m p) (hd2 : d ≤ 30) (hm : m ≤ 2 ^ 20)
    (rec : deep ≠ 0 → ∀ {n m d : Nat} {p : PyData} {S : Store}, Pen n l S → n + 20 * (deep - 1) ≤ 2 ^ 81 → Gd b d m p → d ≤ 30 → m ≤ 2 ^ 20 → (callN PP W (k + deep + 3) 15 [.ref l, .dat p, .dat (.int ((deep : Int) - 1))] S).sat (BentQ b d m (deep - 1) n l S)) :
    (evSs W (callN PP W (k + deep + 3)) (b_15.drop 1) [some (Val.ref l), some (Val.dat p), some (Val.dat (.int (deep : Int))), none, none] S).sat fun r S' => (∃ x, retOf r = Val.dat x ∧ Gd (b + 1) (max d (deep + 3)) (2 * m + 600) x) ∧ Pen (n0 + 10 + 10 * deep) l S' ∧ Fr l S0 S' := by
  have z0 : (0 : Nat) ≤ sizeLine := Nat.zero_le _
  have odd : ∀ {n : Nat} {S : Store}, Pen n l S → n ≤ 2 ^ 83 → n ≤ n0 + 1 → Fr l S0 S → (callN PP W (k + deep + 3) 13 [.ref l] S).sat fun v S' => (∃ x, v = Val.dat x ∧ Gd (b + 1) (max d (deep + 3)) (2 * m + 600) x) ∧ Pen (n0 + 10 + 10 * deep) l S' ∧ Fr l S0 S' := fun h1 h2 h3 F => by
    refine sat_mono (s_odd (k := k + deep) h1 (by omega)) ?_
    rintro v S1 ⟨⟨x, rfl, hx⟩, P1, F1⟩
    exact ⟨⟨x, rfl, hx.mono (by omega) (by omega) (by omega)⟩, P1.mono (by omega), F.trans F1⟩
  simp only [b_15, List.drop_succ_cons, List.drop_zero]
  refine sat_seq ?_
  cases q : isTy .tuple p with
  | false =>
    simp only [evS, evT, evE, evL, Out.bind_ok, List.getElem?_cons_zero, List.getElem?_cons_succ, lookF_dat, bf_isi, q, optD_some, Bool.not_false, opt_some, datb_, if_true, bind_assoc_]
    refine sat_seq ?_
    simp only [sat_okI, evS, evT, evE, evL, evAll, Out.bind_ok, Out.bind_exc, Out.bind_err, bind_assoc_, Out.nox_ok, opt_some, opt_none, optD_some, optD_none, datb_, lookO, lookF_dat, look_dat, dats_nil, dats_cons, Option.map_some, Option.map_none, asT, asTs, it_ok, it_bind, dfl, List.map_nil, List.map_cons, List.append_nil, List.nil_append, List.cons_append, List.replicate_zero, List.replicate_succ, Nat.sub_self, List.getElem?_cons_zero, List.getElem?_cons_succ, List.set_cons_zero, List.set_cons_succ, List.length_cons, List.length_nil, at_0, at_1, at_2, at_3, isTy, bind_nm, bind_tp, bpts_nil, bpts_cons, retOf, isNon, partO, cond_t, cond_f, if_true, if_false, Bool.false_eq_true, reduceIte, reduceCtorEq, wipeE, Nat.reduceAdd, Nat.reduceSub, Nat.reduceLT, Nat.reduceLeDiff, Nat.lt_add_one, Nat.zero_add, Int.reduceNeg, Bool.not_true, Bool.not_false, bf_len_t, bf_len_l, bf_abs, bf_min2, bf_max2, bf_int_b, bf_repr, bf_list_l, bf_list_t, bf_tuple_l, bf_tuple_t, bf_all, bf_any, bf_sum, bf_isi, bin_add, bin_sub, bin_mul, bin_fdv, bin_mod, bin_p18, bin_p12, bin_add_t, bin_add_l, bin_add_s, bin_mul_t, cmpP_eq, eqO_s, cmpP_ne, cmpP_lt, cmpP_le, cmpP_gt, cmpP_ge, cmpP_in, cmpP_nin, eqP_int, eqP_str, eq_nil_nil, eq_lay, eq_row, eq_rns, add_rns, perm10, idx_t, idx_l, idx_pl0, idx_pl1, idx_lp0, idx_lp1, idx_rw0, kob_0, kob_1, kput_0, kput_1, sli_t, sli_l, rev_t, rev_l, items_t, items_l, seq_t, seq_l, bools_nil, bools_cons, compL, consO, List.all_cons, List.all_nil, List.any_cons, List.any_nil, id_eq, Bool.and_true, Bool.true_and, Bool.and_self, finD_rt, finD_nx, ix3_0, ix3_1, ix3_2, ne_eq, not_false_eq_true, not_true_eq_false, Int.reduceEq, Int.reduceLT, Int.reduceLE, decide_true, decide_false, List.set_set]
    refine sat_then (odd h (by omega) hn0 F0) ?_
    rintro v S1 h1
    exact .ok h1
  | true =>
    obtain ⟨xs, rfl⟩ := nty q
    by_cases hx : xs = []
    · subst hx
      simp only [sat_okI, evS, evT, evE, evL, evAll, Out.bind_ok, Out.bind_exc, Out.bind_err, bind_assoc_, Out.nox_ok, opt_some, opt_none, optD_some, optD_none, datb_, lookO, lookF_dat, look_dat, dats_nil, dats_cons, Option.map_some, Option.map_none, asT, asTs, it_ok, it_bind, dfl, List.map_nil, List.map_cons, List.append_nil, List.nil_append, List.cons_append, List.replicate_zero, List.replicate_succ, Nat.sub_self, List.getElem?_cons_zero, List.getElem?_cons_succ, List.set_cons_zero, List.set_cons_succ, List.length_cons, List.length_nil, at_0, at_1, at_2, at_3, isTy, bind_nm, bind_tp, bpts_nil, bpts_cons, retOf, isNon, partO, cond_t, cond_f, if_true, if_false, Bool.false_eq_true, reduceIte, reduceCtorEq, wipeE, Nat.reduceAdd, Nat.reduceSub, Nat.reduceLT, Nat.reduceLeDiff, Nat.lt_add_one, Nat.zero_add, Int.reduceNeg, Bool.not_true, Bool.not_false, bf_len_t, bf_len_l, bf_abs, bf_min2, bf_max2, bf_int_b, bf_repr, bf_list_l, bf_list_t, bf_tuple_l, bf_tuple_t, bf_all, bf_any, bf_sum, bf_isi, bin_add, bin_sub, bin_mul, bin_fdv, bin_mod, bin_p18, bin_p12, bin_add_t, bin_add_l, bin_add_s, bin_mul_t, cmpP_eq, eqO_s, cmpP_ne, cmpP_lt, cmpP_le, cmpP_gt, cmpP_ge, cmpP_in, cmpP_nin, eqP_int, eqP_str, eq_nil_nil, eq_lay, eq_row, eq_rns, add_rns, perm10, idx_t, idx_l, idx_pl0, idx_pl1, idx_lp0, idx_lp1, idx_rw0, kob_0, kob_1, kput_0, kput_1, sli_t, sli_l, rev_t, rev_l, items_t, items_l, seq_t, seq_l, bools_nil, bools_cons, compL, consO, List.all_cons, List.all_nil, List.any_cons, List.any_nil, id_eq, Bool.and_true, Bool.true_and, Bool.and_self, finD_rt, finD_nx, ix3_0, ix3_1, ix3_2, ne_eq, not_false_eq_true, not_true_eq_false, Int.reduceEq, Int.reduceLT, Int.reduceLE, decide_true, decide_false, List.set_set, z0, eqU, List.isEmpty_nil]
      refine sat_seq ?_
      simp only [sat_okI, evS, evT, evE, evL, evAll, Out.bind_ok, Out.bind_exc, Out.bind_err, bind_assoc_, Out.nox_ok, opt_some, opt_none, optD_some, optD_none, datb_, lookO, lookF_dat, look_dat, dats_nil, dats_cons, Option.map_some, Option.map_none, asT, asTs, it_ok, it_bind, dfl, List.map_nil, List.map_cons, List.append_nil, List.nil_append, List.cons_append, List.replicate_zero, List.replicate_succ, Nat.sub_self, List.getElem?_cons_zero, List.getElem?_cons_succ, List.set_cons_zero, List.set_cons_succ, List.length_cons, List.length_nil, at_0, at_1, at_2, at_3, isTy, bind_nm, bind_tp, bpts_nil, bpts_cons, retOf, isNon, partO, cond_t, cond_f, if_true, if_false, Bool.false_eq_true, reduceIte, reduceCtorEq, wipeE, Nat.reduceAdd, Nat.reduceSub, Nat.reduceLT, Nat.reduceLeDiff, Nat.lt_add_one, Nat.zero_add, Int.reduceNeg, Bool.not_true, Bool.not_false, bf_len_t, bf_len_l, bf_abs, bf_min2, bf_max2, bf_int_b, bf_repr, bf_list_l, bf_list_t, bf_tuple_l, bf_tuple_t, bf_all, bf_any, bf_sum, bf_isi, bin_add, bin_sub, bin_mul, bin_fdv, bin_mod, bin_p18, bin_p12, bin_add_t, bin_add_l, bin_add_s, bin_mul_t, cmpP_eq, eqO_s, cmpP_ne, cmpP_lt, cmpP_le, cmpP_gt, cmpP_ge, cmpP_in, cmpP_nin, eqP_int, eqP_str, eq_nil_nil, eq_lay, eq_row, eq_rns, add_rns, perm10, idx_t, idx_l, idx_pl0, idx_pl1, idx_lp0, idx_lp1, idx_rw0, kob_0, kob_1, kput_0, kput_1, sli_t, sli_l, rev_t, rev_l, items_t, items_l, seq_t, seq_l, bools_nil, bools_cons, compL, consO, List.all_cons, List.all_nil, List.any_cons, List.any_nil, id_eq, Bool.and_true, Bool.true_and, Bool.and_self, finD_rt, finD_nx, ix3_0, ix3_1, ix3_2, ne_eq, not_false_eq_true, not_true_eq_false, Int.reduceEq, Int.reduceLT, Int.reduceLE, decide_true, decide_false, List.set_set]
      refine sat_then (odd h (by omega) hn0 F0) ?_
      rintro v S1 h1
      exact .ok h1
    have xe : xs.isEmpty = false := by cases xs with | nil => exact absurd rfl hx | cons => rfl
    by_cases hz : deep = 0
    · subst hz
      simp only [sat_okI, evS, evT, evE, evL, evAll, Out.bind_ok, Out.bind_exc, Out.bind_err, bind_assoc_, Out.nox_ok, opt_some, opt_none, optD_some, optD_none, datb_, lookO, lookF_dat, look_dat, dats_nil, dats_cons, Option.map_some, Option.map_none, asT, asTs, it_ok, it_bind, dfl, List.map_nil, List.map_cons, List.append_nil, List.nil_append, List.cons_append, List.replicate_zero, List.replicate_succ, Nat.sub_self, List.getElem?_cons_zero, List.getElem?_cons_succ, List.set_cons_zero, List.set_cons_succ, List.length_cons, List.length_nil, at_0, at_1, at_2, at_3, isTy, bind_nm, bind_tp, bpts_nil, bpts_cons, retOf, isNon, partO, cond_t, cond_f, if_true, if_false, Bool.false_eq_true, reduceIte, reduceCtorEq, wipeE, Nat.reduceAdd, Nat.reduceSub, Nat.reduceLT, Nat.reduceLeDiff, Nat.lt_add_one, Nat.zero_add, Int.reduceNeg, Bool.not_true, Bool.not_false, bf_len_t, bf_len_l, bf_abs, bf_min2, bf_max2, bf_int_b, bf_repr, bf_list_l, bf_list_t, bf_tuple_l, bf_tuple_t, bf_all, bf_any, bf_sum, bf_isi, bin_add, bin_sub, bin_mul, bin_fdv, bin_mod, bin_p18, bin_p12, bin_add_t, bin_add_l, bin_add_s, bin_mul_t, cmpP_eq, eqO_s, cmpP_ne, cmpP_lt, cmpP_le, cmpP_gt, cmpP_ge, cmpP_in, cmpP_nin, eqP_int, eqP_str, eq_nil_nil, eq_lay, eq_row, eq_rns, add_rns, perm10, idx_t, idx_l, idx_pl0, idx_pl1, idx_lp0, idx_lp1, idx_rw0, kob_0, kob_1, kput_0, kput_1, sli_t, sli_l, rev_t, rev_l, items_t, items_l, seq_t, seq_l, bools_nil, bools_cons, compL, consO, List.all_cons, List.all_nil, List.any_cons, List.any_nil, id_eq, Bool.and_true, Bool.true_and, Bool.and_self, finD_rt, finD_nx, ix3_0, ix3_1, ix3_2, ne_eq, not_false_eq_true, not_true_eq_false, Int.reduceEq, Int.reduceLT, Int.reduceLE, decide_true, decide_false, List.set_set, z0, eqU, xe, show decide (((0 : Nat) : Int) = 0) = true from rfl]
      refine sat_seq ?_
      simp only [sat_okI, evS, evT, evE, evL, evAll, Out.bind_ok, Out.bind_exc, Out.bind_err, bind_assoc_, Out.nox_ok, opt_some, opt_none, optD_some, optD_none, datb_, lookO, lookF_dat, look_dat, dats_nil, dats_cons, Option.map_some, Option.map_none, asT, asTs, it_ok, it_bind, dfl, List.map_nil, List.map_cons, List.append_nil, List.nil_append, List.cons_append, List.replicate_zero, List.replicate_succ, Nat.sub_self, List.getElem?_cons_zero, List.getElem?_cons_succ, List.set_cons_zero, List.set_cons_succ, List.length_cons, List.length_nil, at_0, at_1, at_2, at_3, isTy, bind_nm, bind_tp, bpts_nil, bpts_cons, retOf, isNon, partO, cond_t, cond_f, if_true, if_false, Bool.false_eq_true, reduceIte, reduceCtorEq, wipeE, Nat.reduceAdd, Nat.reduceSub, Nat.reduceLT, Nat.reduceLeDiff, Nat.lt_add_one, Nat.zero_add, Int.reduceNeg, Bool.not_true, Bool.not_false, bf_len_t, bf_len_l, bf_abs, bf_min2, bf_max2, bf_int_b, bf_repr, bf_list_l, bf_list_t, bf_tuple_l, bf_tuple_t, bf_all, bf_any, bf_sum, bf_isi, bin_add, bin_sub, bin_mul, bin_fdv, bin_mod, bin_p18, bin_p12, bin_add_t, bin_add_l, bin_add_s, bin_mul_t, cmpP_eq, eqO_s, cmpP_ne, cmpP_lt, cmpP_le, cmpP_gt, cmpP_ge, cmpP_in, cmpP_nin, eqP_int, eqP_str, eq_nil_nil, eq_lay, eq_row, eq_rns, add_rns, perm10, idx_t, idx_l, idx_pl0, idx_pl1, idx_lp0, idx_lp1, idx_rw0, kob_0, kob_1, kput_0, kput_1, sli_t, sli_l, rev_t, rev_l, items_t, items_l, seq_t, seq_l, bools_nil, bools_cons, compL, consO, List.all_cons, List.all_nil, List.any_cons, List.any_nil, id_eq, Bool.and_true, Bool.true_and, Bool.and_self, finD_rt, finD_nx, ix3_0, ix3_1, ix3_2, ne_eq, not_false_eq_true, not_true_eq_false, Int.reduceEq, Int.reduceLT, Int.reduceLE, decide_true, decide_false, List.set_set]
      refine sat_then (odd h (by omega) hn0 F0) ?_
      rintro v S1 h1
      exact .ok h1
    simp only [sat_okI, evS, evT, evE, evL, evAll, Out.bind_ok, Out.bind_exc, Out.bind_err, bind_assoc_, Out.nox_ok, opt_some, opt_none, optD_some, optD_none, datb_, lookO, lookF_dat, look_dat, dats_nil, dats_cons, Option.map_some, Option.map_none, asT, asTs, it_ok, it_bind, dfl, List.map_nil, List.map_cons, List.append_nil, List.nil_append, List.cons_append, List.replicate_zero, List.replicate_succ, Nat.sub_self, List.getElem?_cons_zero, List.getElem?_cons_succ, List.set_cons_zero, List.set_cons_succ, List.length_cons, List.length_nil, at_0, at_1, at_2, at_3, isTy, bind_nm, bind_tp, bpts_nil, bpts_cons, retOf, isNon, partO, cond_t, cond_f, if_true, if_false, Bool.false_eq_true, reduceIte, reduceCtorEq, wipeE, Nat.reduceAdd, Nat.reduceSub, Nat.reduceLT, Nat.reduceLeDiff, Nat.lt_add_one, Nat.zero_add, Int.reduceNeg, Bool.not_true, Bool.not_false, bf_len_t, bf_len_l, bf_abs, bf_min2, bf_max2, bf_int_b, bf_repr, bf_list_l, bf_list_t, bf_tuple_l, bf_tuple_t, bf_all, bf_any, bf_sum, bf_isi, bin_add, bin_sub, bin_mul, bin_fdv, bin_mod, bin_p18, bin_p12, bin_add_t, bin_add_l, bin_add_s, bin_mul_t, cmpP_eq, eqO_s, cmpP_ne, cmpP_lt, cmpP_le, cmpP_gt, cmpP_ge, cmpP_in, cmpP_nin, eqP_int, eqP_str, eq_nil_nil, eq_lay, eq_row, eq_rns, add_rns, perm10, idx_t, idx_l, idx_pl0, idx_pl1, idx_lp0, idx_lp1, idx_rw0, kob_0, kob_1, kput_0, kput_1, sli_t, sli_l, rev_t, rev_l, items_t, items_l, seq_t, seq_l, bools_nil, bools_cons, compL, consO, List.all_cons, List.all_nil, List.any_cons, List.any_nil, id_eq, Bool.and_true, Bool.true_and, Bool.and_self, finD_rt, finD_nx, ix3_0, ix3_1, ix3_2, ne_eq, not_false_eq_true, not_true_eq_false, Int.reduceEq, Int.reduceLT, Int.reduceLE, decide_true, decide_false, List.set_set, z0, eqU, xe, decide_eq_false (show ¬ (deep : Int) = 0 by omega)]
    refine sat_nil (sat_seq ?_)
    have xl := G.len
    have x0 : 0 < xs.length := List.length_pos_iff.mpr hx
    simp only [sat_okI, evS, evT, evE, evL, evAll, Out.bind_ok, Out.bind_exc, Out.bind_err, bind_assoc_, Out.nox_ok, opt_some, opt_none, optD_some, optD_none, datb_, lookO, lookF_dat, look_dat, dats_nil, dats_cons, Option.map_some, Option.map_none, asT, asTs, it_ok, it_bind, dfl, List.map_nil, List.map_cons, List.append_nil, List.nil_append, List.cons_append, List.replicate_zero, List.replicate_succ, Nat.sub_self, List.getElem?_cons_zero, List.getElem?_cons_succ, List.set_cons_zero, List.set_cons_succ, List.length_cons, List.length_nil, at_0, at_1, at_2, at_3, isTy, bind_nm, bind_tp, bpts_nil, bpts_cons, retOf, isNon, partO, cond_t, cond_f, if_true, if_false, Bool.false_eq_true, reduceIte, reduceCtorEq, wipeE, Nat.reduceAdd, Nat.reduceSub, Nat.reduceLT, Nat.reduceLeDiff, Nat.lt_add_one, Nat.zero_add, Int.reduceNeg, Bool.not_true, Bool.not_false, bf_len_t, bf_len_l, bf_abs, bf_min2, bf_max2, bf_int_b, bf_repr, bf_list_l, bf_list_t, bf_tuple_l, bf_tuple_t, bf_all, bf_any, bf_sum, bf_isi, bin_add, bin_sub, bin_mul, bin_fdv, bin_mod, bin_p18, bin_p12, bin_add_t, bin_add_l, bin_add_s, bin_mul_t, cmpP_eq, eqO_s, cmpP_ne, cmpP_lt, cmpP_le, cmpP_gt, cmpP_ge, cmpP_in, cmpP_nin, eqP_int, eqP_str, eq_nil_nil, eq_lay, eq_row, eq_rns, add_rns, perm10, idx_t, idx_l, idx_pl0, idx_pl1, idx_lp0, idx_lp1, idx_rw0, kob_0, kob_1, kput_0, kput_1, sli_t, sli_l, rev_t, rev_l, items_t, items_l, seq_t, seq_l, bools_nil, bools_cons, compL, consO, List.all_cons, List.all_nil, List.any_cons, List.any_nil, id_eq, Bool.and_true, Bool.true_and, Bool.and_self, finD_rt, finD_nx, ix3_0, ix3_1, ix3_2, ne_eq, not_false_eq_true, not_true_eq_false, Int.reduceEq, Int.reduceLT, Int.reduceLE, decide_true, decide_false, List.set_set]
    refine sat_then (s_draw h (by omega) (by omega) (by omega)) ?_
    rintro v S1 ⟨⟨r1, rfl, hr1⟩, P1, F1⟩
    try simp only [sat_okI, evS, evT, evE, evL, evAll, Out.bind_ok, Out.bind_exc, Out.bind_err, bind_assoc_, Out.nox_ok, opt_some, opt_none, optD_some, optD_none, datb_, lookO, lookF_dat, look_dat, dats_nil, dats_cons, Option.map_some, Option.map_none, asT, asTs, it_ok, it_bind, dfl, List.map_nil, List.map_cons, List.append_nil, List.nil_append, List.cons_append, List.replicate_zero, List.replicate_succ, Nat.sub_self, List.getElem?_cons_zero, List.getElem?_cons_succ, List.set_cons_zero, List.set_cons_succ, List.length_cons, List.length_nil, at_0, at_1, at_2, at_3, isTy, bind_nm, bind_tp, bpts_nil, bpts_cons, retOf, isNon, partO, cond_t, cond_f, if_true, if_false, Bool.false_eq_true, reduceIte, reduceCtorEq, wipeE, Nat.reduceAdd, Nat.reduceSub, Nat.reduceLT, Nat.reduceLeDiff, Nat.lt_add_one, Nat.zero_add, Int.reduceNeg, Bool.not_true, Bool.not_false, bf_len_t, bf_len_l, bf_abs, bf_min2, bf_max2, bf_int_b, bf_repr, bf_list_l, bf_list_t, bf_tuple_l, bf_tuple_t, bf_all, bf_any, bf_sum, bf_isi, bin_add, bin_sub, bin_mul, bin_fdv, bin_mod, bin_p18, bin_p12, bin_add_t, bin_add_l, bin_add_s, bin_mul_t, cmpP_eq, eqO_s, cmpP_ne, cmpP_lt, cmpP_le, cmpP_gt, cmpP_ge, cmpP_in, cmpP_nin, eqP_int, eqP_str, eq_nil_nil, eq_lay, eq_row, eq_rns, add_rns, perm10, idx_t, idx_l, idx_pl0, idx_pl1, idx_lp0, idx_lp1, idx_rw0, kob_0, kob_1, kput_0, kput_1, sli_t, sli_l, rev_t, rev_l, items_t, items_l, seq_t, seq_l, bools_nil, bools_cons, compL, consO, List.all_cons, List.all_nil, List.any_cons, List.any_nil, id_eq, Bool.and_true, Bool.true_and, Bool.and_self, finD_rt, finD_nx, ix3_0, ix3_1, ix3_2, ne_eq, not_false_eq_true, not_true_eq_false, Int.reduceEq, Int.reduceLT, Int.reduceLE, decide_true, decide_false, List.set_set]
    refine sat_then (s_draw P1 (by omega) (by omega) (by omega)) ?_
    rintro v S2 ⟨⟨r2, rfl, hr2⟩, P2, F2⟩
    obtain ⟨u1, u2, u3⟩ := G.untup
    have F02 := F0.trans (F1.trans F2)
    have e1 : (r1 : Int) + 1 = ((r1 + 1 : Nat) : Int) := by omega
    have zt : ∀ i j, (xs.take i).length + (xs.drop j).length ≤ sizeLine := fun i j => by rw [List.length_take, List.length_drop, sizeLine_eq]; omega
    have z3 : (3 : Nat) ≤ sizeLine := by rw [sizeLine_eq]; omega
    have z1 : (1 : Nat) ≤ sizeLine := by rw [sizeLine_eq]; omega
    have fin : ∀ ys, Gs b (d - 1) (2 * (m - 3)) ys → Gd (b + 1) (max d (deep + 3)) (2 * m + 600) (.tuple ys) := fun ys g => g.tup.mono (by omega) (by omega) (by omega)
    have g1 : Gs b (d - 1) (2 * (m - 3)) (xs.take r1 ++ xs.drop (r1 + 1)) := ((u2.take r1).app (u2.drop (r1 + 1))).mono (Nat.le_refl _) (Nat.le_refl _) (by omega)
    have g2 : Gs b (d - 1) (2 * (m - 3)) (xs.take (r1 + 1) ++ xs.drop r1) := ((u2.take (r1 + 1)).app (u2.drop r1)).mono (Nat.le_refl _) (Nat.le_refl _) (by omega)
    have g3 : Gs b (d - 1) (2 * (m - 3)) xs.reverse := u2.rev.mono (Nat.le_refl _) (Nat.le_refl _) (by omega)
    simp only [sat_okI, evS, evT, evE, evL, evAll, Out.bind_ok, Out.bind_exc, Out.bind_err, bind_assoc_, Out.nox_ok, opt_some, opt_none, optD_some, optD_none, datb_, lookO, lookF_dat, look_dat, dats_nil, dats_cons, Option.map_some, Option.map_none, asT, asTs, it_ok, it_bind, dfl, List.map_nil, List.map_cons, List.append_nil, List.nil_append, List.cons_append, List.replicate_zero, List.replicate_succ, Nat.sub_self, List.getElem?_cons_zero, List.getElem?_cons_succ, List.set_cons_zero, List.set_cons_succ, List.length_cons, List.length_nil, at_0, at_1, at_2, at_3, isTy, bind_nm, bind_tp, bpts_nil, bpts_cons, retOf, isNon, partO, cond_t, cond_f, if_true, if_false, Bool.false_eq_true, reduceIte, reduceCtorEq, wipeE, Nat.reduceAdd, Nat.reduceSub, Nat.reduceLT, Nat.reduceLeDiff, Nat.lt_add_one, Nat.zero_add, Int.reduceNeg, Bool.not_true, Bool.not_false, bf_len_t, bf_len_l, bf_abs, bf_min2, bf_max2, bf_int_b, bf_repr, bf_list_l, bf_list_t, bf_tuple_l, bf_tuple_t, bf_all, bf_any, bf_sum, bf_isi, bin_add, bin_sub, bin_mul, bin_fdv, bin_mod, bin_p18, bin_p12, bin_add_t, bin_add_l, bin_add_s, bin_mul_t, cmpP_eq, eqO_s, cmpP_ne, cmpP_lt, cmpP_le, cmpP_gt, cmpP_ge, cmpP_in, cmpP_nin, eqP_int, eqP_str, eq_nil_nil, eq_lay, eq_row, eq_rns, add_rns, perm10, idx_t, idx_l, idx_pl0, idx_pl1, idx_lp0, idx_lp1, idx_rw0, kob_0, kob_1, kput_0, kput_1, sli_t, sli_l, rev_t, rev_l, items_t, items_l, seq_t, seq_l, bools_nil, bools_cons, compL, consO, List.all_cons, List.all_nil, List.any_cons, List.any_nil, id_eq, Bool.and_true, Bool.true_and, Bool.and_self, finD_rt, finD_nx, ix3_0, ix3_1, ix3_2, ne_eq, not_false_eq_true, not_true_eq_false, Int.reduceEq, Int.reduceLT, Int.reduceLE, decide_true, decide_false, List.set_set]
    refine sat_seq ?_
    by_cases h3 : r2 < 3
    · simp only [sat_okI, evS, evT, evE, evL, evAll, Out.bind_ok, Out.bind_exc, Out.bind_err, bind_assoc_, Out.nox_ok, opt_some, opt_none, optD_some, optD_none, datb_, lookO, lookF_dat, look_dat, dats_nil, dats_cons, Option.map_some, Option.map_none, asT, asTs, it_ok, it_bind, dfl, List.map_nil, List.map_cons, List.append_nil, List.nil_append, List.cons_append, List.replicate_zero, List.replicate_succ, Nat.sub_self, List.getElem?_cons_zero, List.getElem?_cons_succ, List.set_cons_zero, List.set_cons_succ, List.length_cons, List.length_nil, at_0, at_1, at_2, at_3, isTy, bind_nm, bind_tp, bpts_nil, bpts_cons, retOf, isNon, partO, cond_t, cond_f, if_true, if_false, Bool.false_eq_true, reduceIte, reduceCtorEq, wipeE, Nat.reduceAdd, Nat.reduceSub, Nat.reduceLT, Nat.reduceLeDiff, Nat.lt_add_one, Nat.zero_add, Int.reduceNeg, Bool.not_true, Bool.not_false, bf_len_t, bf_len_l, bf_abs, bf_min2, bf_max2, bf_int_b, bf_repr, bf_list_l, bf_list_t, bf_tuple_l, bf_tuple_t, bf_all, bf_any, bf_sum, bf_isi, bin_add, bin_sub, bin_mul, bin_fdv, bin_mod, bin_p18, bin_p12, bin_add_t, bin_add_l, bin_add_s, bin_mul_t, cmpP_eq, eqO_s, cmpP_ne, cmpP_lt, cmpP_le, cmpP_gt, cmpP_ge, cmpP_in, cmpP_nin, eqP_int, eqP_str, eq_nil_nil, eq_lay, eq_row, eq_rns, add_rns, perm10, idx_t, idx_l, idx_pl0, idx_pl1, idx_lp0, idx_lp1, idx_rw0, kob_0, kob_1, kput_0, kput_1, sli_t, sli_l, rev_t, rev_l, items_t, items_l, seq_t, seq_l, bools_nil, bools_cons, compL, consO, List.all_cons, List.all_nil, List.any_cons, List.any_nil, id_eq, Bool.and_true, Bool.true_and, Bool.and_self, finD_rt, finD_nx, ix3_0, ix3_1, ix3_2, ne_eq, not_false_eq_true, not_true_eq_false, Int.reduceEq, Int.reduceLT, Int.reduceLE, decide_true, decide_false, List.set_set, decide_eq_true (show (r2 : Int) < 3 by omega)]
      refine sat_seq ?_
      obtain ⟨ys, ey, gy⟩ : ∃ ys, L2.atI [PyData.tuple (xs.take r1 ++ xs.drop (r1 + 1)), .tuple (xs.take (r1 + 1) ++ xs.drop r1), .tuple xs.reverse] (r2 : Int) = some (.tuple ys) ∧ Gs b (d - 1) (2 * (m - 3)) ys := by
        have : r2 = 0 ∨ r2 = 1 ∨ r2 = 2 := by omega
        rcases this with rfl | rfl | rfl
        · exact ⟨_, rfl, g1⟩
        · exact ⟨_, rfl, g2⟩
        · exact ⟨_, rfl, g3⟩
      simp only [sat_okI, evS, evT, evE, evL, evAll, Out.bind_ok, Out.bind_exc, Out.bind_err, bind_assoc_, Out.nox_ok, opt_some, opt_none, optD_some, optD_none, datb_, lookO, lookF_dat, look_dat, dats_nil, dats_cons, Option.map_some, Option.map_none, asT, asTs, it_ok, it_bind, dfl, List.map_nil, List.map_cons, List.append_nil, List.nil_append, List.cons_append, List.replicate_zero, List.replicate_succ, Nat.sub_self, List.getElem?_cons_zero, List.getElem?_cons_succ, List.set_cons_zero, List.set_cons_succ, List.length_cons, List.length_nil, at_0, at_1, at_2, at_3, isTy, bind_nm, bind_tp, bpts_nil, bpts_cons, retOf, isNon, partO, cond_t, cond_f, if_true, if_false, Bool.false_eq_true, reduceIte, reduceCtorEq, wipeE, Nat.reduceAdd, Nat.reduceSub, Nat.reduceLT, Nat.reduceLeDiff, Nat.lt_add_one, Nat.zero_add, Int.reduceNeg, Bool.not_true, Bool.not_false, bf_len_t, bf_len_l, bf_abs, bf_min2, bf_max2, bf_int_b, bf_repr, bf_list_l, bf_list_t, bf_tuple_l, bf_tuple_t, bf_all, bf_any, bf_sum, bf_isi, bin_add, bin_sub, bin_mul, bin_fdv, bin_mod, bin_p18, bin_p12, bin_add_t, bin_add_l, bin_add_s, bin_mul_t, cmpP_eq, eqO_s, cmpP_ne, cmpP_lt, cmpP_le, cmpP_gt, cmpP_ge, cmpP_in, cmpP_nin, eqP_int, eqP_str, eq_nil_nil, eq_lay, eq_row, eq_rns, add_rns, perm10, idx_t, idx_l, idx_pl0, idx_pl1, idx_lp0, idx_lp1, idx_rw0, kob_0, kob_1, kput_0, kput_1, sli_t, sli_l, rev_t, rev_l, items_t, items_l, seq_t, seq_l, bools_nil, bools_cons, compL, consO, List.all_cons, List.all_nil, List.any_cons, List.any_nil, id_eq, Bool.and_true, Bool.true_and, Bool.and_self, finD_rt, finD_nx, ix3_0, ix3_1, ix3_2, ne_eq, not_false_eq_true, not_true_eq_false, Int.reduceEq, Int.reduceLT, Int.reduceLE, decide_true, decide_false, List.set_set, cut_take, e1, cut_drop, zt, z3, ey]
      exact ⟨⟨_, by trivial, fin _ gy⟩, P2.mono (by omega), F02⟩
    · simp only [sat_okI, evS, evT, evE, evL, evAll, Out.bind_ok, Out.bind_exc, Out.bind_err, bind_assoc_, Out.nox_ok, opt_some, opt_none, optD_some, optD_none, datb_, lookO, lookF_dat, look_dat, dats_nil, dats_cons, Option.map_some, Option.map_none, asT, asTs, it_ok, it_bind, dfl, List.map_nil, List.map_cons, List.append_nil, List.nil_append, List.cons_append, List.replicate_zero, List.replicate_succ, Nat.sub_self, List.getElem?_cons_zero, List.getElem?_cons_succ, List.set_cons_zero, List.set_cons_succ, List.length_cons, List.length_nil, at_0, at_1, at_2, at_3, isTy, bind_nm, bind_tp, bpts_nil, bpts_cons, retOf, isNon, partO, cond_t, cond_f, if_true, if_false, Bool.false_eq_true, reduceIte, reduceCtorEq, wipeE, Nat.reduceAdd, Nat.reduceSub, Nat.reduceLT, Nat.reduceLeDiff, Nat.lt_add_one, Nat.zero_add, Int.reduceNeg, Bool.not_true, Bool.not_false, bf_len_t, bf_len_l, bf_abs, bf_min2, bf_max2, bf_int_b, bf_repr, bf_list_l, bf_list_t, bf_tuple_l, bf_tuple_t, bf_all, bf_any, bf_sum, bf_isi, bin_add, bin_sub, bin_mul, bin_fdv, bin_mod, bin_p18, bin_p12, bin_add_t, bin_add_l, bin_add_s, bin_mul_t, cmpP_eq, eqO_s, cmpP_ne, cmpP_lt, cmpP_le, cmpP_gt, cmpP_ge, cmpP_in, cmpP_nin, eqP_int, eqP_str, eq_nil_nil, eq_lay, eq_row, eq_rns, add_rns, perm10, idx_t, idx_l, idx_pl0, idx_pl1, idx_lp0, idx_lp1, idx_rw0, kob_0, kob_1, kput_0, kput_1, sli_t, sli_l, rev_t, rev_l, items_t, items_l, seq_t, seq_l, bools_nil, bools_cons, compL, consO, List.all_cons, List.all_nil, List.any_cons, List.any_nil, id_eq, Bool.and_true, Bool.true_and, Bool.and_self, finD_rt, finD_nx, ix3_0, ix3_1, ix3_2, ne_eq, not_false_eq_true, not_true_eq_false, Int.reduceEq, Int.reduceLT, Int.reduceLE, decide_true, decide_false, List.set_set, decide_eq_false (show ¬ (r2 : Int) < 3 by omega)]
      refine sat_nil (sat_seq ?_)
      by_cases h4 : r2 = 3
      · simp only [sat_okI, evS, evT, evE, evL, evAll, Out.bind_ok, Out.bind_exc, Out.bind_err, bind_assoc_, Out.nox_ok, opt_some, opt_none, optD_some, optD_none, datb_, lookO, lookF_dat, look_dat, dats_nil, dats_cons, Option.map_some, Option.map_none, asT, asTs, it_ok, it_bind, dfl, List.map_nil, List.map_cons, List.append_nil, List.nil_append, List.cons_append, List.replicate_zero, List.replicate_succ, Nat.sub_self, List.getElem?_cons_zero, List.getElem?_cons_succ, List.set_cons_zero, List.set_cons_succ, List.length_cons, List.length_nil, at_0, at_1, at_2, at_3, isTy, bind_nm, bind_tp, bpts_nil, bpts_cons, retOf, isNon, partO, cond_t, cond_f, if_true, if_false, Bool.false_eq_true, reduceIte, reduceCtorEq, wipeE, Nat.reduceAdd, Nat.reduceSub, Nat.reduceLT, Nat.reduceLeDiff, Nat.lt_add_one, Nat.zero_add, Int.reduceNeg, Bool.not_true, Bool.not_false, bf_len_t, bf_len_l, bf_abs, bf_min2, bf_max2, bf_int_b, bf_repr, bf_list_l, bf_list_t, bf_tuple_l, bf_tuple_t, bf_all, bf_any, bf_sum, bf_isi, bin_add, bin_sub, bin_mul, bin_fdv, bin_mod, bin_p18, bin_p12, bin_add_t, bin_add_l, bin_add_s, bin_mul_t, cmpP_eq, eqO_s, cmpP_ne, cmpP_lt, cmpP_le, cmpP_gt, cmpP_ge, cmpP_in, cmpP_nin, eqP_int, eqP_str, eq_nil_nil, eq_lay, eq_row, eq_rns, add_rns, perm10, idx_t, idx_l, idx_pl0, idx_pl1, idx_lp0, idx_lp1, idx_rw0, kob_0, kob_1, kput_0, kput_1, sli_t, sli_l, rev_t, rev_l, items_t, items_l, seq_t, seq_l, bools_nil, bools_cons, compL, consO, List.all_cons, List.all_nil, List.any_cons, List.any_nil, id_eq, Bool.and_true, Bool.true_and, Bool.and_self, finD_rt, finD_nx, ix3_0, ix3_1, ix3_2, ne_eq, not_false_eq_true, not_true_eq_false, Int.reduceEq, Int.reduceLT, Int.reduceLE, decide_true, decide_false, List.set_set, decide_eq_true (show (r2 : Int) = 3 by omega)]
        refine sat_seq ?_
        simp only [sat_okI, evS, evT, evE, evL, evAll, Out.bind_ok, Out.bind_exc, Out.bind_err, bind_assoc_, Out.nox_ok, opt_some, opt_none, optD_some, optD_none, datb_, lookO, lookF_dat, look_dat, dats_nil, dats_cons, Option.map_some, Option.map_none, asT, asTs, it_ok, it_bind, dfl, List.map_nil, List.map_cons, List.append_nil, List.nil_append, List.cons_append, List.replicate_zero, List.replicate_succ, Nat.sub_self, List.getElem?_cons_zero, List.getElem?_cons_succ, List.set_cons_zero, List.set_cons_succ, List.length_cons, List.length_nil, at_0, at_1, at_2, at_3, isTy, bind_nm, bind_tp, bpts_nil, bpts_cons, retOf, isNon, partO, cond_t, cond_f, if_true, if_false, Bool.false_eq_true, reduceIte, reduceCtorEq, wipeE, Nat.reduceAdd, Nat.reduceSub, Nat.reduceLT, Nat.reduceLeDiff, Nat.lt_add_one, Nat.zero_add, Int.reduceNeg, Bool.not_true, Bool.not_false, bf_len_t, bf_len_l, bf_abs, bf_min2, bf_max2, bf_int_b, bf_repr, bf_list_l, bf_list_t, bf_tuple_l, bf_tuple_t, bf_all, bf_any, bf_sum, bf_isi, bin_add, bin_sub, bin_mul, bin_fdv, bin_mod, bin_p18, bin_p12, bin_add_t, bin_add_l, bin_add_s, bin_mul_t, cmpP_eq, eqO_s, cmpP_ne, cmpP_lt, cmpP_le, cmpP_gt, cmpP_ge, cmpP_in, cmpP_nin, eqP_int, eqP_str, eq_nil_nil, eq_lay, eq_row, eq_rns, add_rns, perm10, idx_t, idx_l, idx_pl0, idx_pl1, idx_lp0, idx_lp1, idx_rw0, kob_0, kob_1, kput_0, kput_1, sli_t, sli_l, rev_t, rev_l, items_t, items_l, seq_t, seq_l, bools_nil, bools_cons, compL, consO, List.all_cons, List.all_nil, List.any_cons, List.any_nil, id_eq, Bool.and_true, Bool.true_and, Bool.and_self, finD_rt, finD_nx, ix3_0, ix3_1, ix3_2, ne_eq, not_false_eq_true, not_true_eq_false, Int.reduceEq, Int.reduceLT, Int.reduceLE, decide_true, decide_false, List.set_set]
        exact ⟨⟨_, by trivial, (u2.lst).mono (by omega) (by omega) (by omega)⟩, P2.mono (by omega), F02⟩
      · simp only [sat_okI, evS, evT, evE, evL, evAll, Out.bind_ok, Out.bind_exc, Out.bind_err, bind_assoc_, Out.nox_ok, opt_some, opt_none, optD_some, optD_none, datb_, lookO, lookF_dat, look_dat, dats_nil, dats_cons, Option.map_some, Option.map_none, asT, asTs, it_ok, it_bind, dfl, List.map_nil, List.map_cons, List.append_nil, List.nil_append, List.cons_append, List.replicate_zero, List.replicate_succ, Nat.sub_self, List.getElem?_cons_zero, List.getElem?_cons_succ, List.set_cons_zero, List.set_cons_succ, List.length_cons, List.length_nil, at_0, at_1, at_2, at_3, isTy, bind_nm, bind_tp, bpts_nil, bpts_cons, retOf, isNon, partO, cond_t, cond_f, if_true, if_false, Bool.false_eq_true, reduceIte, reduceCtorEq, wipeE, Nat.reduceAdd, Nat.reduceSub, Nat.reduceLT, Nat.reduceLeDiff, Nat.lt_add_one, Nat.zero_add, Int.reduceNeg, Bool.not_true, Bool.not_false, bf_len_t, bf_len_l, bf_abs, bf_min2, bf_max2, bf_int_b, bf_repr, bf_list_l, bf_list_t, bf_tuple_l, bf_tuple_t, bf_all, bf_any, bf_sum, bf_isi, bin_add, bin_sub, bin_mul, bin_fdv, bin_mod, bin_p18, bin_p12, bin_add_t, bin_add_l, bin_add_s, bin_mul_t, cmpP_eq, eqO_s, cmpP_ne, cmpP_lt, cmpP_le, cmpP_gt, cmpP_ge, cmpP_in, cmpP_nin, eqP_int, eqP_str, eq_nil_nil, eq_lay, eq_row, eq_rns, add_rns, perm10, idx_t, idx_l, idx_pl0, idx_pl1, idx_lp0, idx_lp1, idx_rw0, kob_0, kob_1, kput_0, kput_1, sli_t, sli_l, rev_t, rev_l, items_t, items_l, seq_t, seq_l, bools_nil, bools_cons, compL, consO, List.all_cons, List.all_nil, List.any_cons, List.any_nil, id_eq, Bool.and_true, Bool.true_and, Bool.and_self, finD_rt, finD_nx, ix3_0, ix3_1, ix3_2, ne_eq, not_false_eq_true, not_true_eq_false, Int.reduceEq, Int.reduceLT, Int.reduceLE, decide_true, decide_false, List.set_set, decide_eq_false (show ¬ (r2 : Int) = 3 by omega)]
        refine sat_nil (sat_seq ?_)
        have hr : r1 < xs.length := by omega
        have ax : L2.atI xs (r1 : Int) = some xs[r1] := at_nat (List.getElem?_eq_getElem hr)
        have gx := u2.mem (List.getElem_mem hr)
        have ws := wts_split (List.getElem?_eq_getElem hr)
        have wx := u2.w
        simp only [sat_okI, evS, evT, evE, evL, evAll, Out.bind_ok, Out.bind_exc, Out.bind_err, bind_assoc_, Out.nox_ok, opt_some, opt_none, optD_some, optD_none, datb_, lookO, lookF_dat, look_dat, dats_nil, dats_cons, Option.map_some, Option.map_none, asT, asTs, it_ok, it_bind, dfl, List.map_nil, List.map_cons, List.append_nil, List.nil_append, List.cons_append, List.replicate_zero, List.replicate_succ, Nat.sub_self, List.getElem?_cons_zero, List.getElem?_cons_succ, List.set_cons_zero, List.set_cons_succ, List.length_cons, List.length_nil, at_0, at_1, at_2, at_3, isTy, bind_nm, bind_tp, bpts_nil, bpts_cons, retOf, isNon, partO, cond_t, cond_f, if_true, if_false, Bool.false_eq_true, reduceIte, reduceCtorEq, wipeE, Nat.reduceAdd, Nat.reduceSub, Nat.reduceLT, Nat.reduceLeDiff, Nat.lt_add_one, Nat.zero_add, Int.reduceNeg, Bool.not_true, Bool.not_false, bf_len_t, bf_len_l, bf_abs, bf_min2, bf_max2, bf_int_b, bf_repr, bf_list_l, bf_list_t, bf_tuple_l, bf_tuple_t, bf_all, bf_any, bf_sum, bf_isi, bin_add, bin_sub, bin_mul, bin_fdv, bin_mod, bin_p18, bin_p12, bin_add_t, bin_add_l, bin_add_s, bin_mul_t, cmpP_eq, eqO_s, cmpP_ne, cmpP_lt, cmpP_le, cmpP_gt, cmpP_ge, cmpP_in, cmpP_nin, eqP_int, eqP_str, eq_nil_nil, eq_lay, eq_row, eq_rns, add_rns, perm10, idx_t, idx_l, idx_pl0, idx_pl1, idx_lp0, idx_lp1, idx_rw0, kob_0, kob_1, kput_0, kput_1, sli_t, sli_l, rev_t, rev_l, items_t, items_l, seq_t, seq_l, bools_nil, bools_cons, compL, consO, List.all_cons, List.all_nil, List.any_cons, List.any_nil, id_eq, Bool.and_true, Bool.true_and, Bool.and_self, finD_rt, finD_nx, ix3_0, ix3_1, ix3_2, ne_eq, not_false_eq_true, not_true_eq_false, Int.reduceEq, Int.reduceLT, Int.reduceLE, decide_true, decide_false, List.set_set, cut_take, ax]
        refine sat_then (rec hz P2 (by omega) (m := wt xs[r1]) ⟨gx.gi, gx.dp, Nat.le_refl _⟩ (by omega) (by omega)) ?_
        rintro v S3 ⟨⟨y, rfl, gy⟩, P3, F3⟩
        have q1 : (xs.take r1).length + 1 ≤ sizeLine := by rw [List.length_take, sizeLine_eq]; omega
        have q2 : (xs.take r1 ++ [y]).length + (xs.drop (r1 + 1)).length ≤ sizeLine := by rw [List.length_append, List.length_take, List.length_drop, sizeLine_eq]; simp only [List.length_cons, List.length_nil]; omega
        simp only [sat_okI, evS, evT, evE, evL, evAll, Out.bind_ok, Out.bind_exc, Out.bind_err, bind_assoc_, Out.nox_ok, opt_some, opt_none, optD_some, optD_none, datb_, lookO, lookF_dat, look_dat, dats_nil, dats_cons, Option.map_some, Option.map_none, asT, asTs, it_ok, it_bind, dfl, List.map_nil, List.map_cons, List.append_nil, List.nil_append, List.cons_append, List.replicate_zero, List.replicate_succ, Nat.sub_self, List.getElem?_cons_zero, List.getElem?_cons_succ, List.set_cons_zero, List.set_cons_succ, List.length_cons, List.length_nil, at_0, at_1, at_2, at_3, isTy, bind_nm, bind_tp, bpts_nil, bpts_cons, retOf, isNon, partO, cond_t, cond_f, if_true, if_false, Bool.false_eq_true, reduceIte, reduceCtorEq, wipeE, Nat.reduceAdd, Nat.reduceSub, Nat.reduceLT, Nat.reduceLeDiff, Nat.lt_add_one, Nat.zero_add, Int.reduceNeg, Bool.not_true, Bool.not_false, bf_len_t, bf_len_l, bf_abs, bf_min2, bf_max2, bf_int_b, bf_repr, bf_list_l, bf_list_t, bf_tuple_l, bf_tuple_t, bf_all, bf_any, bf_sum, bf_isi, bin_add, bin_sub, bin_mul, bin_fdv, bin_mod, bin_p18, bin_p12, bin_add_t, bin_add_l, bin_add_s, bin_mul_t, cmpP_eq, eqO_s, cmpP_ne, cmpP_lt, cmpP_le, cmpP_gt, cmpP_ge, cmpP_in, cmpP_nin, eqP_int, eqP_str, eq_nil_nil, eq_lay, eq_row, eq_rns, add_rns, perm10, idx_t, idx_l, idx_pl0, idx_pl1, idx_lp0, idx_lp1, idx_rw0, kob_0, kob_1, kput_0, kput_1, sli_t, sli_l, rev_t, rev_l, items_t, items_l, seq_t, seq_l, bools_nil, bools_cons, compL, consO, List.all_cons, List.all_nil, List.any_cons, List.any_nil, id_eq, Bool.and_true, Bool.true_and, Bool.and_self, finD_rt, finD_nx, ix3_0, ix3_1, ix3_2, ne_eq, not_false_eq_true, not_true_eq_false, Int.reduceEq, Int.reduceLT, Int.reduceLE, decide_true, decide_false, List.set_set, z1, q1, e1, cut_drop, q2]
        have gt : Gs (b + 1) (max (d - 1) (deep - 1 + 3)) (wts (xs.take r1)) (xs.take r1) := (⟨(u2.take r1).gi, (u2.take r1).dp, Nat.le_refl _⟩ : Gs b (d - 1) _ _).mono (by omega) (by omega) (Nat.le_refl _)
        have gr : Gs (b + 1) (max (d - 1) (deep - 1 + 3)) (wts (xs.drop (r1 + 1))) (xs.drop (r1 + 1)) := (⟨(u2.drop (r1 + 1)).gi, (u2.drop (r1 + 1)).dp, Nat.le_refl _⟩ : Gs b (d - 1) _ _).mono (by omega) (by omega) (Nat.le_refl _)
        have ga := (gt.app (Gs.cons (n := 0) gy .nil)).app gr
        exact ⟨⟨_, by trivial, ga.tup.mono (Nat.le_refl _) (by omega) (by omega)⟩, P3.mono (by omega), F02.trans F3⟩
theorem bent_body {b k deep n l d m : Nat} {p : PyData} {S : Store} (hb0 : 41 ≤ b) (hb1 : b ≤ 60) (h : Pen n l S) (hn : n + 20 * deep ≤ 2 ^ 81) (hd : deep ≤ 6) (G : Gd b d m p) (hd2 : d ≤ 30) (hm : m ≤ 2 ^ 20)
    (rec : deep ≠ 0 → ∀ {n m d : Nat} {p : PyData} {S : Store}, Pen n l S → n + 20 * (deep - 1) ≤ 2 ^ 81 → Gd b d m p → d ≤ 30 → m ≤ 2 ^ 20 → (callN PP W (k + deep + 3) 15 [.ref l, .dat p, .dat (.int ((deep : Int) - 1))] S).sat (BentQ b d m (deep - 1) n l S)) :
    (callN PP W (k + deep + 4) 15 [.ref l, .dat p, .dat (.int (deep : Int))] S).sat (BentQ b d m deep n l S) := by
  refine call_pen (R := fun v => ∃ x, v = Val.dat x ∧ Gd (b + 1) (max d (deep + 3)) (2 * m + 600) x) P_15 rfl h.lt ?_
  have rest := fun {n' S'} (h' : Pen n' l S') h2 h3 F => bent_rest (S0 := S) (n0 := n) hb0 hb1 h' h2 h3 F hd G hd2 hm rec
  simp only [b_15, List.drop_succ_cons, List.drop_zero] at rest
  have wh := fun S => s_law_wh (k := k + deep + 2) (W := W) (p := p) (S := S)
  simp only [d_15, b_15]
  refine sat_seq ?_
  cases q : isWh p with
  | false =>
    rw [q] at wh
    simp only [sat_okI, evS, evT, evE, evL, evAll, Out.bind_ok, Out.bind_exc, Out.bind_err, bind_assoc_, Out.nox_ok, opt_some, opt_none, optD_some, optD_none, datb_, lookO, lookF_dat, look_dat, dats_nil, dats_cons, Option.map_some, Option.map_none, asT, asTs, it_ok, it_bind, dfl, List.map_nil, List.map_cons, List.append_nil, List.nil_append, List.cons_append, List.replicate_zero, List.replicate_succ, Nat.sub_self, List.getElem?_cons_zero, List.getElem?_cons_succ, List.set_cons_zero, List.set_cons_succ, List.length_cons, List.length_nil, at_0, at_1, at_2, at_3, isTy, bind_nm, bind_tp, bpts_nil, bpts_cons, retOf, isNon, partO, cond_t, cond_f, if_true, if_false, Bool.false_eq_true, reduceIte, reduceCtorEq, wipeE, Nat.reduceAdd, Nat.reduceSub, Nat.reduceLT, Nat.reduceLeDiff, Nat.lt_add_one, Nat.zero_add, Int.reduceNeg, Bool.not_true, Bool.not_false, bf_len_t, bf_len_l, bf_abs, bf_min2, bf_max2, bf_int_b, bf_repr, bf_list_l, bf_list_t, bf_tuple_l, bf_tuple_t, bf_all, bf_any, bf_sum, bf_isi, bin_add, bin_sub, bin_mul, bin_fdv, bin_mod, bin_p18, bin_p12, bin_add_t, bin_add_l, bin_add_s, bin_mul_t, cmpP_eq, eqO_s, cmpP_ne, cmpP_lt, cmpP_le, cmpP_gt, cmpP_ge, cmpP_in, cmpP_nin, eqP_int, eqP_str, eq_nil_nil, eq_lay, eq_row, eq_rns, add_rns, perm10, idx_t, idx_l, idx_pl0, idx_pl1, idx_lp0, idx_lp1, idx_rw0, kob_0, kob_1, kput_0, kput_1, sli_t, sli_l, rev_t, rev_l, items_t, items_l, seq_t, seq_l, bools_nil, bools_cons, compL, consO, List.all_cons, List.all_nil, List.any_cons, List.any_nil, id_eq, Bool.and_true, Bool.true_and, Bool.and_self, finD_rt, finD_nx, ix3_0, ix3_1, ix3_2, ne_eq, not_false_eq_true, not_true_eq_false, Int.reduceEq, Int.reduceLT, Int.reduceLE, decide_true, decide_false, List.set_set, wh]
    exact sat_nil (rest h (by omega) (by omega) .refl)
  | true =>
    obtain ⟨i, rfl⟩ := wh_int q
    rw [q] at wh
    simp only [sat_okI, evS, evT, evE, evL, evAll, Out.bind_ok, Out.bind_exc, Out.bind_err, bind_assoc_, Out.nox_ok, opt_some, opt_none, optD_some, optD_none, datb_, lookO, lookF_dat, look_dat, dats_nil, dats_cons, Option.map_some, Option.map_none, asT, asTs, it_ok, it_bind, dfl, List.map_nil, List.map_cons, List.append_nil, List.nil_append, List.cons_append, List.replicate_zero, List.replicate_succ, Nat.sub_self, List.getElem?_cons_zero, List.getElem?_cons_succ, List.set_cons_zero, List.set_cons_succ, List.length_cons, List.length_nil, at_0, at_1, at_2, at_3, isTy, bind_nm, bind_tp, bpts_nil, bpts_cons, retOf, isNon, partO, cond_t, cond_f, if_true, if_false, Bool.false_eq_true, reduceIte, reduceCtorEq, wipeE, Nat.reduceAdd, Nat.reduceSub, Nat.reduceLT, Nat.reduceLeDiff, Nat.lt_add_one, Nat.zero_add, Int.reduceNeg, Bool.not_true, Bool.not_false, bf_len_t, bf_len_l, bf_abs, bf_min2, bf_max2, bf_int_b, bf_repr, bf_list_l, bf_list_t, bf_tuple_l, bf_tuple_t, bf_all, bf_any, bf_sum, bf_isi, bin_add, bin_sub, bin_mul, bin_fdv, bin_mod, bin_p18, bin_p12, bin_add_t, bin_add_l, bin_add_s, bin_mul_t, cmpP_eq, eqO_s, cmpP_ne, cmpP_lt, cmpP_le, cmpP_gt, cmpP_ge, cmpP_in, cmpP_nin, eqP_int, eqP_str, eq_nil_nil, eq_lay, eq_row, eq_rns, add_rns, perm10, idx_t, idx_l, idx_pl0, idx_pl1, idx_lp0, idx_lp1, idx_rw0, kob_0, kob_1, kput_0, kput_1, sli_t, sli_l, rev_t, rev_l, items_t, items_l, seq_t, seq_l, bools_nil, bools_cons, compL, consO, List.all_cons, List.all_nil, List.any_cons, List.any_nil, id_eq, Bool.and_true, Bool.true_and, Bool.and_self, finD_rt, finD_nx, ix3_0, ix3_1, ix3_2, ne_eq, not_false_eq_true, not_true_eq_false, Int.reduceEq, Int.reduceLT, Int.reduceLE, decide_true, decide_false, List.set_set, wh]
    refine sat_then (s_draw h (by omega) (by omega) (by omega)) ?_
    rintro v S1 ⟨⟨r, rfl, hr⟩, P1, F1⟩
    by_cases h0 : 0 < r
    · have ib := G.gi
      simp only [gI, decide_eq_true_eq] at ib
      have z6 : (6 : Nat) ≤ sizeLine := by rw [sizeLine_eq]; omega
      have pb : 2 ^ 41 ≤ 2 ^ b := Nat.pow_le_pow_right (by decide) hb0
      have fm1 := fm_ge (x := i) (m := 100) (by decide)
      have fm2 := fm_lt (x := i) (m := 100) (by decide)
      simp only [sat_okI, evS, evT, evE, evL, evAll, Out.bind_ok, Out.bind_exc, Out.bind_err, bind_assoc_, Out.nox_ok, opt_some, opt_none, optD_some, optD_none, datb_, lookO, lookF_dat, look_dat, dats_nil, dats_cons, Option.map_some, Option.map_none, asT, asTs, it_ok, it_bind, dfl, List.map_nil, List.map_cons, List.append_nil, List.nil_append, List.cons_append, List.replicate_zero, List.replicate_succ, Nat.sub_self, List.getElem?_cons_zero, List.getElem?_cons_succ, List.set_cons_zero, List.set_cons_succ, List.length_cons, List.length_nil, at_0, at_1, at_2, at_3, isTy, bind_nm, bind_tp, bpts_nil, bpts_cons, retOf, isNon, partO, cond_t, cond_f, if_true, if_false, Bool.false_eq_true, reduceIte, reduceCtorEq, wipeE, Nat.reduceAdd, Nat.reduceSub, Nat.reduceLT, Nat.reduceLeDiff, Nat.lt_add_one, Nat.zero_add, Int.reduceNeg, Bool.not_true, Bool.not_false, bf_len_t, bf_len_l, bf_abs, bf_min2, bf_max2, bf_int_b, bf_repr, bf_list_l, bf_list_t, bf_tuple_l, bf_tuple_t, bf_all, bf_any, bf_sum, bf_isi, bin_add, bin_sub, bin_mul, bin_fdv, bin_mod, bin_p18, bin_p12, bin_add_t, bin_add_l, bin_add_s, bin_mul_t, cmpP_eq, eqO_s, cmpP_ne, cmpP_lt, cmpP_le, cmpP_gt, cmpP_ge, cmpP_in, cmpP_nin, eqP_int, eqP_str, eq_nil_nil, eq_lay, eq_row, eq_rns, add_rns, perm10, idx_t, idx_l, idx_pl0, idx_pl1, idx_lp0, idx_lp1, idx_rw0, kob_0, kob_1, kput_0, kput_1, sli_t, sli_l, rev_t, rev_l, items_t, items_l, seq_t, seq_l, bools_nil, bools_cons, compL, consO, List.all_cons, List.all_nil, List.any_cons, List.any_nil, id_eq, Bool.and_true, Bool.true_and, Bool.and_self, finD_rt, finD_nx, ix3_0, ix3_1, ix3_2, ne_eq, not_false_eq_true, not_true_eq_false, Int.reduceEq, Int.reduceLT, Int.reduceLE, decide_true, decide_false, List.set_set, decide_eq_true (show 0 < (r : Int) by omega)]
      refine sat_seq ?_
      simp only [sat_okI, evS, evT, evE, evL, evAll, Out.bind_ok, Out.bind_exc, Out.bind_err, bind_assoc_, Out.nox_ok, opt_some, opt_none, optD_some, optD_none, datb_, lookO, lookF_dat, look_dat, dats_nil, dats_cons, Option.map_some, Option.map_none, asT, asTs, it_ok, it_bind, dfl, List.map_nil, List.map_cons, List.append_nil, List.nil_append, List.cons_append, List.replicate_zero, List.replicate_succ, Nat.sub_self, List.getElem?_cons_zero, List.getElem?_cons_succ, List.set_cons_zero, List.set_cons_succ, List.length_cons, List.length_nil, at_0, at_1, at_2, at_3, isTy, bind_nm, bind_tp, bpts_nil, bpts_cons, retOf, isNon, partO, cond_t, cond_f, if_true, if_false, Bool.false_eq_true, reduceIte, reduceCtorEq, wipeE, Nat.reduceAdd, Nat.reduceSub, Nat.reduceLT, Nat.reduceLeDiff, Nat.lt_add_one, Nat.zero_add, Int.reduceNeg, Bool.not_true, Bool.not_false, bf_len_t, bf_len_l, bf_abs, bf_min2, bf_max2, bf_int_b, bf_repr, bf_list_l, bf_list_t, bf_tuple_l, bf_tuple_t, bf_all, bf_any, bf_sum, bf_isi, bin_add, bin_sub, bin_mul, bin_fdv, bin_mod, bin_p18, bin_p12, bin_add_t, bin_add_l, bin_add_s, bin_mul_t, cmpP_eq, eqO_s, cmpP_ne, cmpP_lt, cmpP_le, cmpP_gt, cmpP_ge, cmpP_in, cmpP_nin, eqP_int, eqP_str, eq_nil_nil, eq_lay, eq_row, eq_rns, add_rns, perm10, idx_t, idx_l, idx_pl0, idx_pl1, idx_lp0, idx_lp1, idx_rw0, kob_0, kob_1, kput_0, kput_1, sli_t, sli_l, rev_t, rev_l, items_t, items_l, seq_t, seq_l, bools_nil, bools_cons, compL, consO, List.all_cons, List.all_nil, List.any_cons, List.any_nil, id_eq, Bool.and_true, Bool.true_and, Bool.and_self, finD_rt, finD_nx, ix3_0, ix3_1, ix3_2, ne_eq, not_false_eq_true, not_true_eq_false, Int.reduceEq, Int.reduceLT, Int.reduceLE, decide_true, decide_false, List.set_set, z6]
      refine sat_then (s_pick (k := k + deep + 1) P1 (by omega) (by simp) (by simp)) ?_
      rintro v S2 ⟨⟨x, rfl, hx⟩, P2, F2⟩
      refine .ok ⟨⟨x, rfl, ?_⟩, P2.mono (by omega), F1.trans F2⟩
      have e2 : 2 ^ (b + 1) = 2 * 2 ^ b := by rw [Nat.pow_succ]; omega
      have gi : ∀ j : Int, j.natAbs < 2 ^ (b + 1) → Gd (b + 1) (max d (deep + 3)) (2 * m + 600) (.int j) := fun j hj => (gd_int hj).mono (Nat.le_refl _) (by omega) (by omega)
      simp only [List.mem_cons, List.not_mem_nil, or_false] at hx
      rcases hx with rfl | rfl | rfl | rfl | rfl | rfl
      · exact gi _ (by omega)
      · exact gi _ (by omega)
      · exact (gd_bool (b := b + 1)).mono (Nat.le_refl _) (by omega) (by omega)
      · exact gi _ (by omega)
      · exact gi _ (by omega)
      · exact gi _ (by omega)
    · simp only [sat_okI, evS, evT, evE, evL, evAll, Out.bind_ok, Out.bind_exc, Out.bind_err, bind_assoc_, Out.nox_ok, opt_some, opt_none, optD_some, optD_none, datb_, lookO, lookF_dat, look_dat, dats_nil, dats_cons, Option.map_some, Option.map_none, asT, asTs, it_ok, it_bind, dfl, List.map_nil, List.map_cons, List.append_nil, List.nil_append, List.cons_append, List.replicate_zero, List.replicate_succ, Nat.sub_self, List.getElem?_cons_zero, List.getElem?_cons_succ, List.set_cons_zero, List.set_cons_succ, List.length_cons, List.length_nil, at_0, at_1, at_2, at_3, isTy, bind_nm, bind_tp, bpts_nil, bpts_cons, retOf, isNon, partO, cond_t, cond_f, if_true, if_false, Bool.false_eq_true, reduceIte, reduceCtorEq, wipeE, Nat.reduceAdd, Nat.reduceSub, Nat.reduceLT, Nat.reduceLeDiff, Nat.lt_add_one, Nat.zero_add, Int.reduceNeg, Bool.not_true, Bool.not_false, bf_len_t, bf_len_l, bf_abs, bf_min2, bf_max2, bf_int_b, bf_repr, bf_list_l, bf_list_t, bf_tuple_l, bf_tuple_t, bf_all, bf_any, bf_sum, bf_isi, bin_add, bin_sub, bin_mul, bin_fdv, bin_mod, bin_p18, bin_p12, bin_add_t, bin_add_l, bin_add_s, bin_mul_t, cmpP_eq, eqO_s, cmpP_ne, cmpP_lt, cmpP_le, cmpP_gt, cmpP_ge, cmpP_in, cmpP_nin, eqP_int, eqP_str, eq_nil_nil, eq_lay, eq_row, eq_rns, add_rns, perm10, idx_t, idx_l, idx_pl0, idx_pl1, idx_lp0, idx_lp1, idx_rw0, kob_0, kob_1, kput_0, kput_1, sli_t, sli_l, rev_t, rev_l, items_t, items_l, seq_t, seq_l, bools_nil, bools_cons, compL, consO, List.all_cons, List.all_nil, List.any_cons, List.any_nil, id_eq, Bool.and_true, Bool.true_and, Bool.and_self, finD_rt, finD_nx, ix3_0, ix3_1, ix3_2, ne_eq, not_false_eq_true, not_true_eq_false, Int.reduceEq, Int.reduceLT, Int.reduceLE, decide_true, decide_false, List.set_set, decide_eq_false (show ¬ 0 < (r : Int) by omega)]
      exact sat_nil (rest P1 (by omega) (by omega) F1)
theorem s_bent {b : Nat} (hb0 : 41 ≤ b) (hb1 : b ≤ 60) : ∀ {deep k n l d m : Nat} {p : PyData} {S : Store}, Pen n l S → n + 20 * deep ≤ 2 ^ 81 → deep ≤ 6 → Gd b d m p → d ≤ 30 → m ≤ 2 ^ 20 →
    (callN PP W (k + deep + 4) 15 [.ref l, .dat p, .dat (.int (deep : Int))] S).sat (BentQ b d m deep n l S) := by
  intro deep
  induction deep with
  | zero => exact fun h hn hd G hd2 hm => bent_body hb0 hb1 h hn hd G hd2 hm (fun h0 => absurd rfl h0)
  | succ deep ih =>
    intro k n l d m p S h hn hd G hd2 hm
    refine bent_body hb0 hb1 h hn hd G hd2 hm fun _ n' m' d' p' S' h' hn' G' hd' hm' => ?_
    have e : (((deep + 1 : Nat) : Int) - 1) = (deep : Int) := by omega
    rw [e]
    exact ih (k := k) h' (by omega) (by omega) G' hd' hm'

theorem s_right {k : Nat} {p : PyData} {S : Store} (h : repOk p = true) : callN PP W (k + 4) 17 [.dat p] S = .ok (.dat (.bool true)) S := by
  have z2 : (2 : Nat) ≤ sizeLine := by rw [sizeLine_eq]; omega
  have z4 : (4 : Nat) ≤ sizeLine := by rw [sizeLine_eq]; omega
  have ml : binP .mul (.list [.bool (isPl p), .bool (isLy p)]) (.int 2) = some (.list [.bool (isPl p), .bool (isLy p), .bool (isPl p), .bool (isLy p)]) := by
    have e : binP .mul (.list [.bool (isPl p), .bool (isLy p)]) (.int 2) = if -(2 ^ 63) ≤ (2 : Int) ∧ (2 : Int) < 2 ^ 63 ∧ [PyData.bool (isPl p), .bool (isLy p)].length * (2 : Int).toNat ≤ sizeLine then some (.list (List.replicate (2 : Int).toNat [PyData.bool (isPl p), .bool (isLy p)]).flatten) else none := rfl
    rw [e, if_pos ⟨by decide, by decide, by rw [sizeLine_eq]; simp⟩]
    rfl
  have gb : Gd 41 1 100 (.list [.bool (isPl p), .bool (isLy p), .bool (isPl p), .bool (isLy p)]) := (Gs.lst (Gs.cons gd_bool (Gs.cons gd_bool (Gs.cons gd_bool (Gs.cons gd_bool (n := 0) .nil))))).mono (Nat.le_refl _) (by omega) (by omega)
  have es := fun S => s_same (k := k + 2) (W := W) (S := S) (gb.rk (by omega)) (by omega) (by omega)
  rw [callN_at P_17 rfl]
  simp only [d_17, b_17, evSs, evS, evT, evE, evL, evAll, Out.bind_ok, Out.bind_exc, Out.bind_err, bind_assoc_, Out.nox_ok, opt_some, opt_none, optD_some, optD_none, datb_, lookO, lookF_dat, look_dat, dats_nil, dats_cons, Option.map_some, Option.map_none, asT, asTs, it_ok, it_bind, dfl, List.map_nil, List.map_cons, List.append_nil, List.nil_append, List.cons_append, List.replicate_zero, List.replicate_succ, Nat.sub_self, List.getElem?_cons_zero, List.getElem?_cons_succ, List.set_cons_zero, List.set_cons_succ, List.length_cons, List.length_nil, at_0, at_1, at_2, at_3, isTy, bind_nm, bind_tp, bpts_nil, bpts_cons, retOf, isNon, partO, cond_t, cond_f, if_true, if_false, Bool.false_eq_true, reduceIte, reduceCtorEq, wipeE, Nat.reduceAdd, Nat.reduceSub, Nat.reduceLT, Nat.reduceLeDiff, Nat.lt_add_one, Nat.zero_add, Int.reduceNeg, Bool.not_true, Bool.not_false, bf_len_t, bf_len_l, bf_abs, bf_min2, bf_max2, bf_int_b, bf_repr, bf_list_l, bf_list_t, bf_tuple_l, bf_tuple_t, bf_all, bf_any, bf_sum, bf_isi, bin_add, bin_sub, bin_mul, bin_fdv, bin_mod, bin_p18, bin_p12, bin_add_t, bin_add_l, bin_add_s, bin_mul_t, cmpP_eq, eqO_s, cmpP_ne, cmpP_lt, cmpP_le, cmpP_gt, cmpP_ge, cmpP_in, cmpP_nin, eqP_int, eqP_str, eq_nil_nil, eq_lay, eq_row, eq_rns, add_rns, perm10, idx_t, idx_l, idx_pl0, idx_pl1, idx_lp0, idx_lp1, idx_rw0, kob_0, kob_1, kput_0, kput_1, sli_t, sli_l, rev_t, rev_l, items_t, items_l, seq_t, seq_l, bools_nil, bools_cons, compL, consO, List.all_cons, List.all_nil, List.any_cons, List.any_nil, id_eq, Bool.and_true, Bool.true_and, Bool.and_self, finD_rt, finD_nx, ix3_0, ix3_1, ix3_2, ne_eq, not_false_eq_true, not_true_eq_false, Int.reduceEq, Int.reduceLT, Int.reduceLE, decide_true, decide_false, List.set_set, s_law_spot, s_law_is_lay, s_pl, s_ly, z2, z4, h, ml, es]
noncomputable def HS : List PyData := match callN PP none 11 16 [] [] with
  | .ok (.dat (.list xs)) _ => xs
  | _ => []
theorem hs_ok (xs : List PyData) : callN PP none 11 16 [] [.frz xs] = .ok (.dat (.list HS)) [.frz xs] := by kernel_rfl
theorem hs_rep : HS.all repOk = true := by kernel_rfl
theorem hs_len : decide (HS.length < 100) = true := by kernel_rfl
def lap_body : List IS := forBody (forBody b_18 1) 1
theorem lap_ok {n l i : Nat} {S : Store} {v1 v4 v5 v6 v7 v8 : Option Val} (h : Pen n l S) (hn : n ≤ 2 ^ 60) (hi : i < 4) :
    (evSs none (callN PP none 11) lap_body [some (Val.ref 0), v1, some (Val.ref l), some (Val.dat (.int (i : Int))), v4, v5, v6, v7, v8] S).sat fun r S' => (∃ rest', r = .nx (some (Val.ref 0) :: v1 :: some (Val.ref l) :: some (Val.dat (.int (i : Int))) :: rest') ∧ rest'.length = 5 ∧ Pen (n + 5000) l S' ∧ Fr l S S') := by
  have z3 : (3 : Nat) ≤ sizeLine := by rw [sizeLine_eq]; omega
  simp only [lap_body, b_18, forBody]
  refine sat_seq ?_
  simp only [sat_okI, evS, evT, evE, evL, evAll, Out.bind_ok, Out.bind_exc, Out.bind_err, bind_assoc_, Out.nox_ok, opt_some, opt_none, optD_some, optD_none, datb_, lookO, lookF_dat, look_dat, dats_nil, dats_cons, Option.map_some, Option.map_none, asT, asTs, it_ok, it_bind, dfl, List.map_nil, List.map_cons, List.append_nil, List.nil_append, List.cons_append, List.replicate_zero, List.replicate_succ, Nat.sub_self, List.getElem?_cons_zero, List.getElem?_cons_succ, List.set_cons_zero, List.set_cons_succ, List.length_cons, List.length_nil, at_0, at_1, at_2, at_3, isTy, bind_nm, bind_tp, bpts_nil, bpts_cons, retOf, isNon, partO, cond_t, cond_f, if_true, if_false, Bool.false_eq_true, reduceIte, reduceCtorEq, wipeE, Nat.reduceAdd, Nat.reduceSub, Nat.reduceLT, Nat.reduceLeDiff, Nat.lt_add_one, Nat.zero_add, Int.reduceNeg, Bool.not_true, Bool.not_false, bf_len_t, bf_len_l, bf_abs, bf_min2, bf_max2, bf_int_b, bf_repr, bf_list_l, bf_list_t, bf_tuple_l, bf_tuple_t, bf_all, bf_any, bf_sum, bf_isi, bin_add, bin_sub, bin_mul, bin_fdv, bin_mod, bin_p18, bin_p12, bin_add_t, bin_add_l, bin_add_s, bin_mul_t, cmpP_eq, eqO_s, cmpP_ne, cmpP_lt, cmpP_le, cmpP_gt, cmpP_ge, cmpP_in, cmpP_nin, eqP_int, eqP_str, eq_nil_nil, eq_lay, eq_row, eq_rns, add_rns, perm10, idx_t, idx_l, idx_pl0, idx_pl1, idx_lp0, idx_lp1, idx_rw0, kob_0, kob_1, kput_0, kput_1, sli_t, sli_l, rev_t, rev_l, items_t, items_l, seq_t, seq_l, bools_nil, bools_cons, compL, consO, List.all_cons, List.all_nil, List.any_cons, List.any_nil, id_eq, Bool.and_true, Bool.true_and, Bool.and_self, finD_rt, finD_nx, ix3_0, ix3_1, ix3_2, ne_eq, not_false_eq_true, not_true_eq_false, Int.reduceEq, Int.reduceLT, Int.reduceLE, decide_true, decide_false, List.set_set]
  refine sat_then (s_law_lay h (by omega) (by omega) (by omega) (by omega) (by omega)) ?_
  rintro v S1 ⟨⟨L, rfl, l1, l2, l3⟩, P1, F1⟩
  have hb : Bn 6 L := Spn.bn l3 (by omega)
  have l2 : L.length ≤ 6 := by omega
  have l0 : idxP (lay L) (.int 0) = some (pl (atL L 0)) := at_nat (i := 0) (by rw [List.getElem?_map, at_lay (show 0 < L.length by omega)]; rfl)
  have gL : Gd 41 2 1035 (lay L) := (gd_lay (hb.mono (show 6 ≤ 41 by omega))).mono (Nat.le_refl _) (Nat.le_refl _) (by omega)
  have gP : Gd 41 1 170 (pl (atL L 0)) := gd_pl ((hb.mono (show 6 ≤ 41 by omega)) _ (at_mem (by omega)))
  simp only [sat_okI, evS, evT, evE, evL, evAll, Out.bind_ok, Out.bind_exc, Out.bind_err, bind_assoc_, Out.nox_ok, opt_some, opt_none, optD_some, optD_none, datb_, lookO, lookF_dat, look_dat, dats_nil, dats_cons, Option.map_some, Option.map_none, asT, asTs, it_ok, it_bind, dfl, List.map_nil, List.map_cons, List.append_nil, List.nil_append, List.cons_append, List.replicate_zero, List.replicate_succ, Nat.sub_self, List.getElem?_cons_zero, List.getElem?_cons_succ, List.set_cons_zero, List.set_cons_succ, List.length_cons, List.length_nil, at_0, at_1, at_2, at_3, isTy, bind_nm, bind_tp, bpts_nil, bpts_cons, retOf, isNon, partO, cond_t, cond_f, if_true, if_false, Bool.false_eq_true, reduceIte, reduceCtorEq, wipeE, Nat.reduceAdd, Nat.reduceSub, Nat.reduceLT, Nat.reduceLeDiff, Nat.lt_add_one, Nat.zero_add, Int.reduceNeg, Bool.not_true, Bool.not_false, bf_len_t, bf_len_l, bf_abs, bf_min2, bf_max2, bf_int_b, bf_repr, bf_list_l, bf_list_t, bf_tuple_l, bf_tuple_t, bf_all, bf_any, bf_sum, bf_isi, bin_add, bin_sub, bin_mul, bin_fdv, bin_mod, bin_p18, bin_p12, bin_add_t, bin_add_l, bin_add_s, bin_mul_t, cmpP_eq, eqO_s, cmpP_ne, cmpP_lt, cmpP_le, cmpP_gt, cmpP_ge, cmpP_in, cmpP_nin, eqP_int, eqP_str, eq_nil_nil, eq_lay, eq_row, eq_rns, add_rns, perm10, idx_t, idx_l, idx_pl0, idx_pl1, idx_lp0, idx_lp1, idx_rw0, kob_0, kob_1, kput_0, kput_1, sli_t, sli_l, rev_t, rev_l, items_t, items_l, seq_t, seq_l, bools_nil, bools_cons, compL, consO, List.all_cons, List.all_nil, List.any_cons, List.any_nil, id_eq, Bool.and_true, Bool.true_and, Bool.and_self, finD_rt, finD_nx, ix3_0, ix3_1, ix3_2, ne_eq, not_false_eq_true, not_true_eq_false, Int.reduceEq, Int.reduceLT, Int.reduceLE, decide_true, decide_false, List.set_set]
  refine sat_seq ?_
  simp only [sat_okI, evS, evT, evE, evL, evAll, Out.bind_ok, Out.bind_exc, Out.bind_err, bind_assoc_, Out.nox_ok, opt_some, opt_none, optD_some, optD_none, datb_, lookO, lookF_dat, look_dat, dats_nil, dats_cons, Option.map_some, Option.map_none, asT, asTs, it_ok, it_bind, dfl, List.map_nil, List.map_cons, List.append_nil, List.nil_append, List.cons_append, List.replicate_zero, List.replicate_succ, Nat.sub_self, List.getElem?_cons_zero, List.getElem?_cons_succ, List.set_cons_zero, List.set_cons_succ, List.length_cons, List.length_nil, at_0, at_1, at_2, at_3, isTy, bind_nm, bind_tp, bpts_nil, bpts_cons, retOf, isNon, partO, cond_t, cond_f, if_true, if_false, Bool.false_eq_true, reduceIte, reduceCtorEq, wipeE, Nat.reduceAdd, Nat.reduceSub, Nat.reduceLT, Nat.reduceLeDiff, Nat.lt_add_one, Nat.zero_add, Int.reduceNeg, Bool.not_true, Bool.not_false, bf_len_t, bf_len_l, bf_abs, bf_min2, bf_max2, bf_int_b, bf_repr, bf_list_l, bf_list_t, bf_tuple_l, bf_tuple_t, bf_all, bf_any, bf_sum, bf_isi, bin_add, bin_sub, bin_mul, bin_fdv, bin_mod, bin_p18, bin_p12, bin_add_t, bin_add_l, bin_add_s, bin_mul_t, cmpP_eq, eqO_s, cmpP_ne, cmpP_lt, cmpP_le, cmpP_gt, cmpP_ge, cmpP_in, cmpP_nin, eqP_int, eqP_str, eq_nil_nil, eq_lay, eq_row, eq_rns, add_rns, perm10, idx_t, idx_l, idx_pl0, idx_pl1, idx_lp0, idx_lp1, idx_rw0, kob_0, kob_1, kput_0, kput_1, sli_t, sli_l, rev_t, rev_l, items_t, items_l, seq_t, seq_l, bools_nil, bools_cons, compL, consO, List.all_cons, List.all_nil, List.any_cons, List.any_nil, id_eq, Bool.and_true, Bool.true_and, Bool.and_self, finD_rt, finD_nx, ix3_0, ix3_1, ix3_2, ne_eq, not_false_eq_true, not_true_eq_false, Int.reduceEq, Int.reduceLT, Int.reduceLE, decide_true, decide_false, List.set_set, l0]
  refine sat_then (s_odd (k := 8) P1 (by omega)) ?_
  rintro v S2 ⟨⟨o, rfl, go⟩, P2, F2⟩
  simp only [sat_okI, evS, evT, evE, evL, evAll, Out.bind_ok, Out.bind_exc, Out.bind_err, bind_assoc_, Out.nox_ok, opt_some, opt_none, optD_some, optD_none, datb_, lookO, lookF_dat, look_dat, dats_nil, dats_cons, Option.map_some, Option.map_none, asT, asTs, it_ok, it_bind, dfl, List.map_nil, List.map_cons, List.append_nil, List.nil_append, List.cons_append, List.replicate_zero, List.replicate_succ, Nat.sub_self, List.getElem?_cons_zero, List.getElem?_cons_succ, List.set_cons_zero, List.set_cons_succ, List.length_cons, List.length_nil, at_0, at_1, at_2, at_3, isTy, bind_nm, bind_tp, bpts_nil, bpts_cons, retOf, isNon, partO, cond_t, cond_f, if_true, if_false, Bool.false_eq_true, reduceIte, reduceCtorEq, wipeE, Nat.reduceAdd, Nat.reduceSub, Nat.reduceLT, Nat.reduceLeDiff, Nat.lt_add_one, Nat.zero_add, Int.reduceNeg, Bool.not_true, Bool.not_false, bf_len_t, bf_len_l, bf_abs, bf_min2, bf_max2, bf_int_b, bf_repr, bf_list_l, bf_list_t, bf_tuple_l, bf_tuple_t, bf_all, bf_any, bf_sum, bf_isi, bin_add, bin_sub, bin_mul, bin_fdv, bin_mod, bin_p18, bin_p12, bin_add_t, bin_add_l, bin_add_s, bin_mul_t, cmpP_eq, eqO_s, cmpP_ne, cmpP_lt, cmpP_le, cmpP_gt, cmpP_ge, cmpP_in, cmpP_nin, eqP_int, eqP_str, eq_nil_nil, eq_lay, eq_row, eq_rns, add_rns, perm10, idx_t, idx_l, idx_pl0, idx_pl1, idx_lp0, idx_lp1, idx_rw0, kob_0, kob_1, kput_0, kput_1, sli_t, sli_l, rev_t, rev_l, items_t, items_l, seq_t, seq_l, bools_nil, bools_cons, compL, consO, List.all_cons, List.all_nil, List.any_cons, List.any_nil, id_eq, Bool.and_true, Bool.true_and, Bool.and_self, finD_rt, finD_nx, ix3_0, ix3_1, ix3_2, ne_eq, not_false_eq_true, not_true_eq_false, Int.reduceEq, Int.reduceLT, Int.reduceLE, decide_true, decide_false, List.set_set, z3]
  refine sat_seq ?_
  refine sat_for (xs := intRange 0 6) (S1 := S2) (by simp only [sat_okI, evS, evT, evE, evL, evAll, Out.bind_ok, Out.bind_exc, Out.bind_err, bind_assoc_, Out.nox_ok, opt_some, opt_none, optD_some, optD_none, datb_, lookO, lookF_dat, look_dat, dats_nil, dats_cons, Option.map_some, Option.map_none, asT, asTs, it_ok, it_bind, dfl, List.map_nil, List.map_cons, List.append_nil, List.nil_append, List.cons_append, List.replicate_zero, List.replicate_succ, Nat.sub_self, List.getElem?_cons_zero, List.getElem?_cons_succ, List.set_cons_zero, List.set_cons_succ, List.length_cons, List.length_nil, at_0, at_1, at_2, at_3, isTy, bind_nm, bind_tp, bpts_nil, bpts_cons, retOf, isNon, partO, cond_t, cond_f, if_true, if_false, Bool.false_eq_true, reduceIte, reduceCtorEq, wipeE, Nat.reduceAdd, Nat.reduceSub, Nat.reduceLT, Nat.reduceLeDiff, Nat.lt_add_one, Nat.zero_add, Int.reduceNeg, Bool.not_true, Bool.not_false, bf_len_t, bf_len_l, bf_abs, bf_min2, bf_max2, bf_int_b, bf_repr, bf_list_l, bf_list_t, bf_tuple_l, bf_tuple_t, bf_all, bf_any, bf_sum, bf_isi, bin_add, bin_sub, bin_mul, bin_fdv, bin_mod, bin_p18, bin_p12, bin_add_t, bin_add_l, bin_add_s, bin_mul_t, cmpP_eq, eqO_s, cmpP_ne, cmpP_lt, cmpP_le, cmpP_gt, cmpP_ge, cmpP_in, cmpP_nin, eqP_int, eqP_str, eq_nil_nil, eq_lay, eq_row, eq_rns, add_rns, perm10, idx_t, idx_l, idx_pl0, idx_pl1, idx_lp0, idx_lp1, idx_rw0, kob_0, kob_1, kput_0, kput_1, sli_t, sli_l, rev_t, rev_l, items_t, items_l, seq_t, seq_l, bools_nil, bools_cons, compL, consO, List.all_cons, List.all_nil, List.any_cons, List.any_nil, id_eq, Bool.and_true, Bool.true_and, Bool.and_self, finD_rt, finD_nx, ix3_0, ix3_1, ix3_2, ne_eq, not_false_eq_true, not_true_eq_false, Int.reduceEq, Int.reduceLT, Int.reduceLE, decide_true, decide_false, List.set_set, small_of (show -1000000000000 ≤ (6 : Int) by omega) (show (6 : Int) ≤ 1000000000000 by omega)]) ?_
  refine for_inv (fun j s S' => (∃ xs v6 v7, s = [some (Val.ref 0), v1, some (Val.ref l), some (Val.dat (.int (i : Int))), some (Val.dat (lay L)), some (Val.dat (.list xs)), v6, v7, v8] ∧ (∀ x, x ∈ xs → Gd 45 20 10000 x) ∧ xs.length = 3 + 3 * j) ∧ Pen (n + 2000 + 1 + 120 * j) l S' ∧ Fr l S S') _
    ⟨⟨[lay L, pl (atL L 0), o], _, _, rfl, fun x hx => ?_, rfl⟩, P2, F1.trans F2⟩ ?_ ?_
  · simp only [List.mem_cons, List.not_mem_nil, or_false] at hx
    rcases hx with rfl | rfl | rfl
    · exact gL.mono (by omega) (by omega) (by omega)
    · exact gP.mono (by omega) (by omega) (by omega)
    · exact go.mono (by omega) (by omega) (by omega)
  · rintro j x s S3 e ⟨⟨xs, v6, v7, rfl, gx, xl⟩, P3, F3⟩
    obtain ⟨rfl, hj⟩ := rg_at e
    have hj6 : j < 6 := by omega
    simp only [stepF, sat_okI, evS, evT, evE, evL, evAll, Out.bind_ok, Out.bind_exc, Out.bind_err, bind_assoc_, Out.nox_ok, opt_some, opt_none, optD_some, optD_none, datb_, lookO, lookF_dat, look_dat, dats_nil, dats_cons, Option.map_some, Option.map_none, asT, asTs, it_ok, it_bind, dfl, List.map_nil, List.map_cons, List.append_nil, List.nil_append, List.cons_append, List.replicate_zero, List.replicate_succ, Nat.sub_self, List.getElem?_cons_zero, List.getElem?_cons_succ, List.set_cons_zero, List.set_cons_succ, List.length_cons, List.length_nil, at_0, at_1, at_2, at_3, isTy, bind_nm, bind_tp, bpts_nil, bpts_cons, retOf, isNon, partO, cond_t, cond_f, if_true, if_false, Bool.false_eq_true, reduceIte, reduceCtorEq, wipeE, Nat.reduceAdd, Nat.reduceSub, Nat.reduceLT, Nat.reduceLeDiff, Nat.lt_add_one, Nat.zero_add, Int.reduceNeg, Bool.not_true, Bool.not_false, bf_len_t, bf_len_l, bf_abs, bf_min2, bf_max2, bf_int_b, bf_repr, bf_list_l, bf_list_t, bf_tuple_l, bf_tuple_t, bf_all, bf_any, bf_sum, bf_isi, bin_add, bin_sub, bin_mul, bin_fdv, bin_mod, bin_p18, bin_p12, bin_add_t, bin_add_l, bin_add_s, bin_mul_t, cmpP_eq, eqO_s, cmpP_ne, cmpP_lt, cmpP_le, cmpP_gt, cmpP_ge, cmpP_in, cmpP_nin, eqP_int, eqP_str, eq_nil_nil, eq_lay, eq_row, eq_rns, add_rns, perm10, idx_t, idx_l, idx_pl0, idx_pl1, idx_lp0, idx_lp1, idx_rw0, kob_0, kob_1, kput_0, kput_1, sli_t, sli_l, rev_t, rev_l, items_t, items_l, seq_t, seq_l, bools_nil, bools_cons, compL, consO, List.all_cons, List.all_nil, List.any_cons, List.any_nil, id_eq, Bool.and_true, Bool.true_and, Bool.and_self, finD_rt, finD_nx, ix3_0, ix3_1, ix3_2, ne_eq, not_false_eq_true, not_true_eq_false, Int.reduceEq, Int.reduceLT, Int.reduceLE, decide_true, decide_false, List.set_set]
    refine sat_seq ?_
    simp only [sat_okI, evS, evT, evE, evL, evAll, Out.bind_ok, Out.bind_exc, Out.bind_err, bind_assoc_, Out.nox_ok, opt_some, opt_none, optD_some, optD_none, datb_, lookO, lookF_dat, look_dat, dats_nil, dats_cons, Option.map_some, Option.map_none, asT, asTs, it_ok, it_bind, dfl, List.map_nil, List.map_cons, List.append_nil, List.nil_append, List.cons_append, List.replicate_zero, List.replicate_succ, Nat.sub_self, List.getElem?_cons_zero, List.getElem?_cons_succ, List.set_cons_zero, List.set_cons_succ, List.length_cons, List.length_nil, at_0, at_1, at_2, at_3, isTy, bind_nm, bind_tp, bpts_nil, bpts_cons, retOf, isNon, partO, cond_t, cond_f, if_true, if_false, Bool.false_eq_true, reduceIte, reduceCtorEq, wipeE, Nat.reduceAdd, Nat.reduceSub, Nat.reduceLT, Nat.reduceLeDiff, Nat.lt_add_one, Nat.zero_add, Int.reduceNeg, Bool.not_true, Bool.not_false, bf_len_t, bf_len_l, bf_abs, bf_min2, bf_max2, bf_int_b, bf_repr, bf_list_l, bf_list_t, bf_tuple_l, bf_tuple_t, bf_all, bf_any, bf_sum, bf_isi, bin_add, bin_sub, bin_mul, bin_fdv, bin_mod, bin_p18, bin_p12, bin_add_t, bin_add_l, bin_add_s, bin_mul_t, cmpP_eq, eqO_s, cmpP_ne, cmpP_lt, cmpP_le, cmpP_gt, cmpP_ge, cmpP_in, cmpP_nin, eqP_int, eqP_str, eq_nil_nil, eq_lay, eq_row, eq_rns, add_rns, perm10, idx_t, idx_l, idx_pl0, idx_pl1, idx_lp0, idx_lp1, idx_rw0, kob_0, kob_1, kput_0, kput_1, sli_t, sli_l, rev_t, rev_l, items_t, items_l, seq_t, seq_l, bools_nil, bools_cons, compL, consO, List.all_cons, List.all_nil, List.any_cons, List.any_nil, id_eq, Bool.and_true, Bool.true_and, Bool.and_self, finD_rt, finD_nx, ix3_0, ix3_1, ix3_2, ne_eq, not_false_eq_true, not_true_eq_false, Int.reduceEq, Int.reduceLT, Int.reduceLE, decide_true, decide_false, List.set_set]
    refine sat_then (s_bent (b := 41) (by omega) (by omega) (deep := 3) (k := 4) (p := lay L) P3 (by omega) (by omega) gL (by omega) (by omega)) ?_
    rintro v S4 ⟨⟨y, rfl, gy⟩, P4, F4⟩
    simp only [sat_okI, evS, evT, evE, evL, evAll, Out.bind_ok, Out.bind_exc, Out.bind_err, bind_assoc_, Out.nox_ok, opt_some, opt_none, optD_some, optD_none, datb_, lookO, lookF_dat, look_dat, dats_nil, dats_cons, Option.map_some, Option.map_none, asT, asTs, it_ok, it_bind, dfl, List.map_nil, List.map_cons, List.append_nil, List.nil_append, List.cons_append, List.replicate_zero, List.replicate_succ, Nat.sub_self, List.getElem?_cons_zero, List.getElem?_cons_succ, List.set_cons_zero, List.set_cons_succ, List.length_cons, List.length_nil, at_0, at_1, at_2, at_3, isTy, bind_nm, bind_tp, bpts_nil, bpts_cons, retOf, isNon, partO, cond_t, cond_f, if_true, if_false, Bool.false_eq_true, reduceIte, reduceCtorEq, wipeE, Nat.reduceAdd, Nat.reduceSub, Nat.reduceLT, Nat.reduceLeDiff, Nat.lt_add_one, Nat.zero_add, Int.reduceNeg, Bool.not_true, Bool.not_false, bf_len_t, bf_len_l, bf_abs, bf_min2, bf_max2, bf_int_b, bf_repr, bf_list_l, bf_list_t, bf_tuple_l, bf_tuple_t, bf_all, bf_any, bf_sum, bf_isi, bin_add, bin_sub, bin_mul, bin_fdv, bin_mod, bin_p18, bin_p12, bin_add_t, bin_add_l, bin_add_s, bin_mul_t, cmpP_eq, eqO_s, cmpP_ne, cmpP_lt, cmpP_le, cmpP_gt, cmpP_ge, cmpP_in, cmpP_nin, eqP_int, eqP_str, eq_nil_nil, eq_lay, eq_row, eq_rns, add_rns, perm10, idx_t, idx_l, idx_pl0, idx_pl1, idx_lp0, idx_lp1, idx_rw0, kob_0, kob_1, kput_0, kput_1, sli_t, sli_l, rev_t, rev_l, items_t, items_l, seq_t, seq_l, bools_nil, bools_cons, compL, consO, List.all_cons, List.all_nil, List.any_cons, List.any_nil, id_eq, Bool.and_true, Bool.true_and, Bool.and_self, finD_rt, finD_nx, ix3_0, ix3_1, ix3_2, ne_eq, not_false_eq_true, not_true_eq_false, Int.reduceEq, Int.reduceLT, Int.reduceLE, decide_true, decide_false, List.set_set]
    refine sat_seq ?_
    simp only [sat_okI, evS, evT, evE, evL, evAll, Out.bind_ok, Out.bind_exc, Out.bind_err, bind_assoc_, Out.nox_ok, opt_some, opt_none, optD_some, optD_none, datb_, lookO, lookF_dat, look_dat, dats_nil, dats_cons, Option.map_some, Option.map_none, asT, asTs, it_ok, it_bind, dfl, List.map_nil, List.map_cons, List.append_nil, List.nil_append, List.cons_append, List.replicate_zero, List.replicate_succ, Nat.sub_self, List.getElem?_cons_zero, List.getElem?_cons_succ, List.set_cons_zero, List.set_cons_succ, List.length_cons, List.length_nil, at_0, at_1, at_2, at_3, isTy, bind_nm, bind_tp, bpts_nil, bpts_cons, retOf, isNon, partO, cond_t, cond_f, if_true, if_false, Bool.false_eq_true, reduceIte, reduceCtorEq, wipeE, Nat.reduceAdd, Nat.reduceSub, Nat.reduceLT, Nat.reduceLeDiff, Nat.lt_add_one, Nat.zero_add, Int.reduceNeg, Bool.not_true, Bool.not_false, bf_len_t, bf_len_l, bf_abs, bf_min2, bf_max2, bf_int_b, bf_repr, bf_list_l, bf_list_t, bf_tuple_l, bf_tuple_t, bf_all, bf_any, bf_sum, bf_isi, bin_add, bin_sub, bin_mul, bin_fdv, bin_mod, bin_p18, bin_p12, bin_add_t, bin_add_l, bin_add_s, bin_mul_t, cmpP_eq, eqO_s, cmpP_ne, cmpP_lt, cmpP_le, cmpP_gt, cmpP_ge, cmpP_in, cmpP_nin, eqP_int, eqP_str, eq_nil_nil, eq_lay, eq_row, eq_rns, add_rns, perm10, idx_t, idx_l, idx_pl0, idx_pl1, idx_lp0, idx_lp1, idx_rw0, kob_0, kob_1, kput_0, kput_1, sli_t, sli_l, rev_t, rev_l, items_t, items_l, seq_t, seq_l, bools_nil, bools_cons, compL, consO, List.all_cons, List.all_nil, List.any_cons, List.any_nil, id_eq, Bool.and_true, Bool.true_and, Bool.and_self, finD_rt, finD_nx, ix3_0, ix3_1, ix3_2, ne_eq, not_false_eq_true, not_true_eq_false, Int.reduceEq, Int.reduceLT, Int.reduceLE, decide_true, decide_false, List.set_set]
    refine sat_then (s_bent (b := 42) (by omega) (by omega) (deep := 3) (k := 4) (p := y) P4 (by omega) (by omega) gy (by omega) (by omega)) ?_
    rintro v S5 ⟨⟨z, rfl, gz⟩, P5, F5⟩
    try simp only [sat_okI, evS, evT, evE, evL, evAll, Out.bind_ok, Out.bind_exc, Out.bind_err, bind_assoc_, Out.nox_ok, opt_some, opt_none, optD_some, optD_none, datb_, lookO, lookF_dat, look_dat, dats_nil, dats_cons, Option.map_some, Option.map_none, asT, asTs, it_ok, it_bind, dfl, List.map_nil, List.map_cons, List.append_nil, List.nil_append, List.cons_append, List.replicate_zero, List.replicate_succ, Nat.sub_self, List.getElem?_cons_zero, List.getElem?_cons_succ, List.set_cons_zero, List.set_cons_succ, List.length_cons, List.length_nil, at_0, at_1, at_2, at_3, isTy, bind_nm, bind_tp, bpts_nil, bpts_cons, retOf, isNon, partO, cond_t, cond_f, if_true, if_false, Bool.false_eq_true, reduceIte, reduceCtorEq, wipeE, Nat.reduceAdd, Nat.reduceSub, Nat.reduceLT, Nat.reduceLeDiff, Nat.lt_add_one, Nat.zero_add, Int.reduceNeg, Bool.not_true, Bool.not_false, bf_len_t, bf_len_l, bf_abs, bf_min2, bf_max2, bf_int_b, bf_repr, bf_list_l, bf_list_t, bf_tuple_l, bf_tuple_t, bf_all, bf_any, bf_sum, bf_isi, bin_add, bin_sub, bin_mul, bin_fdv, bin_mod, bin_p18, bin_p12, bin_add_t, bin_add_l, bin_add_s, bin_mul_t, cmpP_eq, eqO_s, cmpP_ne, cmpP_lt, cmpP_le, cmpP_gt, cmpP_ge, cmpP_in, cmpP_nin, eqP_int, eqP_str, eq_nil_nil, eq_lay, eq_row, eq_rns, add_rns, perm10, idx_t, idx_l, idx_pl0, idx_pl1, idx_lp0, idx_lp1, idx_rw0, kob_0, kob_1, kput_0, kput_1, sli_t, sli_l, rev_t, rev_l, items_t, items_l, seq_t, seq_l, bools_nil, bools_cons, compL, consO, List.all_cons, List.all_nil, List.any_cons, List.any_nil, id_eq, Bool.and_true, Bool.true_and, Bool.and_self, finD_rt, finD_nx, ix3_0, ix3_1, ix3_2, ne_eq, not_false_eq_true, not_true_eq_false, Int.reduceEq, Int.reduceLT, Int.reduceLE, decide_true, decide_false, List.set_set, l0]
    refine sat_then (s_bent (b := 41) (by omega) (by omega) (deep := 2) (k := 5) (p := pl (atL L 0)) P5 (by omega) (by omega) gP (by omega) (by omega)) ?_
    rintro v S6 ⟨⟨w, rfl, gw⟩, P6, F6⟩
    have q1 : xs.length + 3 ≤ sizeLine := by rw [sizeLine_eq]; omega
    simp only [sat_okI, evS, evT, evE, evL, evAll, Out.bind_ok, Out.bind_exc, Out.bind_err, bind_assoc_, Out.nox_ok, opt_some, opt_none, optD_some, optD_none, datb_, lookO, lookF_dat, look_dat, dats_nil, dats_cons, Option.map_some, Option.map_none, asT, asTs, it_ok, it_bind, dfl, List.map_nil, List.map_cons, List.append_nil, List.nil_append, List.cons_append, List.replicate_zero, List.replicate_succ, Nat.sub_self, List.getElem?_cons_zero, List.getElem?_cons_succ, List.set_cons_zero, List.set_cons_succ, List.length_cons, List.length_nil, at_0, at_1, at_2, at_3, isTy, bind_nm, bind_tp, bpts_nil, bpts_cons, retOf, isNon, partO, cond_t, cond_f, if_true, if_false, Bool.false_eq_true, reduceIte, reduceCtorEq, wipeE, Nat.reduceAdd, Nat.reduceSub, Nat.reduceLT, Nat.reduceLeDiff, Nat.lt_add_one, Nat.zero_add, Int.reduceNeg, Bool.not_true, Bool.not_false, bf_len_t, bf_len_l, bf_abs, bf_min2, bf_max2, bf_int_b, bf_repr, bf_list_l, bf_list_t, bf_tuple_l, bf_tuple_t, bf_all, bf_any, bf_sum, bf_isi, bin_add, bin_sub, bin_mul, bin_fdv, bin_mod, bin_p18, bin_p12, bin_add_t, bin_add_l, bin_add_s, bin_mul_t, cmpP_eq, eqO_s, cmpP_ne, cmpP_lt, cmpP_le, cmpP_gt, cmpP_ge, cmpP_in, cmpP_nin, eqP_int, eqP_str, eq_nil_nil, eq_lay, eq_row, eq_rns, add_rns, perm10, idx_t, idx_l, idx_pl0, idx_pl1, idx_lp0, idx_lp1, idx_rw0, kob_0, kob_1, kput_0, kput_1, sli_t, sli_l, rev_t, rev_l, items_t, items_l, seq_t, seq_l, bools_nil, bools_cons, compL, consO, List.all_cons, List.all_nil, List.any_cons, List.any_nil, id_eq, Bool.and_true, Bool.true_and, Bool.and_self, finD_rt, finD_nx, ix3_0, ix3_1, ix3_2, ne_eq, not_false_eq_true, not_true_eq_false, Int.reduceEq, Int.reduceLT, Int.reduceLE, decide_true, decide_false, List.set_set, z3, q1]
    refine sat_nil ⟨_, rfl, ⟨xs ++ [y, z, w], _, _, rfl, fun x hx => ?_, by rw [List.length_append, xl]; simp only [List.length_cons, List.length_nil]; omega⟩, P6.mono (by omega), F3.trans (F4.trans (F5.trans F6))⟩
    rcases List.mem_append.mp hx with hx | hx
    · exact gx x hx
    · simp only [List.mem_cons, List.not_mem_nil, or_false] at hx
      rcases hx with rfl | rfl | rfl
      · exact gy.mono (by omega) (by omega) (by omega)
      · exact gz.mono (by omega) (by omega) (by omega)
      · exact gw.mono (by omega) (by omega) (by omega)
  · rintro s S3 ⟨⟨xs, v6, v7, rfl, gx, xl⟩, P3, F3⟩
    rw [rg_len] at xl P3
    have q1 : xs.length < sizeLine := by rw [sizeLine_eq]; omega
    refine sat_seq ?_
    simp only [sat_okI, evS, evT, evE, evL, evAll, Out.bind_ok, Out.bind_exc, Out.bind_err, bind_assoc_, Out.nox_ok, opt_some, opt_none, optD_some, optD_none, datb_, lookO, lookF_dat, look_dat, dats_nil, dats_cons, Option.map_some, Option.map_none, asT, asTs, it_ok, it_bind, dfl, List.map_nil, List.map_cons, List.append_nil, List.nil_append, List.cons_append, List.replicate_zero, List.replicate_succ, Nat.sub_self, List.getElem?_cons_zero, List.getElem?_cons_succ, List.set_cons_zero, List.set_cons_succ, List.length_cons, List.length_nil, at_0, at_1, at_2, at_3, isTy, bind_nm, bind_tp, bpts_nil, bpts_cons, retOf, isNon, partO, cond_t, cond_f, if_true, if_false, Bool.false_eq_true, reduceIte, reduceCtorEq, wipeE, Nat.reduceAdd, Nat.reduceSub, Nat.reduceLT, Nat.reduceLeDiff, Nat.lt_add_one, Nat.zero_add, Int.reduceNeg, Bool.not_true, Bool.not_false, bf_len_t, bf_len_l, bf_abs, bf_min2, bf_max2, bf_int_b, bf_repr, bf_list_l, bf_list_t, bf_tuple_l, bf_tuple_t, bf_all, bf_any, bf_sum, bf_isi, bin_add, bin_sub, bin_mul, bin_fdv, bin_mod, bin_p18, bin_p12, bin_add_t, bin_add_l, bin_add_s, bin_mul_t, cmpP_eq, eqO_s, cmpP_ne, cmpP_lt, cmpP_le, cmpP_gt, cmpP_ge, cmpP_in, cmpP_nin, eqP_int, eqP_str, eq_nil_nil, eq_lay, eq_row, eq_rns, add_rns, perm10, idx_t, idx_l, idx_pl0, idx_pl1, idx_lp0, idx_lp1, idx_rw0, kob_0, kob_1, kput_0, kput_1, sli_t, sli_l, rev_t, rev_l, items_t, items_l, seq_t, seq_l, bools_nil, bools_cons, compL, consO, List.all_cons, List.all_nil, List.any_cons, List.any_nil, id_eq, Bool.and_true, Bool.true_and, Bool.and_self, finD_rt, finD_nx, ix3_0, ix3_1, ix3_2, ne_eq, not_false_eq_true, not_true_eq_false, Int.reduceEq, Int.reduceLT, Int.reduceLE, decide_true, decide_false, List.set_set, q1]
    rw [comp_mapL (g := fun _ => .bool true)]
    · have ea : (xs.map fun _ => true).all id = true := by simp
      simp only [sat_okI, evS, evT, evE, evL, evAll, Out.bind_ok, Out.bind_exc, Out.bind_err, bind_assoc_, Out.nox_ok, opt_some, opt_none, optD_some, optD_none, datb_, lookO, lookF_dat, look_dat, dats_nil, dats_cons, Option.map_some, Option.map_none, asT, asTs, it_ok, it_bind, dfl, List.map_nil, List.map_cons, List.append_nil, List.nil_append, List.cons_append, List.replicate_zero, List.replicate_succ, Nat.sub_self, List.getElem?_cons_zero, List.getElem?_cons_succ, List.set_cons_zero, List.set_cons_succ, List.length_cons, List.length_nil, at_0, at_1, at_2, at_3, isTy, bind_nm, bind_tp, bpts_nil, bpts_cons, retOf, isNon, partO, cond_t, cond_f, if_true, if_false, Bool.false_eq_true, reduceIte, reduceCtorEq, wipeE, Nat.reduceAdd, Nat.reduceSub, Nat.reduceLT, Nat.reduceLeDiff, Nat.lt_add_one, Nat.zero_add, Int.reduceNeg, Bool.not_true, Bool.not_false, bf_len_t, bf_len_l, bf_abs, bf_min2, bf_max2, bf_int_b, bf_repr, bf_list_l, bf_list_t, bf_tuple_l, bf_tuple_t, bf_all, bf_any, bf_sum, bf_isi, bin_add, bin_sub, bin_mul, bin_fdv, bin_mod, bin_p18, bin_p12, bin_add_t, bin_add_l, bin_add_s, bin_mul_t, cmpP_eq, eqO_s, cmpP_ne, cmpP_lt, cmpP_le, cmpP_gt, cmpP_ge, cmpP_in, cmpP_nin, eqP_int, eqP_str, eq_nil_nil, eq_lay, eq_row, eq_rns, add_rns, perm10, idx_t, idx_l, idx_pl0, idx_pl1, idx_lp0, idx_lp1, idx_rw0, kob_0, kob_1, kput_0, kput_1, sli_t, sli_l, rev_t, rev_l, items_t, items_l, seq_t, seq_l, bools_nil, bools_cons, compL, consO, List.all_cons, List.all_nil, List.any_cons, List.any_nil, id_eq, Bool.and_true, Bool.true_and, Bool.and_self, finD_rt, finD_nx, ix3_0, ix3_1, ix3_2, ne_eq, not_false_eq_true, not_true_eq_false, Int.reduceEq, Int.reduceLT, Int.reduceLE, decide_true, decide_false, List.set_set, boolsOf_map, ea]
      exact sat_nil (sat_nil ⟨_, rfl, rfl, P3.mono (by omega), F3⟩)
    · intro x hx
      have r := fun S => s_right (k := 7) (W := none) (S := S) ((gx x hx).ok (by omega) (by omega) (by omega))
      simp only [sat_okI, evS, evT, evE, evL, evAll, Out.bind_ok, Out.bind_exc, Out.bind_err, bind_assoc_, Out.nox_ok, opt_some, opt_none, optD_some, optD_none, datb_, lookO, lookF_dat, look_dat, dats_nil, dats_cons, Option.map_some, Option.map_none, asT, asTs, it_ok, it_bind, dfl, List.map_nil, List.map_cons, List.append_nil, List.nil_append, List.cons_append, List.replicate_zero, List.replicate_succ, Nat.sub_self, List.getElem?_cons_zero, List.getElem?_cons_succ, List.set_cons_zero, List.set_cons_succ, List.length_cons, List.length_nil, at_0, at_1, at_2, at_3, isTy, bind_nm, bind_tp, bpts_nil, bpts_cons, retOf, isNon, partO, cond_t, cond_f, if_true, if_false, Bool.false_eq_true, reduceIte, reduceCtorEq, wipeE, Nat.reduceAdd, Nat.reduceSub, Nat.reduceLT, Nat.reduceLeDiff, Nat.lt_add_one, Nat.zero_add, Int.reduceNeg, Bool.not_true, Bool.not_false, bf_len_t, bf_len_l, bf_abs, bf_min2, bf_max2, bf_int_b, bf_repr, bf_list_l, bf_list_t, bf_tuple_l, bf_tuple_t, bf_all, bf_any, bf_sum, bf_isi, bin_add, bin_sub, bin_mul, bin_fdv, bin_mod, bin_p18, bin_p12, bin_add_t, bin_add_l, bin_add_s, bin_mul_t, cmpP_eq, eqO_s, cmpP_ne, cmpP_lt, cmpP_le, cmpP_gt, cmpP_ge, cmpP_in, cmpP_nin, eqP_int, eqP_str, eq_nil_nil, eq_lay, eq_row, eq_rns, add_rns, perm10, idx_t, idx_l, idx_pl0, idx_pl1, idx_lp0, idx_lp1, idx_rw0, kob_0, kob_1, kput_0, kput_1, sli_t, sli_l, rev_t, rev_l, items_t, items_l, seq_t, seq_l, bools_nil, bools_cons, compL, consO, List.all_cons, List.all_nil, List.any_cons, List.any_nil, id_eq, Bool.and_true, Bool.true_and, Bool.and_self, finD_rt, finD_nx, ix3_0, ix3_1, ix3_2, ne_eq, not_false_eq_true, not_true_eq_false, Int.reduceEq, Int.reduceLT, Int.reduceLE, decide_true, decide_false, List.set_set, r]
theorem law_ok (ns : List Int) : ∃ S', callN PP none 12 18 [.ref 0] [.frz (ns.map .int)] = .ok (.dat (.bool true)) S' := by
  have key : (callN PP none 12 18 [.ref 0] [.frz (ns.map .int)]).sat fun v S' => v = Val.dat (.bool true) := by
    refine call_sat P_18 rfl ?_
    have hl : HS.length < sizeLine := by have := of_decide_eq_true hs_len; rw [sizeLine_eq]; omega
    simp only [d_18, b_18]
    refine sat_seq ?_
    simp only [sat_okI, evS, evT, evE, evL, evAll, Out.bind_ok, Out.bind_exc, Out.bind_err, bind_assoc_, Out.nox_ok, opt_some, opt_none, optD_some, optD_none, datb_, lookO, lookF_dat, look_dat, dats_nil, dats_cons, Option.map_some, Option.map_none, asT, asTs, it_ok, it_bind, dfl, List.map_nil, List.map_cons, List.append_nil, List.nil_append, List.cons_append, List.replicate_zero, List.replicate_succ, Nat.sub_self, List.getElem?_cons_zero, List.getElem?_cons_succ, List.set_cons_zero, List.set_cons_succ, List.length_cons, List.length_nil, at_0, at_1, at_2, at_3, isTy, bind_nm, bind_tp, bpts_nil, bpts_cons, retOf, isNon, partO, cond_t, cond_f, if_true, if_false, Bool.false_eq_true, reduceIte, reduceCtorEq, wipeE, Nat.reduceAdd, Nat.reduceSub, Nat.reduceLT, Nat.reduceLeDiff, Nat.lt_add_one, Nat.zero_add, Int.reduceNeg, Bool.not_true, Bool.not_false, bf_len_t, bf_len_l, bf_abs, bf_min2, bf_max2, bf_int_b, bf_repr, bf_list_l, bf_list_t, bf_tuple_l, bf_tuple_t, bf_all, bf_any, bf_sum, bf_isi, bin_add, bin_sub, bin_mul, bin_fdv, bin_mod, bin_p18, bin_p12, bin_add_t, bin_add_l, bin_add_s, bin_mul_t, cmpP_eq, eqO_s, cmpP_ne, cmpP_lt, cmpP_le, cmpP_gt, cmpP_ge, cmpP_in, cmpP_nin, eqP_int, eqP_str, eq_nil_nil, eq_lay, eq_row, eq_rns, add_rns, perm10, idx_t, idx_l, idx_pl0, idx_pl1, idx_lp0, idx_lp1, idx_rw0, kob_0, kob_1, kput_0, kput_1, sli_t, sli_l, rev_t, rev_l, items_t, items_l, seq_t, seq_l, bools_nil, bools_cons, compL, consO, List.all_cons, List.all_nil, List.any_cons, List.any_nil, id_eq, Bool.and_true, Bool.true_and, Bool.and_self, finD_rt, finD_nx, ix3_0, ix3_1, ix3_2, ne_eq, not_false_eq_true, not_true_eq_false, Int.reduceEq, Int.reduceLT, Int.reduceLE, decide_true, decide_false, List.set_set, hs_ok, hl]
    rw [comp_mapL (g := fun _ => .bool true)]
    · have ea : (HS.map fun _ => true).all id = true := by simp
      simp only [sat_okI, evS, evT, evE, evL, evAll, Out.bind_ok, Out.bind_exc, Out.bind_err, bind_assoc_, Out.nox_ok, opt_some, opt_none, optD_some, optD_none, datb_, lookO, lookF_dat, look_dat, dats_nil, dats_cons, Option.map_some, Option.map_none, asT, asTs, it_ok, it_bind, dfl, List.map_nil, List.map_cons, List.append_nil, List.nil_append, List.cons_append, List.replicate_zero, List.replicate_succ, Nat.sub_self, List.getElem?_cons_zero, List.getElem?_cons_succ, List.set_cons_zero, List.set_cons_succ, List.length_cons, List.length_nil, at_0, at_1, at_2, at_3, isTy, bind_nm, bind_tp, bpts_nil, bpts_cons, retOf, isNon, partO, cond_t, cond_f, if_true, if_false, Bool.false_eq_true, reduceIte, reduceCtorEq, wipeE, Nat.reduceAdd, Nat.reduceSub, Nat.reduceLT, Nat.reduceLeDiff, Nat.lt_add_one, Nat.zero_add, Int.reduceNeg, Bool.not_true, Bool.not_false, bf_len_t, bf_len_l, bf_abs, bf_min2, bf_max2, bf_int_b, bf_repr, bf_list_l, bf_list_t, bf_tuple_l, bf_tuple_t, bf_all, bf_any, bf_sum, bf_isi, bin_add, bin_sub, bin_mul, bin_fdv, bin_mod, bin_p18, bin_p12, bin_add_t, bin_add_l, bin_add_s, bin_mul_t, cmpP_eq, eqO_s, cmpP_ne, cmpP_lt, cmpP_le, cmpP_gt, cmpP_ge, cmpP_in, cmpP_nin, eqP_int, eqP_str, eq_nil_nil, eq_lay, eq_row, eq_rns, add_rns, perm10, idx_t, idx_l, idx_pl0, idx_pl1, idx_lp0, idx_lp1, idx_rw0, kob_0, kob_1, kput_0, kput_1, sli_t, sli_l, rev_t, rev_l, items_t, items_l, seq_t, seq_l, bools_nil, bools_cons, compL, consO, List.all_cons, List.all_nil, List.any_cons, List.any_nil, id_eq, Bool.and_true, Bool.true_and, Bool.and_self, finD_rt, finD_nx, ix3_0, ix3_1, ix3_2, ne_eq, not_false_eq_true, not_true_eq_false, Int.reduceEq, Int.reduceLT, Int.reduceLE, decide_true, decide_false, List.set_set, boolsOf_map, ea]
      refine sat_nil ?_
      refine sat_mono (laps_ok (cellF := 4) (penF := 5) (N := 4) (M := 4) (body := lap_body) (c := 5) (C := 5000) (ns := ns) (by omega) (by omega) (by omega) (by omega) (by omega) (fun i S h => s_cell_at (k := 10) h) (fun x S => s_pen (k := 10)) ?_) fun r S' h => ⟨h, h⟩
      intro n l i S v1 rest hr P hn hl hi h0
      match rest, hr with
      | [v4, v5, v6, v7, v8], _ => exact lap_ok P (by omega) (by omega)
    · intro x hx
      have r := fun S => s_right (k := 7) (W := none) (S := S) (List.all_eq_true.mp hs_rep x hx)
      simp only [sat_okI, evS, evT, evE, evL, evAll, Out.bind_ok, Out.bind_exc, Out.bind_err, bind_assoc_, Out.nox_ok, opt_some, opt_none, optD_some, optD_none, datb_, lookO, lookF_dat, look_dat, dats_nil, dats_cons, Option.map_some, Option.map_none, asT, asTs, it_ok, it_bind, dfl, List.map_nil, List.map_cons, List.append_nil, List.nil_append, List.cons_append, List.replicate_zero, List.replicate_succ, Nat.sub_self, List.getElem?_cons_zero, List.getElem?_cons_succ, List.set_cons_zero, List.set_cons_succ, List.length_cons, List.length_nil, at_0, at_1, at_2, at_3, isTy, bind_nm, bind_tp, bpts_nil, bpts_cons, retOf, isNon, partO, cond_t, cond_f, if_true, if_false, Bool.false_eq_true, reduceIte, reduceCtorEq, wipeE, Nat.reduceAdd, Nat.reduceSub, Nat.reduceLT, Nat.reduceLeDiff, Nat.lt_add_one, Nat.zero_add, Int.reduceNeg, Bool.not_true, Bool.not_false, bf_len_t, bf_len_l, bf_abs, bf_min2, bf_max2, bf_int_b, bf_repr, bf_list_l, bf_list_t, bf_tuple_l, bf_tuple_t, bf_all, bf_any, bf_sum, bf_isi, bin_add, bin_sub, bin_mul, bin_fdv, bin_mod, bin_p18, bin_p12, bin_add_t, bin_add_l, bin_add_s, bin_mul_t, cmpP_eq, eqO_s, cmpP_ne, cmpP_lt, cmpP_le, cmpP_gt, cmpP_ge, cmpP_in, cmpP_nin, eqP_int, eqP_str, eq_nil_nil, eq_lay, eq_row, eq_rns, add_rns, perm10, idx_t, idx_l, idx_pl0, idx_pl1, idx_lp0, idx_lp1, idx_rw0, kob_0, kob_1, kput_0, kput_1, sli_t, sli_l, rev_t, rev_l, items_t, items_l, seq_t, seq_l, bools_nil, bools_cons, compL, consO, List.all_cons, List.all_nil, List.any_cons, List.any_nil, id_eq, Bool.and_true, Bool.true_and, Bool.and_self, finD_rt, finD_nx, ix3_0, ix3_1, ix3_2, ne_eq, not_false_eq_true, not_true_eq_false, Int.reduceEq, Int.reduceLT, Int.reduceLE, decide_true, decide_false, List.set_set, r]
  obtain ⟨v, S', e, rfl⟩ := sat_ex key
  exact ⟨S', e⟩

theorem f_0 {K : PySem.W.Frag} {h : Heap} {mg : Str → Option Value} (X : K.In h) (G : h.Ns mainGlobals mg) {f : Addr} {oc kV dc pm cd ct : Value} {od an : Option Addr} {sl : Array (Option Value)} (a : PySem.W.nsIn K mainGlobals "is_whole" = some (some (.ref f))) (l : K.lookup f = some ⟨oc, od, .func (PySem.W.fnOf "is_whole" "is_whole" (defArgs st_0) (defBody st_0) (defScope st_0) .none kV dc pm an cd ct), sl⟩) (c : PySem.W.codeIn K cd "is_whole" = true) (k : PySem.W.keepIn K (.ref f) = true) : FnHave TT PP K mg 0 t_0 :=
  fn_have (st := st_0) X G a l c k rfl rfl c_0 (bd_none 1 rfl rfl (fun us hl => match us, hl with | [_], _ => by kernel_rfl) (kb_no rfl))
theorem f_1 {K : PySem.W.Frag} {h : Heap} {mg : Str → Option Value} (X : K.In h) (G : h.Ns mainGlobals mg) {f : Addr} {oc kV dc pm cd ct : Value} {od an : Option Addr} {sl : Array (Option Value)} (a : PySem.W.nsIn K mainGlobals "is_long" = some (some (.ref f))) (l : K.lookup f = some ⟨oc, od, .func (PySem.W.fnOf "is_long" "is_long" (defArgs st_1) (defBody st_1) (defScope st_1) .none kV dc pm an cd ct), sl⟩) (c : PySem.W.codeIn K cd "is_long" = true) (k : PySem.W.keepIn K (.ref f) = true) : FnHave TT PP K mg 1 t_1 :=
  fn_have (st := st_1) X G a l c k rfl rfl c_1 (bd_none 3 rfl rfl (fun us hl => match us, hl with | [_, _, _], _ => by kernel_rfl) (kb_no rfl))
theorem f_2 {K : PySem.W.Frag} {h : Heap} {mg : Str → Option Value} (X : K.In h) (G : h.Ns mainGlobals mg) {f : Addr} {oc kV dc pm cd ct : Value} {od an : Option Addr} {sl : Array (Option Value)} (a : PySem.W.nsIn K mainGlobals "is_place" = some (some (.ref f))) (l : K.lookup f = some ⟨oc, od, .func (PySem.W.fnOf "is_place" "is_place" (defArgs st_2) (defBody st_2) (defScope st_2) .none kV dc pm an cd ct), sl⟩) (c : PySem.W.codeIn K cd "is_place" = true) (k : PySem.W.keepIn K (.ref f) = true) : FnHave TT PP K mg 2 t_2 :=
  fn_have (st := st_2) X G a l c k rfl rfl c_2 (bd_none 1 rfl rfl (fun us hl => match us, hl with | [_], _ => by kernel_rfl) (kb_no rfl))
theorem f_3 {K : PySem.W.Frag} {h : Heap} {mg : Str → Option Value} (X : K.In h) (G : h.Ns mainGlobals mg) {f : Addr} {oc kV dc pm cd ct : Value} {od an : Option Addr} {sl : Array (Option Value)} (a : PySem.W.nsIn K mainGlobals "is_lay" = some (some (.ref f))) (l : K.lookup f = some ⟨oc, od, .func (PySem.W.fnOf "is_lay" "is_lay" (defArgs st_3) (defBody st_3) (defScope st_3) .none kV dc pm an cd ct), sl⟩) (c : PySem.W.codeIn K cd "is_lay" = true) (k : PySem.W.keepIn K (.ref f) = true) : FnHave TT PP K mg 3 t_3 :=
  fn_have (st := st_3) X G a l c k rfl rfl c_3 (bd_none 1 rfl rfl (fun us hl => match us, hl with | [_], _ => by kernel_rfl) (kb_no rfl))
theorem f_4 {K : PySem.W.Frag} {h : Heap} {mg : Str → Option Value} (X : K.In h) (G : h.Ns mainGlobals mg) {f : Addr} {oc kV dc pm cd ct : Value} {od an : Option Addr} {sl : Array (Option Value)} (a : PySem.W.nsIn K mainGlobals "_law_cell_at" = some (some (.ref f))) (l : K.lookup f = some ⟨oc, od, .func (PySem.W.fnOf "_law_cell_at" "_law_cell_at" (defArgs st_4) (defBody st_4) (defScope st_4) .none kV dc pm an cd ct), sl⟩) (c : PySem.W.codeIn K cd "_law_cell_at" = true) (k : PySem.W.keepIn K (.ref f) = true) : FnHave TT PP K mg 4 t_4 :=
  fn_have (st := st_4) X G a l c k rfl rfl c_4 (bd_none 2 rfl rfl (fun us hl => match us, hl with | [_, _], _ => by kernel_rfl) (kb_no rfl))
theorem f_5 {K : PySem.W.Frag} {h : Heap} {mg : Str → Option Value} (X : K.In h) (G : h.Ns mainGlobals mg) {f : Addr} {oc kV dc pm cd ct : Value} {od an : Option Addr} {sl : Array (Option Value)} (a : PySem.W.nsIn K mainGlobals "_law_pen" = some (some (.ref f))) (l : K.lookup f = some ⟨oc, od, .func (PySem.W.fnOf "_law_pen" "_law_pen" (defArgs st_5) (defBody st_5) (defScope st_5) .none kV dc pm an cd ct), sl⟩) (c : PySem.W.codeIn K cd "_law_pen" = true) (k : PySem.W.keepIn K (.ref f) = true) : FnHave TT PP K mg 5 t_5 :=
  fn_have (st := st_5) X G a l c k rfl rfl c_5 (bd_none 1 rfl rfl (fun us hl => match us, hl with | [_], _ => by kernel_rfl) (kb_no rfl))
theorem f_6 {K : PySem.W.Frag} {h : Heap} {mg : Str → Option Value} (X : K.In h) (G : h.Ns mainGlobals mg) {f : Addr} {oc kV dc pm cd ct : Value} {od an : Option Addr} {sl : Array (Option Value)} (a : PySem.W.nsIn K mainGlobals "_law_draw" = some (some (.ref f))) (l : K.lookup f = some ⟨oc, od, .func (PySem.W.fnOf "_law_draw" "_law_draw" (defArgs st_6) (defBody st_6) (defScope st_6) .none kV dc pm an cd ct), sl⟩) (c : PySem.W.codeIn K cd "_law_draw" = true) (k : PySem.W.keepIn K (.ref f) = true) : FnHave TT PP K mg 6 t_6 :=
  fn_have (st := st_6) X G a l c k rfl rfl c_6 (bd_none 2 rfl rfl (fun us hl => match us, hl with | [_, _], _ => by kernel_rfl) (kb_no rfl))
theorem f_7 {K : PySem.W.Frag} {h : Heap} {mg : Str → Option Value} (X : K.In h) (G : h.Ns mainGlobals mg) {f : Addr} {oc kV dc pm cd ct : Value} {od an : Option Addr} {sl : Array (Option Value)} (a : PySem.W.nsIn K mainGlobals "_law_pick" = some (some (.ref f))) (l : K.lookup f = some ⟨oc, od, .func (PySem.W.fnOf "_law_pick" "_law_pick" (defArgs st_7) (defBody st_7) (defScope st_7) .none kV dc pm an cd ct), sl⟩) (c : PySem.W.codeIn K cd "_law_pick" = true) (k : PySem.W.keepIn K (.ref f) = true) : FnHave TT PP K mg 7 t_7 :=
  fn_have (st := st_7) X G a l c k rfl rfl c_7 (bd_none 2 rfl rfl (fun us hl => match us, hl with | [_, _], _ => by kernel_rfl) (kb_no rfl))
theorem f_8 {K : PySem.W.Frag} {h : Heap} {mg : Str → Option Value} (X : K.In h) (G : h.Ns mainGlobals mg) {f : Addr} {oc kV dc pm cd ct : Value} {od an : Option Addr} {sl : Array (Option Value)} (a : PySem.W.nsIn K mainGlobals "_law_same" = some (some (.ref f))) (l : K.lookup f = some ⟨oc, od, .func (PySem.W.fnOf "_law_same" "_law_same" (defArgs st_8) (defBody st_8) (defScope st_8) .none kV dc pm an cd ct), sl⟩) (c : PySem.W.codeIn K cd "_law_same" = true) (k : PySem.W.keepIn K (.ref f) = true) : FnHave TT PP K mg 8 t_8 :=
  fn_have (st := st_8) X G a l c k rfl rfl c_8 (bd_none 2 rfl rfl (fun us hl => match us, hl with | [_, _], _ => by kernel_rfl) (kb_no rfl))
theorem f_9 {K : PySem.W.Frag} {h : Heap} {mg : Str → Option Value} (X : K.In h) (G : h.Ns mainGlobals mg) {f : Addr} {oc kV dc pm cd ct : Value} {od an : Option Addr} {sl : Array (Option Value)} (a : PySem.W.nsIn K mainGlobals "_law_spot" = some (some (.ref f))) (l : K.lookup f = some ⟨oc, od, .func (PySem.W.fnOf "_law_spot" "_law_spot" (defArgs st_9) (defBody st_9) (defScope st_9) .none kV dc pm an cd ct), sl⟩) (c : PySem.W.codeIn K cd "_law_spot" = true) (k : PySem.W.keepIn K (.ref f) = true) : FnHave TT PP K mg 9 t_9 :=
  fn_have (st := st_9) X G a l c k rfl rfl c_9 (bd_none 2 rfl rfl (fun us hl => match us, hl with | [_, _], _ => by kernel_rfl) (kb_no rfl))
theorem f_10 {K : PySem.W.Frag} {h : Heap} {mg : Str → Option Value} (X : K.In h) (G : h.Ns mainGlobals mg) {f : Addr} {oc kV dc pm cd ct : Value} {od an : Option Addr} {sl : Array (Option Value)} (a : PySem.W.nsIn K mainGlobals "_law_lay" = some (some (.ref f))) (l : K.lookup f = some ⟨oc, od, .func (PySem.W.fnOf "_law_lay" "_law_lay" (defArgs st_10) (defBody st_10) (defScope st_10) .none kV dc pm an cd ct), sl⟩) (c : PySem.W.codeIn K cd "_law_lay" = true) (k : PySem.W.keepIn K (.ref f) = true) : FnHave TT PP K mg 10 t_10 :=
  fn_have (st := st_10) X G a l c k rfl rfl c_10 (bd_none 3 rfl rfl (fun us hl => match us, hl with | [_, _, _], _ => by kernel_rfl) (kb_no rfl))
theorem f_11 {K : PySem.W.Frag} {h : Heap} {mg : Str → Option Value} (X : K.In h) (G : h.Ns mainGlobals mg) {f : Addr} {oc kV dc pm cd ct : Value} {od an : Option Addr} {sl : Array (Option Value)} (a : PySem.W.nsIn K mainGlobals "_law_is_whole" = some (some (.ref f))) (l : K.lookup f = some ⟨oc, od, .func (PySem.W.fnOf "_law_is_whole" "_law_is_whole" (defArgs st_11) (defBody st_11) (defScope st_11) .none kV dc pm an cd ct), sl⟩) (c : PySem.W.codeIn K cd "_law_is_whole" = true) (k : PySem.W.keepIn K (.ref f) = true) : FnHave TT PP K mg 11 t_11 :=
  fn_have (st := st_11) X G a l c k rfl rfl c_11 (bd_none 1 rfl rfl (fun us hl => match us, hl with | [_], _ => by kernel_rfl) (kb_no rfl))
theorem f_12 {K : PySem.W.Frag} {h : Heap} {mg : Str → Option Value} (X : K.In h) (G : h.Ns mainGlobals mg) {f : Addr} {oc kV dc pm cd ct : Value} {od an : Option Addr} {sl : Array (Option Value)} (a : PySem.W.nsIn K mainGlobals "_law_is_spot" = some (some (.ref f))) (l : K.lookup f = some ⟨oc, od, .func (PySem.W.fnOf "_law_is_spot" "_law_is_spot" (defArgs st_12) (defBody st_12) (defScope st_12) .none kV dc pm an cd ct), sl⟩) (c : PySem.W.codeIn K cd "_law_is_spot" = true) (k : PySem.W.keepIn K (.ref f) = true) : FnHave TT PP K mg 12 t_12 :=
  fn_have (st := st_12) X G a l c k rfl rfl c_12 (bd_none 1 rfl rfl (fun us hl => match us, hl with | [_], _ => by kernel_rfl) (kb_no rfl))
theorem f_13 {K : PySem.W.Frag} {h : Heap} {mg : Str → Option Value} (X : K.In h) (G : h.Ns mainGlobals mg) {f : Addr} {oc kV dc pm cd ct : Value} {od an : Option Addr} {sl : Array (Option Value)} (a : PySem.W.nsIn K mainGlobals "_law_odd" = some (some (.ref f))) (l : K.lookup f = some ⟨oc, od, .func (PySem.W.fnOf "_law_odd" "_law_odd" (defArgs st_13) (defBody st_13) (defScope st_13) .none kV dc pm an cd ct), sl⟩) (c : PySem.W.codeIn K cd "_law_odd" = true) (k : PySem.W.keepIn K (.ref f) = true) : FnHave TT PP K mg 13 t_13 :=
  fn_have (st := st_13) X G a l c k rfl rfl c_13 (bd_none 1 rfl rfl (fun us hl => match us, hl with | [_], _ => by kernel_rfl) (kb_no rfl))
theorem f_14 {K : PySem.W.Frag} {h : Heap} {mg : Str → Option Value} (X : K.In h) (G : h.Ns mainGlobals mg) {f : Addr} {oc kV dc pm cd ct : Value} {od an : Option Addr} {sl : Array (Option Value)} (a : PySem.W.nsIn K mainGlobals "_law_is_lay" = some (some (.ref f))) (l : K.lookup f = some ⟨oc, od, .func (PySem.W.fnOf "_law_is_lay" "_law_is_lay" (defArgs st_14) (defBody st_14) (defScope st_14) .none kV dc pm an cd ct), sl⟩) (c : PySem.W.codeIn K cd "_law_is_lay" = true) (k : PySem.W.keepIn K (.ref f) = true) : FnHave TT PP K mg 14 t_14 :=
  fn_have (st := st_14) X G a l c k rfl rfl c_14 (bd_none 1 rfl rfl (fun us hl => match us, hl with | [_], _ => by kernel_rfl) (kb_no rfl))
theorem f_15 {K : PySem.W.Frag} {h : Heap} {mg : Str → Option Value} (X : K.In h) (G : h.Ns mainGlobals mg) {f : Addr} {oc kV dc pm cd ct : Value} {od an : Option Addr} {sl : Array (Option Value)} (a : PySem.W.nsIn K mainGlobals "_law_bent" = some (some (.ref f))) (l : K.lookup f = some ⟨oc, od, .func (PySem.W.fnOf "_law_bent" "_law_bent" (defArgs st_15) (defBody st_15) (defScope st_15) .none kV dc pm an cd ct), sl⟩) (c : PySem.W.codeIn K cd "_law_bent" = true) (k : PySem.W.keepIn K (.ref f) = true) : FnHave TT PP K mg 15 t_15 :=
  fn_have (st := st_15) X G a l c k rfl rfl c_15 (bd_none 3 rfl rfl (fun us hl => match us, hl with | [_, _, _], _ => by kernel_rfl) (kb_no rfl))
theorem f_16 {K : PySem.W.Frag} {h : Heap} {mg : Str → Option Value} (X : K.In h) (G : h.Ns mainGlobals mg) {f : Addr} {oc kV dc pm cd ct : Value} {od an : Option Addr} {sl : Array (Option Value)} (a : PySem.W.nsIn K mainGlobals "_law_by_hand" = some (some (.ref f))) (l : K.lookup f = some ⟨oc, od, .func (PySem.W.fnOf "_law_by_hand" "_law_by_hand" (defArgs st_16) (defBody st_16) (defScope st_16) .none kV dc pm an cd ct), sl⟩) (c : PySem.W.codeIn K cd "_law_by_hand" = true) (k : PySem.W.keepIn K (.ref f) = true) : FnHave TT PP K mg 16 t_16 :=
  fn_have (st := st_16) X G a l c k rfl rfl c_16 (bd_none 0 rfl rfl (fun us hl => match us, hl with | [], _ => by kernel_rfl) (kb_no rfl))
theorem f_17 {K : PySem.W.Frag} {h : Heap} {mg : Str → Option Value} (X : K.In h) (G : h.Ns mainGlobals mg) {f : Addr} {oc kV dc pm cd ct : Value} {od an : Option Addr} {sl : Array (Option Value)} (a : PySem.W.nsIn K mainGlobals "_law_right" = some (some (.ref f))) (l : K.lookup f = some ⟨oc, od, .func (PySem.W.fnOf "_law_right" "_law_right" (defArgs st_17) (defBody st_17) (defScope st_17) .none kV dc pm an cd ct), sl⟩) (c : PySem.W.codeIn K cd "_law_right" = true) (k : PySem.W.keepIn K (.ref f) = true) : FnHave TT PP K mg 17 t_17 :=
  fn_have (st := st_17) X G a l c k rfl rfl c_17 (bd_none 1 rfl rfl (fun us hl => match us, hl with | [_], _ => by kernel_rfl) (kb_no rfl))
theorem f_18 {K : PySem.W.Frag} {h : Heap} {mg : Str → Option Value} (X : K.In h) (G : h.Ns mainGlobals mg) {f : Addr} {oc kV dc pm cd ct : Value} {od an : Option Addr} {sl : Array (Option Value)} (a : PySem.W.nsIn K mainGlobals "law" = some (some (.ref f))) (l : K.lookup f = some ⟨oc, od, .func (PySem.W.fnOf "law" "law" (defArgs st_18) (defBody st_18) (defScope st_18) .none kV dc pm an cd ct), sl⟩) (c : PySem.W.codeIn K cd "law" = true) (k : PySem.W.keepIn K (.ref f) = true) : FnHave TT PP K mg 18 t_18 :=
  fn_have (st := st_18) X G a l c k rfl rfl c_18 (bd_none 1 rfl rfl (fun us hl => match us, hl with | [_], _ => by kernel_rfl) (kb_no rfl))
theorem tchk : tabChk TT = true := by decide +kernel
theorem tab {K : PySem.W.Frag} {h : Heap} {mg : Str → Option Value} (X : K.In h) (G : h.Ns mainGlobals mg) {k0 k1 : Tok} (h0 : FnHave TT PP K mg 0 t_0) (h1 : FnHave TT PP K mg 1 t_1) (h2 : FnHave TT PP K mg 2 t_2) (h3 : FnHave TT PP K mg 3 t_3) (h4 : FnHave TT PP K mg 4 t_4) (h5 : FnHave TT PP K mg 5 t_5) (h6 : FnHave TT PP K mg 6 t_6) (h7 : FnHave TT PP K mg 7 t_7) (h8 : FnHave TT PP K mg 8 t_8) (h9 : FnHave TT PP K mg 9 t_9) (h10 : FnHave TT PP K mg 10 t_10) (h11 : FnHave TT PP K mg 11 t_11) (h12 : FnHave TT PP K mg 12 t_12) (h13 : FnHave TT PP K mg 13 t_13) (h14 : FnHave TT PP K mg 14 t_14) (h15 : FnHave TT PP K mg 15 t_15) (h16 : FnHave TT PP K mg 16 t_16) (h17 : FnHave TT PP K mg 17 t_17) (h18 : FnHave TT PP K mg 18 t_18) (z0 : PySem.W.nsIn K mainGlobals "all" = some none) (z1 : PySem.W.nsIn K mainGlobals "bool" = some none) (z2 : PySem.W.nsIn K mainGlobals "int" = some none) (z3 : PySem.W.nsIn K mainGlobals "isinstance" = some none) (z4 : PySem.W.nsIn K mainGlobals "len" = some none) (z5 : PySem.W.nsIn K mainGlobals "list" = some none) (z6 : PySem.W.nsIn K mainGlobals "max" = some none) (z7 : PySem.W.nsIn K mainGlobals "min" = some none) (z8 : PySem.W.nsIn K mainGlobals "range" = some none) (z9 : PySem.W.nsIn K mainGlobals "repr" = some none) (z10 : PySem.W.nsIn K mainGlobals "tuple" = some none) (z11 : PySem.W.nsIn K mainGlobals "zip" = some none) (y0 : PySem.W.nsIn K mainGlobals "MOST_TOKENS" = some (some (.int 6 k0))) (y1 : PySem.W.nsIn K mainGlobals "LONG" = some (some (.int 2 k1))) : ∃ cs, TabF TT (GCc TT K cs) PP K mg := by
  refine ⟨[], tab_of _ tchk ⟨fun _ => h0, fun _ => h1, fun _ => h2, fun _ => h3, fun _ => h4, fun _ => h5, fun _ => h6, fun _ => h7, fun _ => h8, fun _ => h9, fun _ => h10, fun _ => h11, fun _ => h12, fun _ => h13, fun _ => h14, fun _ => h15, fun _ => h16, fun _ => h17, fun _ => h18, trivial⟩ rfl ?_ ?_ ?_⟩
  · intro c x e
    match c, e with
    | n + 0, e => cases e
  · intro x e
    rw [List.contains_iff_mem] at e
    exact (show ∀ x, x ∈ TT.blt → mg x = none from List.forall_mem_cons.mpr ⟨PySem.W.mg_none_of X G z0, List.forall_mem_cons.mpr ⟨PySem.W.mg_none_of X G z1, List.forall_mem_cons.mpr ⟨PySem.W.mg_none_of X G z2, List.forall_mem_cons.mpr ⟨PySem.W.mg_none_of X G z3, List.forall_mem_cons.mpr ⟨PySem.W.mg_none_of X G z4, List.forall_mem_cons.mpr ⟨PySem.W.mg_none_of X G z5, List.forall_mem_cons.mpr ⟨PySem.W.mg_none_of X G z6, List.forall_mem_cons.mpr ⟨PySem.W.mg_none_of X G z7, List.forall_mem_cons.mpr ⟨PySem.W.mg_none_of X G z8, List.forall_mem_cons.mpr ⟨PySem.W.mg_none_of X G z9, List.forall_mem_cons.mpr ⟨PySem.W.mg_none_of X G z10, List.forall_mem_cons.mpr ⟨PySem.W.mg_none_of X G z11, fun _ z => nomatch z⟩⟩⟩⟩⟩⟩⟩⟩⟩⟩⟩⟩) x e
  · intro i x d e
    match i, e with
    | 0, e => cases e; exact ⟨.int 6, _, PySem.W.mg_of X G y0, ⟨_, rfl⟩, fun _ _ => .int _⟩
    | 1, e => cases e; exact ⟨.int 2, _, PySem.W.mg_of X G y1, ⟨_, rfl⟩, fun _ _ => .int _⟩
    | n + 2, e => cases e
/-- the law by the small evaluator -/
theorem fin {P : Program} {w : World} {K : PySem.W.Frag} {h : Heap} {mg : Str → Option Value} {fa : Addr} (X : K.In h) (G : h.Ns mainGlobals mg) (hfa : mg "law" = some (.ref fa)) {k0 k1 : Tok} (h0 : FnHave TT PP K mg 0 t_0) (h1 : FnHave TT PP K mg 1 t_1) (h2 : FnHave TT PP K mg 2 t_2) (h3 : FnHave TT PP K mg 3 t_3) (h4 : FnHave TT PP K mg 4 t_4) (h5 : FnHave TT PP K mg 5 t_5) (h6 : FnHave TT PP K mg 6 t_6) (h7 : FnHave TT PP K mg 7 t_7) (h8 : FnHave TT PP K mg 8 t_8) (h9 : FnHave TT PP K mg 9 t_9) (h10 : FnHave TT PP K mg 10 t_10) (h11 : FnHave TT PP K mg 11 t_11) (h12 : FnHave TT PP K mg 12 t_12) (h13 : FnHave TT PP K mg 13 t_13) (h14 : FnHave TT PP K mg 14 t_14) (h15 : FnHave TT PP K mg 15 t_15) (h16 : FnHave TT PP K mg 16 t_16) (h17 : FnHave TT PP K mg 17 t_17) (h18 : FnHave TT PP K mg 18 t_18) (z0 : PySem.W.nsIn K mainGlobals "all" = some none) (z1 : PySem.W.nsIn K mainGlobals "bool" = some none) (z2 : PySem.W.nsIn K mainGlobals "int" = some none) (z3 : PySem.W.nsIn K mainGlobals "isinstance" = some none) (z4 : PySem.W.nsIn K mainGlobals "len" = some none) (z5 : PySem.W.nsIn K mainGlobals "list" = some none) (z6 : PySem.W.nsIn K mainGlobals "max" = some none) (z7 : PySem.W.nsIn K mainGlobals "min" = some none) (z8 : PySem.W.nsIn K mainGlobals "range" = some none) (z9 : PySem.W.nsIn K mainGlobals "repr" = some none) (z10 : PySem.W.nsIn K mainGlobals "tuple" = some none) (z11 : PySem.W.nsIn K mainGlobals "zip" = some none) (y0 : PySem.W.nsIn K mainGlobals "MOST_TOKENS" = some (some (.int 6 k0))) (y1 : PySem.W.nsIn K mainGlobals "LONG" = some (some (.int 2 k1))) :
    ∃ fd : FuncData, (∀ (s : Shared) (u : Value), K.In s.heap → BindsTo s fd ⟨[u], []⟩ [("_law_script", u)]) ∧ ∀ base : Heap, K.In base → base.Ns mainGlobals mg → Sys base → FnG P w K mg base (L2.CX P w) (2 * 12) fa fd 1 ["_law_script"] spScr := by
  obtain ⟨cs, D⟩ := tab X G h0 h1 h2 h3 h4 h5 h6 h7 h8 h9 h10 h11 h12 h13 h14 h15 h16 h17 h18 z0 z1 z2 z3 z4 z5 z6 z7 z8 z9 z10 z11 y0 y1
  obtain ⟨fd, hb, hF⟩ := law_of (M := none) (P := P) (w := w) (base := h) (fa := fa) (li := 18) (lv := 12) (t := t_18) (x := "_law_script") D rfl rfl rfl rfl hfa
  exact ⟨fd, hb, fun base X G Y => (hF base X G Y).imp (script_imp fun ns _ => law_ok ns)⟩
end IP
open PySem PySem.W PyProof.Rows
set_option maxRecDepth 100000 in
set_option maxHeartbeats 0 in
theorem PySem.Challenge.cw_overleaps_k01_places_and_lays_known_holds : PySem.Challenge.rw_overleaps_k01_places_and_lays_known.Holds := by
  w_on; o_law; k_head; (case hw => w_witness2)
  k_fill
  refine IP.walk_scr (l := PySem.Challenge.rw_overleaps_k01_places_and_lays_known) (k := 2 * 12) (x := "_law_script") (by kernel_rfl) rfl rfl ⟨rfl, by decide, by decide⟩ (fun w h Y => PySem.W.kIn_of Y) ?F ?nl
  (case nl => intro P; kernel_rfl)
  case F =>
    intro w mg fa h KX G hmg
    refine' IP.fin KX G hmg ?h0 ?h1 ?h2 ?h3 ?h4 ?h5 ?h6 ?h7 ?h8 ?h9 ?h10 ?h11 ?h12 ?h13 ?h14 ?h15 ?h16 ?h17 ?h18 ?z0 ?z1 ?z2 ?z3 ?z4 ?z5 ?z6 ?z7 ?z8 ?z9 ?z10 ?z11 ?y0 ?y1
    (case h0 => refine' IP.f_0 KX G ?a ?l ?c ?k; (case a => k_is); (case l => k_is); (case c => k_is); (case k => k_is))
    (case h1 => refine' IP.f_1 KX G ?a ?l ?c ?k; (case a => k_is); (case l => k_is); (case c => k_is); (case k => k_is))
    (case h2 => refine' IP.f_2 KX G ?a ?l ?c ?k; (case a => k_is); (case l => k_is); (case c => k_is); (case k => k_is))
    (case h3 => refine' IP.f_3 KX G ?a ?l ?c ?k; (case a => k_is); (case l => k_is); (case c => k_is); (case k => k_is))
    (case h4 => refine' IP.f_4 KX G ?a ?l ?c ?k; (case a => k_is); (case l => k_is); (case c => k_is); (case k => k_is))
    (case h5 => refine' IP.f_5 KX G ?a ?l ?c ?k; (case a => k_is); (case l => k_is); (case c => k_is); (case k => k_is))
    (case h6 => refine' IP.f_6 KX G ?a ?l ?c ?k; (case a => k_is); (case l => k_is); (case c => k_is); (case k => k_is))
    (case h7 => refine' IP.f_7 KX G ?a ?l ?c ?k; (case a => k_is); (case l => k_is); (case c => k_is); (case k => k_is))
    (case h8 => refine' IP.f_8 KX G ?a ?l ?c ?k; (case a => k_is); (case l => k_is); (case c => k_is); (case k => k_is))
    (case h9 => refine' IP.f_9 KX G ?a ?l ?c ?k; (case a => k_is); (case l => k_is); (case c => k_is); (case k => k_is))
    (case h10 => refine' IP.f_10 KX G ?a ?l ?c ?k; (case a => k_is); (case l => k_is); (case c => k_is); (case k => k_is))
    (case h11 => refine' IP.f_11 KX G ?a ?l ?c ?k; (case a => k_is); (case l => k_is); (case c => k_is); (case k => k_is))
    (case h12 => refine' IP.f_12 KX G ?a ?l ?c ?k; (case a => k_is); (case l => k_is); (case c => k_is); (case k => k_is))
    (case h13 => refine' IP.f_13 KX G ?a ?l ?c ?k; (case a => k_is); (case l => k_is); (case c => k_is); (case k => k_is))
    (case h14 => refine' IP.f_14 KX G ?a ?l ?c ?k; (case a => k_is); (case l => k_is); (case c => k_is); (case k => k_is))
    (case h15 => refine' IP.f_15 KX G ?a ?l ?c ?k; (case a => k_is); (case l => k_is); (case c => k_is); (case k => k_is))
    (case h16 => refine' IP.f_16 KX G ?a ?l ?c ?k; (case a => k_is); (case l => k_is); (case c => k_is); (case k => k_is))
    (case h17 => refine' IP.f_17 KX G ?a ?l ?c ?k; (case a => k_is); (case l => k_is); (case c => k_is); (case k => k_is))
    (case h18 => refine' IP.f_18 KX G ?a ?l ?c ?k; (case a => k_is); (case l => k_is); (case c => k_is); (case k => k_is))
    (case z0 => k_is)
    (case z1 => k_is)
    (case z2 => k_is)
    (case z3 => k_is)
    (case z4 => k_is)
    (case z5 => k_is)
    (case z6 => k_is)
    (case z7 => k_is)
    (case z8 => k_is)
    (case z9 => k_is)
    (case z10 => k_is)
    (case z11 => k_is)
    (case y0 => k_is)
    (case y1 => k_is)
