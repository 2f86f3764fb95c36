import PyProof.Rows.All
import Wide.All
import OpenK.AllK
import Wide.FinOn
import HandS.ForMost
import HandS.Wide
import HandS.Style
import HandS.TupAny
import HandS.TupMul
import HandS.IsInst
import HandS.Conv
import HandS.Zip
import HandS.RaiseMore
import HandS.ForExc
import HandS.CallSlots
import KE.KDictKeyed
import HandS.Lambda
import HandS.Walk
import HandS.Rev
import KE.GoesMore
import KE.SortData
import KE.DataMinMax
import HandS.ForDict
import HandS.DictTup
import KE.KDictSum
import KE.KDictCopyH
import KE.KDictDisplayH
import HandS.Flow
import HandS.TupSets
import KE.KDictWalk
import HandS.Iter
import HandS.DictComp
import HandS.HotCalls
import HandS.ExcOwn
import KE.KExcIs
import KE.KNestM
import HandS.Defaults
import PySem.Challenge.RW_overleaps_k41_fewest_by_hand_and_by_name
set_option Elab.async false
set_option linter.all false
set_option maxRecDepth 100000
set_option maxHeartbeats 4000000
namespace IP
open PySem PyProof.Rows

/-! the data of the small evaluator -/
inductive Val where
  | dat (p : PyData)
  | ref (l : Nat)
  | exn (c : Nat) (fs : List PyData)
inductive Ob where
  | lst (xs : List PyData)
  | dic (kvs : List (PyData × PyData))
  | frz (xs : List PyData)
  | ins (c : Nat) (fs : List (Nat × Val))
  | nd (kvs : List (PyData × PyData))
  | ndl (kvs : List (PyData × PyData))
  | dead
noncomputable abbrev Store := List Ob
noncomputable abbrev Env := List (Option Val)
inductive Out (A : Type) where
  | ok (a : A) (S : Store)
  | exc (c : Nat) (fs : List PyData) (S : Store)
  | err
noncomputable def Out.bind {A B : Type} (o : Out A) (f : A → Store → Out B) : Out B := match o with
  | .ok a S => f a S
  | .exc c fs S => .exc c fs S
  | .err => .err
@[simp] theorem Out.bind_ok {A B : Type} (a : A) (S : Store) (f : A → Store → Out B) : (Out.ok a S).bind f = f a S := rfl
@[simp] theorem Out.bind_exc {A B : Type} (c : Nat) (fs : List PyData) (S : Store) (f : A → Store → Out B) : (Out.exc c fs S).bind f = .exc c fs S := rfl
@[simp] theorem Out.bind_err {A B : Type} (f : A → Store → Out B) : (Out.err : Out A).bind f = .err := rfl

inductive BK where
  | add | sub | mul | fdv | mod | pow
  deriving DecidableEq
inductive CK where
  | eq | ne | lt | le | gt | ge | inn | nin
  deriving DecidableEq
inductive TK where
  | int | bool | tuple | str
  deriving DecidableEq
inductive BF where
  | len | abs | min2 | max2 | int | str | repr | list | tuple | all | any | sum | sorted | min | max | isi (t : TK) | lenset
  deriving DecidableEq
inductive Pt where
  | nm (i : Nat)
  | tp (ps : List Pt)

inductive IE where
  | var (i : Nat)
  | frz (i : Nat)
  | cst (p : PyData)
  | gcs (g : Nat) (p : PyData)
  | tup (es : List IE)
  | lst (es : List IE)
  | new (e : IE)
  | ndc
  | bin (op : BK) (a b : IE)
  | neg (a : IE)
  | not (a : IE)
  | cmp (op : CK) (a b : IE)
  | chn (op op' : CK) (a b c : IE)
  | isc (neg : Bool) (a : IE) (p : PyData)
  | and (a b : IE)
  | or (a b : IE)
  | ite (c a b : IE)
  | call (f : Nat) (es : List IE) (ds : List Int)
  | callk (f : Nat) (es kes : List IE) (perm : List Nat)
  | mk (c f : Nat) (es : List IE)
  | mth (c f : Nat) (o : IE) (es : List IE) (ds : List Int)
  | bf (b : BF) (es : List IE)
  | comp (elt : IE) (pt : Pt) (it : IE) (ifs : List IE) (own : List Nat)
  | comp2 (elt : IE) (pt : Pt) (it : IE) (ifs : List IE) (pt1 : Pt) (it1 : IE) (ifs1 : List IE) (own own1 : List Nat)
  | idx (a i : IE)
  | sli (a lo hi : IE)
  | rev (a : IE)
  | non
  | fld (o : IE) (f : Nat)
  | rg1 (a : IE)
  | rg2 (a b : IE)
  | zip (a b : IE)
  | enu (a : IE)
  | rvd (a : IE)
  | lr1 (t : Bool) (a : IE)
  | lr2 (t : Bool) (a b : IE)
  | pop (i : Nat) (e : IE)
  | cat (a b : IE)
  | lset (a : IE)
  | dic0
  | dic1 (k : PyData) (a : IE)
  | isx (a : IE) (k : Nat)
  | cnt (a : IE) (q : PyData)
  | ixo (a : IE) (q : PyData)
  | said (a : IE)
  | dgt (i : Nat) (k d : IE)
  | dvs (i : Nat)
  | sst (a : IE)
  | mx4 (es : List IE)
  | nd0
  | nd1 (k v : IE)
  | nin (n : Bool) (k : IE) (i : Nat)
  | nix (i : Nat) (k : IE)
  | ngt (i : Nat) (k d : IE)
  | nks (i : Nat)
  | nit (i : Nat)
  | mn2 (a b : IE)
  | bad

inductive Tg where
  | nm (i : Nat)
  | fld (o : IE) (f : Nat)
  | sub (o i : IE)
  | tp (ts : List Tg)
inductive IS where
  | asg (t : Tg) (e : IE)
  | par (ts : List Tg) (es : List IE)
  | exp (e : IE)
  | app (i : Nat) (e : IE)
  | ext (i : Nat) (e : IE)
  | ite (c : IE) (a b : List IS)
  | for_ (pt : Pt) (it : IE) (body : List IS)
  | whl (c : IE) (body : List IS)
  | ret (e : IE)
  | rtn
  | rse (c : Nat) (es : List IE)
  | tri (body : List IS) (cs : List Nat) (i : Nat) (h : List IS)
  | nop
  | dpt (i : Nat) (k v : IE)
  | npt (i : Nat) (k v : IE)
  | nup (i j : Nat)
  | nuc (i j k : Nat)
  | bad

/-! dicts whose keys are tuples of any depth -/
mutual
noncomputable def nk : PyData → Option NestedKey
  | .none => some .none
  | .int i => some (.num i)
  | .str x => some (.text x)
  | .tuple xs => match nks xs with
    | some ks => some (.tup ks)
    | none => none
  | .bool _ => none
  | .list _ => none
  | .dict _ => none
noncomputable def nks : List PyData → Option (List NestedKey)
  | [] => some []
  | x :: xs => match nk x, nks xs with
    | some k, some ks => some (k :: ks)
    | _, _ => none
end
noncomputable def nkT : PyData → Option NestedKey
  | .tuple xs => match nks xs with
    | some ks => if (NestedKey.tup ks).depth ≤ 8 then some (.tup ks) else none
    | none => none
  | _ => none
noncomputable def valN (kvs : List (PyData × PyData)) (k : NestedKey) : Option PyData := (kvs.find? fun kv => decide (nkT kv.1 = some k)).map (·.2)
noncomputable def putN (kvs : List (PyData × PyData)) (p : PyData) (k : NestedKey) (v : PyData) : List (PyData × PyData) :=
  if (kvs.any fun kv => decide (nkT kv.1 = some k)) = true then kvs.map fun kv => if nkT kv.1 = some k then (kv.1, v) else kv else kvs ++ [(p, v)]
noncomputable def putNs (kvs : List (PyData × PyData)) : List (PyData × PyData) → List (PyData × PyData)
  | [] => kvs
  | (p, v) :: r => match nkT p with
    | some k => putNs (putN kvs p k v) r
    | none => putNs kvs r
noncomputable def dictAt (S : Store) (v : Option (Option Val)) : Option (Nat × List (PyData × PyData)) := match v with
  | some (some (.ref l)) => match S[l]? with
    | some (.nd kvs) => some (l, kvs)
    | some (.ndl kvs) => some (l, kvs)
    | _ => none
  | _ => none
/-! values -/
noncomputable def look (S : Store) : Val → Option PyData
  | .dat p => some p
  | .ref l => match S[l]? with
    | some (.lst xs) => some (.list xs)
    | some (.dic kvs) => some (.dict kvs)
    | _ => none
  | .exn _ _ => none
/-- the same, the script too -/
noncomputable def lookF (S : Store) : Val → Option PyData
  | .dat p => some p
  | .ref l => match S[l]? with
    | some (.lst xs) => some (.list xs)
    | some (.dic kvs) => some (.dict kvs)
    | some (.frz xs) => some (.list xs)
    | _ => none
  | .exn _ _ => none
noncomputable def lookO (op : BK) (S : Store) (v : Val) : Option PyData := match op with
  | .mul => look S v
  | _ => lookF S v
noncomputable def dats : List Val → Option (List PyData)
  | [] => some []
  | .dat p :: vs => (dats vs).map (p :: ·)
  | _ :: _ => none
noncomputable def datb : Val → Option Bool
  | .dat (.bool b) => some b
  | _ => none
/-- an option as an outcome -/
noncomputable def opt {A : Type} (o : Option A) (S : Store) : Out A := match o with
  | some a => .ok a S
  | none => .err
noncomputable def optD (o : Option PyData) (S : Store) : Out Val := match o with
  | some a => .ok (.dat a) S
  | none => .err
@[simp] theorem opt_some {A : Type} (a : A) (S : Store) : opt (some a) S = .ok a S := rfl
@[simp] theorem opt_none {A : Type} (S : Store) : opt (none : Option A) S = .err := rfl
@[simp] theorem optD_some (a : PyData) (S : Store) : optD (some a) S = .ok (.dat a) S := rfl
@[simp] theorem optD_none (S : Store) : optD none S = .err := rfl

noncomputable def mulOk (i j : Int) : Bool := decide (i.natAbs.log2 + j.natAbs.log2 < 1000000)
noncomputable def divOk (j : Int) : Bool := decide (j ≠ 0) && decide (j.natAbs.log2 < 9000)
noncomputable def binP (op : BK) : PyData → PyData → Option PyData
  | .int i, .int j => match op with
    | .add => some (.int (i + j))
    | .sub => some (.int (i - j))
    | .mul => if mulOk i j = true then some (.int (i * j)) else none
    | .fdv => if divOk j = true then some (.int (i.fdiv j)) else none
    | .mod => if j ≠ 0 then some (.int (i.fmod j)) else none
    | .pow => if 0 ≤ j ∧ j ≤ 1000000 ∧ i.natAbs < 2 ^ 64 then some (.int (i ^ j.toNat)) else none
  | .str a, .str b => match op with
    | .add => if a.length + b.length ≤ sizeLine then some (.str (a ++ b)) else none
    | _ => none
  | .list a, .list b => match op with
    | .add => if a.length + b.length ≤ sizeLine then some (.list (a ++ b)) else none
    | _ => none
  | .tuple a, .tuple b => match op with
    | .add => if a.length + b.length ≤ sizeLine then some (.tuple (a ++ b)) else none
    | _ => none
  | .tuple a, .int k => match op with
    | .mul => if -1000 ≤ k ∧ k ≤ 1000 ∧ a.length ≤ 1000 then some (.tuple (List.replicate k.toNat a).flatten) else none
    | _ => none
  | .list a, .int k => match op with
    | .mul => if -(2 ^ 63) ≤ k ∧ k < 2 ^ 63 ∧ a.length * k.toNat ≤ sizeLine then some (.list (List.replicate k.toNat a).flatten) else none
    | _ => none
  | _, _ => none
noncomputable def flatP : PyData → Bool
  | .none => true
  | .bool _ => true
  | .int _ => true
  | .str _ => true
  | _ => false
noncomputable def eqP : PyData → PyData → Option Bool
  | .int i, .int j => some (decide (i = j))
  | .str x, .str y => some (decide (x = y))
  | a, b => if SeqAt.shaped a = true ∧ SeqAt.shaped b = true then some (PyData.eqv a b) else none
/-- a tuple beside the empty one, whatever is in it -/
noncomputable def eqT0 : PyData → PyData → Option Bool
  | .tuple xs, .tuple [] => some xs.isEmpty
  | _, _ => none
noncomputable def eqO : Option Bool → Option Bool → Option Bool
  | some r, _ => some r
  | none, o => o
noncomputable def inP : PyData → PyData → Option Bool
  | x, .list ys => if flatP x = true ∧ ys.all flatP = true then some (ys.any fun y => PyData.eqv y x) else none
  | x, .tuple ys => if flatP x = true ∧ ys.all flatP = true then some (ys.any fun y => PyData.eqv y x) else none
  | .str a, .str b => some (!(Builtin.Str.occurrences b a 0 b.length 1).isEmpty)
  | _, _ => none
noncomputable def cmpP (op : CK) (a b : PyData) : Option Bool := match op with
  | .eq => eqO (eqP a b) (eqT0 a b)
  | .ne => (eqP a b).map (!·)
  | .inn => inP a b
  | .nin => (inP a b).map (!·)
  | .lt => match a, b with
    | .int i, .int j => some (decide (i < j))
    | _, _ => none
  | .le => match a, b with
    | .int i, .int j => some (decide (i ≤ j))
    | _, _ => none
  | .gt => match a, b with
    | .int i, .int j => some (decide (j < i))
    | _, _ => none
  | .ge => match a, b with
    | .int i, .int j => some (decide (j ≤ i))
    | _, _ => none
noncomputable def idxP : PyData → PyData → Option PyData
  | .list xs, .int i => L2.atI xs i
  | .tuple xs, .int i => L2.atI xs i
  | .str s, .int i => if s.length ≤ sizeLine then (L2.atI s.cps.toList i).map fun c => .str ⟨#[c]⟩ else none
  | _, _ => none
noncomputable def cutP {A : Type} (xs : List A) (lo hi : Option Int) : List A :=
  (xs.drop (HT.sIx xs.length 0 lo)).take (HT.sIx xs.length xs.length hi - HT.sIx xs.length 0 lo)
noncomputable def sliP : PyData → Option Int → Option Int → Option PyData
  | .list xs, lo, hi => some (.list (cutP xs lo hi))
  | .tuple xs, lo, hi => some (.tuple (cutP xs lo hi))
  | .str s, lo, hi => if s.length ≤ sizeLine then some (.str (L2.cutS s lo hi)) else none
  | _, _, _ => none
noncomputable def revP : PyData → Option PyData
  | .list xs => some (.list xs.reverse)
  | .tuple xs => some (.tuple xs.reverse)
  | _ => none
noncomputable def isTy (t : TK) : PyData → Bool
  | .int _ => match t with | .int => true | _ => false
  | .bool _ => match t with | .int => true | .bool => true | _ => false
  | .tuple _ => match t with | .tuple => true | _ => false
  | .str _ => match t with | .str => true | _ => false
  | _ => false
noncomputable def intsOf : List PyData → Option (List Int)
  | [] => some []
  | .int i :: r => (intsOf r).map (i :: ·)
  | _ :: _ => none
noncomputable def boolsOf : List PyData → Option (List Bool)
  | [] => some []
  | .bool i :: r => (boolsOf r).map (i :: ·)
  | _ :: _ => none
/-- a list or tuple's items -/
noncomputable def seqP : PyData → Option (List PyData)
  | .list xs => some xs
  | .tuple xs => some xs
  | _ => none
noncomputable def strItems (s : Str) : List PyData := s.cps.toList.map fun c => .str ⟨#[c]⟩
/-- what a for walks -/
noncomputable def itemsP : PyData → Option (List PyData)
  | .list xs => some xs
  | .tuple xs => some xs
  | .str s => some (strItems s)
  | _ => none
noncomputable def intRange (a b : Int) : List PyData := (List.range (b - a).toNat).map fun (i : Nat) => PyData.int (a + (i : Int))
noncomputable def rowsInt : List PyData → Option (List (List Int))
  | [] => some []
  | .tuple xs :: r => match intsOf xs, rowsInt r with
    | some ns, some rs => some (ns :: rs)
    | _, _ => none
  | _ :: _ => none
noncomputable def rowsRs : List PyData → Option (List (List (List Int)))
  | [] => some []
  | .tuple xs :: r => match rowsInt xs, rowsRs r with
    | some ns, some rs => some (ns :: rs)
    | _, _ => none
  | _ :: _ => none
/-- an item put into a rising row -/
noncomputable def insBy {A : Type} (lt : A → A → Bool) (x : A) : List A → List A
  | [] => [x]
  | y :: r => if lt x y = true then x :: y :: r else y :: insBy lt x r
noncomputable def sortBy {A : Type} (lt : A → A → Bool) : List A → List A
  | [] => []
  | x :: r => insBy lt x (sortBy lt r)
noncomputable def leastBy {A : Type} (lt : A → A → Bool) (x : A) : List A → A
  | [] => x
  | y :: r => leastBy lt (if lt y x = true then y else x) r
/-- rows of rows -/
noncomputable def lexR : List (List Int) → List (List Int) → Bool
  | [], [] => false
  | [], _ :: _ => true
  | _ :: _, [] => false
  | x :: xs, y :: ys => if x = y then lexR xs ys else HT.lexLt x y
/-- the less of two tuples, the first one of two alike ones -/
noncomputable def mn2P : PyData → PyData → Option PyData
  | .tuple xs, .tuple ys => match intsOf xs, intsOf ys with
    | some a, some b => some (if HT.lexLt b a = true then .tuple ys else .tuple xs)
    | _, _ => match rowsInt xs, rowsInt ys with
      | some a, some b => some (if lexR b a = true then .tuple ys else .tuple xs)
      | _, _ => none
  | _, _ => none
noncomputable def repOk (p : PyData) : Bool := p.showable && decide (p.depth ≤ 64) && decide (p.shown.length ≤ sizeLine)
noncomputable def bfP (b : BF) (vs : List PyData) : Option PyData := match b, vs with
  | .len, [.str s] => if s.length ≤ sizeLine then some (.int s.length) else none
  | .len, [.list xs] => some (.int xs.length)
  | .len, [.tuple xs] => some (.int xs.length)
  | .abs, [.int i] => some (.int (if i < 0 then -i else i))
  | .min2, [.int i, .int j] => some (.int (if j < i then j else i))
  | .max2, [.int i, .int j] => some (.int (if j > i then j else i))
  | .int, [.bool b] => some (.int (if b = true then 1 else 0))
  | .int, [.int i] => some (.int i)
  | .str, [.int i] => if i.natAbs.log2 < 1920 then some (.str (toString i)) else none
  | .str, [.str s] => some (.str s)
  | .repr, [p] => if repOk p = true then some (.str p.shown) else none
  | .list, [.list xs] => some (.list xs)
  | .list, [.tuple xs] => some (.list xs)
  | .tuple, [.list xs] => some (.tuple xs)
  | .tuple, [.tuple xs] => some (.tuple xs)
  | .all, [.list xs] => (boolsOf xs).map fun bs => .bool (bs.all id)
  | .any, [.list xs] => (boolsOf xs).map fun bs => .bool (bs.any id)
  | .sum, [.list xs] => (intsOf xs).map fun ns => .int ns.sum
  | .sum, [.tuple xs] => (intsOf xs).map fun ns => .int ns.sum
  | .sorted, [.list xs] => (rowsInt xs).bind fun rs => if rs.all (fun r => !r.isEmpty) = true then some (.list ((sortBy HT.lexLt rs).map fun r => .tuple (r.map .int))) else none
  | .min, [.list xs] => match rowsInt xs with
    | some (r :: rs) => some (.tuple ((leastBy HT.lexLt r rs).map .int))
    | some [] => none
    | none => match rowsRs xs with
      | some (r :: rs) => some (.tuple ((leastBy lexR r rs).map fun ns => .tuple (ns.map .int)))
      | _ => none
  | .isi t, [p] => some (.bool (isTy t p))
  | _, _ => none

noncomputable def bindPt : Pt → Val → Env → Option Env
  | .nm i, v, s => if i < s.length then some (s.set i (some v)) else none
  | .tp ps, .dat (.tuple xs), s => bindPts ps xs s
  | .tp _, _, _ => none
where bindPts : List Pt → List PyData → Env → Option Env
  | [], [], s => some s
  | p :: ps, x :: xs, s => match bindPt p (.dat x) s with
    | some s' => bindPts ps xs s'
    | none => none
  | _, _, _ => none
noncomputable def wipeE (s : Env) : List Nat → Env
  | [] => s
  | v :: vs => (wipeE s vs).set v none
noncomputable def consO (o : Option PyData) (r : List PyData) : List PyData := match o with
  | some y => y :: r
  | none => r
noncomputable def compL (f : PyData → Store → Out (Option PyData)) : List PyData → Store → Out (List PyData)
  | [], S => .ok [] S
  | x :: xs, S => (f x S).bind fun o S1 => (compL f xs S1).bind fun r S2 => .ok (consO o r) S2
noncomputable def compLL (f : PyData → Store → Out (List PyData)) : List PyData → Store → Out (List PyData)
  | [], S => .ok [] S
  | x :: xs, S => (f x S).bind fun o S1 => (compLL f xs S1).bind fun r S2 => .ok (o ++ r) S2
/-- the items that are walked -/
noncomputable def itO (o : Out Val) : Out (List PyData) := o.bind fun v S => match v with
  | .dat d => match itemsP d with
    | some xs => .ok xs S
    | none => .err
  | _ => .err
/-- nothing may be raised here -/
noncomputable def Out.nox {A : Type} : Out A → Out A
  | .exc _ _ _ => .err
  | o => o
@[simp] theorem Out.nox_ok {A : Type} (a : A) (S : Store) : (Out.ok a S).nox = .ok a S := rfl
@[simp] theorem Out.nox_err {A : Type} : (Out.err : Out A).nox = .err := rfl
/-- a tuple or a list -/
noncomputable def mkSeq (t : Bool) (xs : List PyData) : PyData := if t = true then .tuple xs else .list xs
noncomputable def small (j : Int) : Bool := decide (j.natAbs.log2 < 61)
noncomputable def rgOk (a b : Int) : Bool := small a && small b && decide ((b - a).toNat ≤ 16777216)
theorem small_lt {j : Int} (h : small j = true) : j < 2 ^ 62 ∧ -(2 ^ 62) ≤ j := by
  unfold small at h
  have := lt_two_pow_of_log2_lt (of_decide_eq_true h)
  omega
theorem small_of {j : Int} (h : -1000000000000 ≤ j) (h' : j ≤ 1000000000000) : small j = true := by
  unfold small
  by_cases e : j.natAbs = 0
  · rw [e]
    decide
  · exact decide_eq_true ((Nat.log2_lt e).mpr (by omega))
/-- the words of refusals, by their classes -/
noncomputable def exLabs : List Str := ["lay", "place", "token", "leap", "row", "run", "runs", "number", "wishes", "unlike", "deed", "text", "line", "many"]
noncomputable def exNames : List Str := ["NoLay", "NoPlace", "NoToken", "NoLeap", "NoRow", "NoRun", "NoRuns", "NoNumber", "NoWishes", "UnlikeMany", "NoDeed", "NoText", "NoLine", "TooMany"]
/-- what is told of a refusal -/
noncomputable def sayX (c : Nat) (fs : List PyData) : Option Str := match fs with
  | [] => if c < 13 then (exLabs[c]?).map ("! " ++ ·) else none
  | _ => none
/-- a try that tells -/
noncomputable def saidO (o : Out Val) : Out Val := match o with
  | .ok v S1 => match lookF S1 v with
    | some p => optD (bfP .repr [p]) S1
    | none => .err
  | .exc c fs S1 => match sayX c fs with
    | some l => .ok (.dat (.str l)) S1
    | none => .err
  | .err => .err
/-- a dict's key that is a tuple -/
noncomputable def tkeys : List PyData → Option (List (Int ⊕ Str))
  | [] => some []
  | .int i :: r => (tkeys r).map (.inl i :: ·)
  | .str s :: r => (tkeys r).map (.inr s :: ·)
  | _ :: _ => none
noncomputable def tkey : PyData → Option (List (Int ⊕ Str))
  | .tuple xs => tkeys xs
  | _ => none
noncomputable def valT (kvs : List (PyData × PyData)) (k : List (Int ⊕ Str)) : Option PyData := (kvs.find? fun kv => decide (tkey kv.1 = some k)).map (·.2)
noncomputable def putT (kvs : List (PyData × PyData)) (p : PyData) (k : List (Int ⊕ Str)) (d : PyData) : List (PyData × PyData) :=
  if (kvs.any fun kv => decide (tkey kv.1 = some k)) = true then kvs.map fun kv => if tkey kv.1 = some k then (kv.1, d) else kv else kvs ++ [(p, d)]
noncomputable def sortP (xs : List PyData) : Option PyData := (rowsInt xs).bind fun rs => if rs.all (fun r => !r.isEmpty) = true then some (.list ((sortBy HT.lexLt rs).map fun r => .tuple (r.map .int))) else none
noncomputable def uniqR : List (List Int) → List (List Int)
  | [] => []
  | r :: rs => if r ∈ rs then uniqR rs else r :: uniqR rs
noncomputable def mx2 (a b : Int) : Int := if b > a then b else a
noncomputable def sortU (xs : List PyData) : Option PyData := (rowsInt xs).bind fun rs => if rs.all (fun r => !r.isEmpty) = true ∧ rs.length < 64 then some (.list ((sortBy HT.lexLt (uniqR rs)).map fun r => .tuple (r.map .int))) else none
noncomputable def max4 : List PyData → Option PyData
  | [.int a, .int b, .int c, .int d] => some (.int (mx2 (mx2 (mx2 a b) c) d))
  | _ => none
noncomputable def cntP : PyData → PyData → Option PyData
  | .list ys, x => if flatP x = true ∧ ys.all flatP = true then some (.int (ys.countP fun y => PyData.eqv y x : Nat)) else none
  | _, _ => none
noncomputable def ixoP : PyData → PyData → Option PyData
  | .list ys, x => if flatP x = true ∧ ys.all flatP = true then (ys.findIdx? fun y => PyData.eqv y x).map fun i => .int (i : Nat) else none
  | _, _ => none
noncomputable abbrev CallF := Nat → List Val → Store → Out Val
noncomputable def dfl (ds : List Int) : List Val := ds.map fun i => .dat (.int i)
noncomputable def permute {A : Type} : List Nat → List A → Option (List A)
  | [], _ => some []
  | i :: r, vs => match vs[i]?, permute r vs with
    | some v, some vs' => some (v :: vs')
    | _, _ => none
noncomputable def isNon : IE → Bool
  | .non => true
  | _ => false
/-- a part of a slice -/
noncomputable def partO (b : Bool) (o : Out Val) (S : Store) : Out (Option Int) := if b = true then .ok none S else o.bind fun v S1 => match v with
  | .dat (.int i) => .ok (some i) S1
  | _ => .err

mutual
noncomputable def evE (cf : CallF) : IE → Env → Store → Out Val
  | .var i, s, S => match s[i]? with
    | some (some v) => .ok v S
    | _ => .err
  | .frz i, s, S => match s[i]? with
    | some (some (.ref l)) => match S[l]? with
      | some (.lst xs) => .ok (.dat (.list xs)) (S.set l .dead)
      | some (.dic kvs) => .ok (.dat (.dict kvs)) (S.set l .dead)
      | _ => .err
    | _ => .err
  | .cst p, _, S => .ok (.dat p) S
  | .gcs _ p, _, S => .ok (.dat p) S
  | .tup es, s, S => (evL cf es s S).bind fun vs S1 => match dats vs with
    | some ps => if ps.length ≤ sizeLine then .ok (.dat (.tuple ps)) S1 else .err
    | none => .err
  | .lst es, s, S => (evL cf es s S).bind fun vs S1 => match dats vs with
    | some ps => if ps.length ≤ sizeLine then .ok (.dat (.list ps)) S1 else .err
    | none => .err
  | .new e, s, S => (evE cf e s S).bind fun v S1 => match v with
    | .dat (.list xs) => .ok (.ref S1.length) (S1 ++ [.lst xs])
    | _ => .err
  | .ndc, _, S => .ok (.ref S.length) (S ++ [.dic []])
  | .bin op a b, s, S => (evE cf a s S).bind fun x S1 => (evE cf b s S1).bind fun y S2 => match lookO op S2 x, lookO op S2 y with
    | some p, some q => optD (binP op p q) S2
    | _, _ => .err
  | .neg a, s, S => (evE cf a s S).bind fun x S1 => match x with
    | .dat (.int i) => .ok (.dat (.int (-i))) S1
    | _ => .err
  | .not a, s, S => (evE cf a s S).bind fun x S1 => match x with
    | .dat (.bool b) => .ok (.dat (.bool (!b))) S1
    | _ => .err
  | .cmp op a b, s, S => (evE cf a s S).bind fun x S1 => (evE cf b s S1).bind fun y S2 => match lookF S2 x, lookF S2 y with
    | some p, some q => optD ((cmpP op p q).map .bool) S2
    | _, _ => .err
  | .chn op op' a b c, s, S => (evE cf a s S).bind fun x S1 => (evE cf b s S1).bind fun y S2 => match x, y with
    | .dat p, .dat q => match cmpP op p q with
      | some true => (evE cf c s S2).bind fun z S3 => match z with
        | .dat r => optD ((cmpP op' q r).map .bool) S3
        | _ => .err
      | some false => .ok (.dat (.bool false)) S2
      | none => .err
    | _, _ => .err
  | .isc n a p, s, S => (evE cf a s S).bind fun x S1 => match x, p with
    | .dat .none, .none => .ok (.dat (.bool (!n))) S1
    | .dat _, .none => .ok (.dat (.bool n)) S1
    | .ref _, .none => .ok (.dat (.bool n)) S1
    | .dat (.bool b), .bool c => .ok (.dat (.bool (if n = true then !(decide (b = c)) else decide (b = c)))) S1
    | _, _ => .err
  | .and a b, s, S => (evE cf a s S).bind fun x S1 => match x with
    | .dat (.bool true) => evE cf b s S1
    | .dat (.bool false) => .ok (.dat (.bool false)) S1
    | _ => .err
  | .or a b, s, S => (evE cf a s S).bind fun x S1 => match x with
    | .dat (.bool true) => .ok (.dat (.bool true)) S1
    | .dat (.bool false) => evE cf b s S1
    | _ => .err
  | .ite c a b, s, S => (evE cf c s S).bind fun x S1 => match x with
    | .dat (.bool true) => evE cf a s S1
    | .dat (.bool false) => evE cf b s S1
    | _ => .err
  | .call f es ds, s, S => (evL cf es s S).bind fun vs S1 => cf f (vs ++ dfl ds) S1
  | .callk f es kes perm, s, S => (evL cf es s S).bind fun vs S1 => (evL cf kes s S1).bind fun ws S2 => match permute perm (vs ++ ws) with
    | some vs' => cf f vs' S2
    | none => .err
  | .mk c f es, s, S => (evL cf es s S).bind fun vs S1 => (cf f (.ref S1.length :: vs) (S1 ++ [.ins c []])).bind fun v S2 => match v with
    | .dat .none => .ok (.ref S1.length) S2
    | _ => .err
  | .mth c f o es ds, s, S => (evE cf o s S).bind fun x S1 => match x with
    | .ref l => match S1[l]? with
      | some (.ins c' _) => if c' = c then (evL cf es s S1).bind fun vs S2 => cf f (.ref l :: (vs ++ dfl ds)) S2 else .err
      | _ => .err
    | _ => .err
  | .bf b es, s, S => (evL cf es s S).bind fun vs S1 => match vs with
    | [x] => match lookF S1 x with
      | some p => optD (bfP b [p]) S1
      | none => .err
    | [.dat p, .dat q] => optD (bfP b [p, q]) S1
    | _ => .err
  | .comp elt pt it ifs own, s, S => (itO (evE cf it s S)).bind fun xs S1 => if xs.length < sizeLine then (compL (fun y S2 => Out.nox (match bindPt pt (.dat y) (wipeE s own) with
      | some s' => (evAll cf ifs s' S2).bind fun b S3 => if b = true then (evE cf elt s' S3).bind fun v S4 => match v with
        | .dat p => .ok (some p) S4
        | _ => .err else .ok none S3
      | none => .err)) xs S1).bind fun ys S5 => .ok (.dat (.list ys)) S5 else .err
  | .comp2 elt pt it ifs pt1 it1 ifs1 own own1, s, S => (itO (evE cf it s S)).bind fun xs S1 => if xs.length ≤ 1000 then (compLL (fun y S2 => match bindPt pt (.dat y) (wipeE s own) with
      | some s' => (evAll cf ifs s' S2).nox.bind fun b S3 => if b = true then (itO (evE cf it1 s' S3)).nox.bind fun zs S4 => if zs.length ≤ 1000 then compL (fun z S5 => Out.nox (match bindPt pt1 (.dat z) (wipeE s' own1) with
        | some s'' => (evAll cf ifs1 s'' S5).bind fun b S6 => if b = true then (evE cf elt s'' S6).bind fun v S7 => match v with
          | .dat p => .ok (some p) S7
          | _ => .err else .ok none S6
        | none => .err)) zs S4 else .err else .ok [] S3
      | none => .err) xs S1).bind fun ys S5 => .ok (.dat (.list ys)) S5 else .err
  | .idx a i, s, S => (evE cf a s S).bind fun x S1 => (evE cf i s S1).bind fun y S2 => match lookF S2 x, y with
    | some p, .dat q => optD (idxP p q) S2
    | _, _ => .err
  | .sli a lo hi, s, S => (evE cf a s S).bind fun x S1 => (partO (isNon lo) (evE cf lo s S1) S1).bind fun l S2 => (partO (isNon hi) (evE cf hi s S2) S2).bind fun h S3 => match lookF S3 x with
    | some p => optD (sliP p l h) S3
    | none => .err
  | .rev a, s, S => (evE cf a s S).bind fun x S1 => match lookF S1 x with
    | some p => optD (revP p) S1
    | none => .err
  | .non, _, S => .ok (.dat .none) S
  | .fld o f, s, S => (evE cf o s S).bind fun x S1 => match x with
    | .ref l => match S1[l]? with
      | some (.ins _ fs) => match fs.lookup f with
        | some v => .ok v S1
        | none => .err
      | _ => .err
    | _ => .err
  | .rg1 a, s, S => (evE cf a s S).bind fun x S1 => match x with
    | .dat (.int j) => if small j = true then .ok (.dat (.list (intRange 0 j))) S1 else .err
    | _ => .err
  | .rg2 a b, s, S => (evE cf a s S).bind fun x S1 => (evE cf b s S1).bind fun y S2 => match x, y with
    | .dat (.int i), .dat (.int j) => if small i = true ∧ small j = true then .ok (.dat (.list (intRange i j))) S2 else .err
    | _, _ => .err
  | .zip a b, s, S => (evE cf a s S).bind fun x S1 => (evE cf b s S1).bind fun y S2 => match x, y with
    | .dat (.list xs), .dat (.list ys) => .ok (.dat (.list ((xs.zip ys).map fun z => .tuple [z.1, z.2]))) S2
    | .dat (.tuple xs), .dat (.tuple ys) => .ok (.dat (.list ((xs.zip ys).map fun z => .tuple [z.1, z.2]))) S2
    | .dat (.list xs), .dat (.tuple ys) => .ok (.dat (.list ((xs.zip ys).map fun z => .tuple [z.1, z.2]))) S2
    | _, _ => .err
  | .enu a, s, S => (evE cf a s S).bind fun x S1 => match x with
    | .dat p => match seqP p with
      | some xs => .ok (.dat (.list ((xs.zipIdx).map fun z => .tuple [.int z.2, z.1]))) S1
      | none => .err
    | _ => .err
  | .rvd a, s, S => (evE cf a s S).bind fun x S1 => match x with
    | .dat p => match seqP p with
      | some xs => .ok (.dat (.list xs.reverse)) S1
      | none => .err
    | _ => .err
  | .lr1 t a, s, S => (evE cf a s S).bind fun x S1 => match x with
    | .dat (.int j) => if rgOk 0 j = true then .ok (.dat (mkSeq t (intRange 0 j))) S1 else .err
    | _ => .err
  | .lr2 t a b, s, S => (evE cf a s S).bind fun x S1 => (evE cf b s S1).bind fun y S2 => match x, y with
    | .dat (.int i), .dat (.int j) => if rgOk i j = true then .ok (.dat (mkSeq t (intRange i j))) S2 else .err
    | _, _ => .err
  | .pop i e, s, S => match s[i]? with
    | some (some (.ref l)) => match S[l]? with
      | some (.lst _) => (evE cf e s S).bind fun v S1 => match v, S1[l]? with
        | .dat (.int k), some (.lst xs) => if xs.length ≤ 1000000 then (match L2.ixN xs.length k with
          | some j => match xs[j]? with
            | some d => .ok (.dat d) (S1.set l (.lst (xs.eraseIdx j)))
            | none => .err
          | none => .err) else .err
        | _, _ => .err
      | _ => .err
    | _ => .err
  | .cat a b, s, S => (evE cf a s S).bind fun x S1 => (evE cf b s S1).bind fun y S2 => match lookF S2 x, lookF S2 y with
    | some (.list xs), some (.list ys) => if xs.length + ys.length ≤ sizeLine then .ok (.dat (.list (xs ++ ys))) S2 else .err
    | _, _ => .err
  | .lset a, s, S => (evE cf a s S).bind fun x S1 => match x with
    | .dat (.list xs) => match intsOf xs with
      | some ns => if ns.length ≤ 4000 then .ok (.dat (.int ((ns.foldl step_dedup []).length : Nat))) S1 else .err
      | none => .err
    | _ => .err
  | .dic0, _, S => .ok (.dat (.dict [])) S
  | .dic1 k a, s, S => (evE cf a s S).bind fun x S1 => match x with
    | .dat d => .ok (.dat (.dict [(k, d)])) S1
    | _ => .err
  | .isx a k, s, S => (evE cf a s S).bind fun x S1 => match x with
    | .exn (c + 1) [] => .ok (.dat (.bool (decide (c = k) || decide (14 ≤ k)))) S1
    | _ => .err
  | .cnt a q, s, S => (evE cf a s S).bind fun x S1 => match x with
    | .dat p => optD (cntP p q) S1
    | _ => .err
  | .ixo a q, s, S => (evE cf a s S).bind fun x S1 => match x with
    | .dat p => optD (ixoP p q) S1
    | _ => .err
  | .said a, s, S => saidO (evE cf a s S)
  | .dgt i k d, s, S => match s[i]? with
    | some (some (.ref l)) => match S[l]? with
      | some (.dic _) => (evE cf k s S).bind fun x S1 => (evE cf d s S1).bind fun y S2 => match x, y, S2[l]? with
        | .dat p, .dat q, some (.dic kvs) => match tkey p with
          | some k => .ok (.dat ((valT kvs k).getD q)) S2
          | none => .err
        | _, _, _ => .err
      | _ => .err
    | _ => .err
  | .dvs i, s, S => match s[i]? with
    | some (some (.ref l)) => match S[l]? with
      | some (.dic kvs) => optD (sortP (kvs.map (·.2))) S
      | _ => .err
    | _ => .err
  | .sst a, s, S => (evE cf a s S).bind fun x S1 => match x with
    | .dat (.list xs) => optD (sortU xs) S1
    | _ => .err
  | .mx4 es, s, S => (evL cf es s S).bind fun vs S1 => match dats vs with
    | some ps => optD (max4 ps) S1
    | none => .err
  | .mn2 a b, s, S => (evE cf a s S).bind fun x S1 => (evE cf b s S1).bind fun y S2 => match x, y with
    | .dat p, .dat q => optD (mn2P p q) S2
    | _, _ => .err
  | .nd0, _, S => .ok (.ref S.length) (S ++ [.nd []])
  | .nd1 k v, s, S => (evE cf k s S).bind fun x S1 => (evE cf v s S1).bind fun y S2 => match x, y with
    | .dat p, .dat q => match nkT p with
      | some _ => .ok (.ref S2.length) (S2 ++ [.nd [(p, q)]])
      | none => .err
    | _, _ => .err
  | .nin n k i, s, S => (evE cf k s S).bind fun x S1 => match x, dictAt S1 s[i]? with
    | .dat p, some (_, kvs) => match nkT p with
      | some k => .ok (.dat (.bool (n != (valN kvs k).isSome))) S1
      | none => .err
    | _, _ => .err
  | .nix i k, s, S => match dictAt S s[i]? with
    | some _ => (evE cf k s S).bind fun x S1 => match x, dictAt S1 s[i]? with
      | .dat p, some (_, kvs) => match nkT p with
        | some k => optD (valN kvs k) S1
        | none => .err
      | _, _ => .err
    | none => .err
  | .ngt i k d, s, S => match dictAt S s[i]? with
    | some _ => (evE cf k s S).bind fun x S1 => (evE cf d s S1).bind fun y S2 => match x, y, dictAt S2 s[i]? with
      | .dat p, .dat q, some (_, kvs) => match nkT p with
        | some k => .ok (.dat ((valN kvs k).getD q)) S2
        | none => .err
      | _, _, _ => .err
    | none => .err
  | .nks i, s, S => match dictAt S s[i]? with
    | some (l, kvs) => .ok (.dat (.list (kvs.map (·.1)))) (S.set l (.ndl kvs))
    | none => .err
  | .nit i, s, S => match dictAt S s[i]? with
    | some (l, kvs) => .ok (.dat (.list (kvs.map fun kv => .tuple [kv.1, kv.2]))) (S.set l (.ndl kvs))
    | none => .err
  | .bad, _, _ => .err
noncomputable def evL (cf : CallF) : List IE → Env → Store → Out (List Val)
  | [], _, S => .ok [] S
  | e :: es, s, S => (evE cf e s S).bind fun v S1 => (evL cf es s S1).bind fun vs S2 => .ok (v :: vs) S2
noncomputable def evAll (cf : CallF) : List IE → Env → Store → Out Bool
  | [], _, S => .ok true S
  | e :: es, s, S => (evE cf e s S).bind fun v S1 => match v with
    | .dat (.bool true) => evAll cf es s S1
    | .dat (.bool false) => .ok false S1
    | _ => .err
end
noncomputable def evT (cf : CallF) (e : IE) (s : Env) (S : Store) : Out Bool := (evE cf e s S).bind fun v S1 => opt (datb v) S1

inductive Fl where
  | nx (s : Env)
  | rt (v : Val)
noncomputable def forL (f : PyData → Env → Store → Out Fl) : List PyData → Env → Store → Out Fl
  | [], s, S => .ok (.nx s) S
  | x :: xs, s, S => (f x s S).bind fun r S1 => match r with
    | .nx s' => forL f xs s' S1
    | .rt v => .ok (.rt v) S1
noncomputable def whlN (c : Env → Store → Out Bool) (b : Env → Store → Out Fl) : Nat → Env → Store → Out Fl
  | 0, _, _ => .err
  | n + 1, s, S => (c s S).bind fun t S1 => if t = true then (b s S1).bind fun r S2 => match r with
    | .nx s' => whlN c b n s' S2
    | .rt v => .ok (.rt v) S2 else .ok (.nx s) S1
open Classical in
noncomputable def whlC (c : Env → Store → Out Bool) (b : Env → Store → Out Fl) (s : Env) (S : Store) : Out Fl :=
  if h : ∃ n, whlN c b n s S ≠ .err then whlN c b h.choose s S else .err
noncomputable def whl (W : Option Nat) (c : Env → Store → Out Bool) (b : Env → Store → Out Fl) (s : Env) (S : Store) : Out Fl := match W with
  | some n => whlN c b n s S
  | none => whlC c b s S
noncomputable def putFd (f : Nat) (v : Val) : List (Nat × Val) → List (Nat × Val)
  | [] => [(f, v)]
  | (g, x) :: r => if g = f then (g, v) :: r else (g, x) :: putFd f v r
mutual
noncomputable def asT (cf : CallF) : Tg → Val → Env → Store → Out Env
  | .nm i, v, s, S => if i < s.length then .ok (s.set i (some v)) S else .err
  | .fld o f, v, s, S => (evE cf o s S).bind fun x S1 => match x with
    | .ref l => match S1[l]? with
      | some (.ins c fs) => if fs.length < 50 then .ok s (S1.set l (.ins c (putFd f v fs))) else .err
      | _ => .err
    | _ => .err
  | .sub o i, v, s, S => (evE cf o s S).bind fun x S1 => (evE cf i s S1).bind fun y S2 => match x, y, v with
    | .ref l, .dat (.int k), .dat p => match S2[l]? with
      | some (.lst xs) => match L2.ixN xs.length k with
        | some j => .ok s (S2.set l (.lst (xs.set j p)))
        | none => .err
      | _ => .err
    | _, _, _ => .err
  | .tp ts, v, s, S => match v with
    | .dat (.tuple xs) => asTs cf ts (xs.map .dat) s S
    | _ => .err
noncomputable def asTs (cf : CallF) : List Tg → List Val → Env → Store → Out Env
  | [], [], s, S => .ok s S
  | t :: ts, v :: vs, s, S => (asT cf t v s S).bind fun s1 S1 => asTs cf ts vs s1 S1
  | _, _, _, _ => .err
end
mutual
noncomputable def evS (W : Option Nat) (cf : CallF) : IS → Env → Store → Out Fl
  | .asg t e, s, S => (evE cf e s S).bind fun v S1 => (asT cf t v s S1).bind fun s' S2 => .ok (.nx s') S2
  | .par ts es, s, S => (evL cf es s S).bind fun vs S1 => (asTs cf ts vs s S1).bind fun s' S2 => .ok (.nx s') S2
  | .exp e, s, S => (evE cf e s S).bind fun _ S1 => .ok (.nx s) S1
  | .app i e, s, S => match s[i]? with
    | some (some (.ref l)) => match S[l]? with
      | some (.lst _) => (evE cf e s S).bind fun v S1 => match v, S1[l]? with
        | .dat p, some (.lst xs) => if xs.length < sizeLine then .ok (.nx s) (S1.set l (.lst (xs ++ [p]))) else .err
        | _, _ => .err
      | _ => .err
    | _ => .err
  | .ext i e, s, S => match s[i]? with
    | some (some (.ref l)) => match S[l]? with
      | some (.lst _) => (evE cf e s S).bind fun v S1 => match v, S1[l]? with
        | .dat (.list ps), some (.lst xs) => if xs.length + ps.length ≤ sizeLine then .ok (.nx s) (S1.set l (.lst (xs ++ ps))) else .err
        | _, _ => .err
      | _ => .err
    | _ => .err
  | .ite c a b, s, S => (evT cf c s S).bind fun t S1 => if t = true then evSs W cf a s S1 else evSs W cf b s S1
  | .for_ pt it body, s, S => (itO (evE cf it s S)).bind fun xs S1 => forL (fun y s1 S2 => match bindPt pt (.dat y) s1 with
    | some s2 => evSs W cf body s2 S2
    | none => .err) xs s S1
  | .whl c body, s, S => whl W (evT cf c) (evSs W cf body) s S
  | .ret e, s, S => (evE cf e s S).bind fun v S1 => .ok (.rt v) S1
  | .rtn, _, S => .ok (.rt (.dat .none)) S
  | .rse c es, s, S => (evL cf es s S).bind fun vs S1 => match dats vs with
    | some ps => .exc c ps S1
    | none => .err
  | .tri body cs i h, s, S => match evSs W cf body s S with
    | .exc c fs S1 => if c ∈ cs ∧ i < s.length then (evSs W cf h (s.set i (some (.exn c fs))) S1).bind fun r S2 => match r with
      | .nx s' => .ok (.nx (s'.set i none)) S2
      | .rt v => .ok (.rt v) S2 else .exc c fs S1
    | o => o
  | .nop, s, S => .ok (.nx s) S
  | .dpt i k v, s, S => match s[i]? with
    | some (some (.ref l)) => (evE cf v s S).bind fun y S1 => (evE cf k s S1).bind fun x S2 => match x, y, S2[l]? with
      | .dat p, .dat q, some (.dic kvs) => match tkey p with
        | some k => if kvs.length < sizeLine then .ok (.nx s) (S2.set l (.dic (putT kvs p k q))) else .err
        | none => .err
      | _, _, _ => .err
    | _ => .err
  | .npt i k v, s, S => (evE cf v s S).bind fun x S1 => match dictAt S1 s[i]? with
    | some _ => (evE cf k s S1).bind fun y S2 => match s[i]? with
      | some (some (.ref l)) => match x, y, S2[l]? with
        | .dat q, .dat p, some (.nd kvs) => match nkT p with
          | some k => if kvs.length < sizeLine then .ok (.nx s) (S2.set l (.nd (putN kvs p k q))) else .err
          | none => .err
        | _, _, _ => .err
      | _ => .err
    | none => .err
  | .nup i j, s, S => match s[i]?, dictAt S s[j]? with
    | some (some (.ref l)), some (m, more) => match S[l]? with
      | some (.nd kvs) => if l ≠ m ∧ 0 < kvs.length ∧ kvs.length + more.length ≤ sizeLine then .ok (.nx s) (S.set l (.nd (putNs kvs more))) else .err
      | _ => .err
    | _, _ => .err
  | .nuc i j k, s, S => match s[i]?, dictAt S s[j]? with
    | some (some (.ref l)), some (m, more) => match S[l]? with
      | some (.nd kvs) => if k < s.length ∧ l ≠ m ∧ 0 < kvs.length ∧ kvs.length + more.length ≤ sizeLine then .ok (.nx s) ((S.set m (.ndl more)).set l (.nd (putNs kvs (putNs [] (more.map fun kv => (kv.1, .bool true)))))) else .err
      | _ => .err
    | _, _ => .err
  | .bad, _, _ => .err
noncomputable def evSs (W : Option Nat) (cf : CallF) : List IS → Env → Store → Out Fl
  | [], s, S => .ok (.nx s) S
  | t :: ts, s, S => (evS W cf t s S).bind fun r S1 => match r with
    | .nx s' => evSs W cf ts s' S1
    | .rt v => .ok (.rt v) S1
end
structure FD where
  n : Nat
  m : Nat
  body : List IS
noncomputable def below (n : Nat) : Val → Bool
  | .dat _ => true
  | .exn _ _ => true
  | .ref l => decide (l < n)
noncomputable def Ob.below (n : Nat) : Ob → Bool
  | .ins _ fs => fs.all fun p => IP.below n p.2
  | _ => true
noncomputable def leave (n : Nat) (v : Val) (S : Store) : Out Val :=
  if S.length = n then .ok v S else if below n v = true ∧ (S.take n).all (·.below n) = true then .ok v (S.take n) else .ok v S
noncomputable def callN (P : List (Option FD)) (W : Option Nat) : Nat → CallF
  | 0 => fun _ _ _ => .err
  | k + 1 => fun f vs S => match P[f]? with
    | some (some d) => if vs.length = d.n then (match evSs W (callN P W k) d.body (vs.map some ++ List.replicate (d.m - d.n) none) S with
      | .ok (.nx _) S' => leave S.length (.dat .none) S'
      | .ok (.rt v) S' => leave S.length v S'
      | .exc c fs S' => .exc c fs S'
      | .err => .err) else .err
    | _ => .err
end IP
namespace IP
open PySem PySem.Spec PyProof.Rows L2

/-! what of the program is known: the written part, the classes' addresses, the fields' names, how an exception lies -/
structure GC where
  K : PySem.W.Frag
  cls : Nat → Addr
  cok : Nat → Prop
  fnm : Nat → Str
  exr : Nat → List PyData → Value → Option Addr → Hp → Prop
  exv : Nat → List PyData → V → Prop
  tb : List (Addr × Str)
  w : World

noncomputable def keyD : Key → PyData
  | .inl i => .int i
  | .inr s => .str s
mutual
/-- a value that stands for data, all of which is settled -/
inductive Rp (K : PySem.W.Frag) (F : Addr → Prop) (H : Hp) : V → PyData → Prop
  | non : Rp K F H .non .none
  | bl (b : Bool) : Rp K F H (.bl b) (.bool b)
  | int (i : Int) : Rp K F H (.int i) (.int i)
  | str (x : Str) : Rp K F H (.str x) (.str x)
  | lst {a : Addr} {xs : List V} {ds : List PyData} : F a → H a = some (.lst xs) → RpL K F H xs ds → Rp K F H (.ref a) (.list ds)
  | tup {a : Addr} {xs : List V} {ds : List PyData} : F a → H a = some (.tup xs) → RpL K F H xs ds → Rp K F H (.ref a) (.tuple ds)
  | dic {a : Addr} {kvs : List (Key × V)} {ds : List (PyData × PyData)} : F a → H a = some (.dK kvs) → RpD K F H kvs ds → Rp K F H (.ref a) (.dict ds)
  | dit {a : Addr} {kvs : List (List Key × V)} {ds : List (PyData × PyData)} : F a → H a = some (.dT kvs) → RpT K F H kvs ds → Rp K F H (.ref a) (.dict ds)
inductive RpL (K : PySem.W.Frag) (F : Addr → Prop) (H : Hp) : List V → List PyData → Prop
  | nil : RpL K F H [] []
  | cons {v : V} {vs : List V} {d : PyData} {ds : List PyData} : Rp K F H v d → RpL K F H vs ds → RpL K F H (v :: vs) (d :: ds)
inductive RpD (K : PySem.W.Frag) (F : Addr → Prop) (H : Hp) : List (Key × V) → List (PyData × PyData) → Prop
  | nil : RpD K F H [] []
  | cons {k : Key} {v : V} {vs : List (Key × V)} {d : PyData} {ds : List (PyData × PyData)} : Rp K F H v d → RpD K F H vs ds → RpD K F H ((k, v) :: vs) ((keyD k, d) :: ds)
inductive RpT (K : PySem.W.Frag) (F : Addr → Prop) (H : Hp) : List (List Key × V) → List (PyData × PyData) → Prop
  | nil : RpT K F H [] []
  | cons {k : List Key} {v : V} {vs : List (List Key × V)} {d : PyData} {ds : List (PyData × PyData)} : Rp K F H v d → RpT K F H vs ds → RpT K F H ((k, v) :: vs) ((.tuple (k.map keyD), d) :: ds)
end

section
variable {K : PySem.W.Frag} {F F' : Addr → Prop} {H H' : Hp}
mutual
theorem Rp.mono (hF : ∀ a, F a → F' a) (hk : ∀ a o, F a → H a = some o → H' a = some o) : ∀ {v : V} {p : PyData}, Rp K F H v p → Rp K F' H' v p
  | _, _, .non => .non
  | _, _, .bl b => .bl b
  | _, _, .int i => .int i
  | _, _, .str x => .str x
  | _, _, .lst f e l => .lst (hF _ f) (hk _ _ f e) (RpL.mono hF hk l)
  | _, _, .tup f e l => .tup (hF _ f) (hk _ _ f e) (RpL.mono hF hk l)
  | _, _, .dic f e l => .dic (hF _ f) (hk _ _ f e) (RpD.mono hF hk l)
  | _, _, .dit f e l => .dit (hF _ f) (hk _ _ f e) (RpT.mono hF hk l)
theorem RpL.mono (hF : ∀ a, F a → F' a) (hk : ∀ a o, F a → H a = some o → H' a = some o) : ∀ {v : List V} {p : List PyData}, RpL K F H v p → RpL K F' H' v p
  | _, _, .nil => .nil
  | _, _, .cons r l => .cons (Rp.mono hF hk r) (RpL.mono hF hk l)
theorem RpD.mono (hF : ∀ a, F a → F' a) (hk : ∀ a o, F a → H a = some o → H' a = some o) : ∀ {v : List (Key × V)} {p : List (PyData × PyData)}, RpD K F H v p → RpD K F' H' v p
  | _, _, .nil => .nil
  | _, _, .cons r l => .cons (Rp.mono hF hk r) (RpD.mono hF hk l)
theorem RpT.mono (hF : ∀ a, F a → F' a) (hk : ∀ a o, F a → H a = some o → H' a = some o) : ∀ {v : List (List Key × V)} {p : List (PyData × PyData)}, RpT K F H v p → RpT K F' H' v p
  | _, _, .nil => .nil
  | _, _, .cons r l => .cons (Rp.mono hF hk r) (RpT.mono hF hk l)
end
theorem RpL.length : ∀ {v : List V} {p : List PyData}, RpL K F H v p → v.length = p.length
  | _, _, .nil => rfl
  | _, _, .cons _ l => by rw [List.length_cons, List.length_cons, RpL.length l]
theorem RpL.get : ∀ {v : List V} {p : List PyData} {i : Nat} {x : PyData}, RpL K F H v p → p[i]? = some x → ∃ w, v[i]? = some w ∧ Rp K F H w x
  | _, _, _, _, .nil, e => by simp at e
  | _, _, 0, _, .cons r _, e => by
    simp at e
    subst e
    exact ⟨_, rfl, r⟩
  | _, _, i + 1, x, .cons _ l, e => by
    obtain ⟨w, h1, h2⟩ := RpL.get (i := i) (x := x) l (by simpa using e)
    exact ⟨w, by simpa using h1, h2⟩
theorem RpL.getV : ∀ {v : List V} {p : List PyData} {i : Nat} {w : V}, RpL K F H v p → v[i]? = some w → ∃ x, p[i]? = some x ∧ Rp K F H w x
  | _, _, _, _, .nil, e => by simp at e
  | _, _, 0, _, .cons r _, e => by
    simp at e
    subst e
    exact ⟨_, rfl, r⟩
  | _, _, i + 1, x, .cons _ l, e => by
    obtain ⟨w, h1, h2⟩ := RpL.getV (i := i) (w := x) l (by simpa using e)
    exact ⟨w, by simpa using h1, h2⟩
theorem RpL.append : ∀ {v w : List V} {p q : List PyData}, RpL K F H v p → RpL K F H w q → RpL K F H (v ++ w) (p ++ q)
  | _, _, _, _, .nil, s => s
  | _, _, _, _, .cons r l, s => .cons r (RpL.append l s)
theorem RpL.take : ∀ {v : List V} {p : List PyData} (n : Nat), RpL K F H v p → RpL K F H (v.take n) (p.take n)
  | _, _, 0, _ => .nil
  | _, _, _ + 1, .nil => .nil
  | _, _, n + 1, .cons r l => .cons r (RpL.take n l)
theorem RpL.drop : ∀ {v : List V} {p : List PyData} (n : Nat), RpL K F H v p → RpL K F H (v.drop n) (p.drop n)
  | _, _, 0, r => r
  | _, _, _ + 1, .nil => .nil
  | _, _, n + 1, .cons _ l => RpL.drop n l
theorem RpL.set {w : V} {x : PyData} (r : Rp K F H w x) : ∀ {v : List V} {p : List PyData} (n : Nat), RpL K F H v p → RpL K F H (v.set n w) (p.set n x)
  | _, _, _, .nil => .nil
  | _, _, 0, .cons _ l => .cons r l
  | _, _, n + 1, .cons q l => .cons q (RpL.set r n l)
theorem RpL.reverse : ∀ {v : List V} {p : List PyData}, RpL K F H v p → RpL K F H v.reverse p.reverse
  | _, _, .nil => .nil
  | _, _, .cons r l => by
    rw [List.reverse_cons, List.reverse_cons]
    exact RpL.append (RpL.reverse l) (.cons r .nil)
theorem RpL.rep {v : List V} {p : List PyData} (r : RpL K F H v p) : ∀ n : Nat, RpL K F H (List.replicate n v).flatten (List.replicate n p).flatten
  | 0 => .nil
  | n + 1 => by
    rw [List.replicate_succ, List.replicate_succ, List.flatten_cons, List.flatten_cons]
    exact RpL.append r (RpL.rep r n)
theorem RpL.ints : ∀ ns : List Int, RpL K F H (ns.map V.int) (ns.map PyData.int)
  | [] => .nil
  | n :: ns => .cons (.int n) (RpL.ints ns)
theorem RpL.of_ints : ∀ {v : List V} {ns : List Int}, RpL K F H v (ns.map PyData.int) → v = ns.map V.int
  | _, [], .nil => rfl
  | _, n :: ns, .cons r l => by
    cases r
    rw [RpL.of_ints l]
    rfl
mutual
/-- as the library's deep data, where no dict is in it -/
theorem Rp.dp : ∀ {p : PyData} {v : V}, Rp K F H v p → p.hasDict = false → Dp K H v p
  | _, _, .non, _ => .non
  | _, _, .bl b, _ => .bl b
  | _, _, .int i, _ => .int i
  | _, _, .str x, _ => .str x
  | .list ds, _, .lst f e l, h => .lst (.inl (.inl e)) (RpL.dp l (by simpa only [PyData.hasDict] using h))
  | .tuple ds, _, .tup f e l, h => .tup (.inl (.inl e)) (RpL.dp l (by simpa only [PyData.hasDict] using h))
  | .dict ds, _, .dic _ _ _, h => by simp [PyData.hasDict] at h
  | .dict ds, _, .dit _ _ _, h => by simp [PyData.hasDict] at h
theorem RpL.dp : ∀ {p : List PyData} {v : List V}, RpL K F H v p → PyData.hasDictAll p = false → DpAll K H v p
  | _, _, .nil, _ => .nil
  | _ :: _, _, .cons r l, h => by
    simp only [PyData.hasDictAll, Bool.or_eq_false_iff] at h
    exact .cons (Rp.dp r h.1) (RpL.dp l h.2)
end
end

/-- neither a table of code objects nor one of these -/
structure Solid (u : HO) : Prop where
  nt : ∀ ps, u ≠ .tbl ps
  ne : ∀ c q, u ≠ LamX.CodeO c q
theorem solidN {u : HO} (h : ∀ φ, u ≠ .ext φ) (h' : ∀ ps, u ≠ HO.tbl ps) : Solid u := ⟨h', fun c q => h _⟩
/-! ### dicts whose keys are tuples of any depth -/
/-- entries -/
noncomputable def nEnts (w : World) (vs : List (NestedKey × Addr × Value)) : List DictEntry := vs.map fun x => ⟨x.1.hash w, .ref x.2.1, x.2.2⟩
noncomputable abbrev NP : List (NestedKey × Addr × V) → List (NestedKey × Addr × Value) → Prop := Paired fun p q => p.1 = q.1 ∧ p.2.1 = q.2.1 ∧ RelV p.2.2 q.2.2
noncomputable def nTo (w : World) (a : Addr) (xs : List (NestedKey × Addr × V)) (h : Heap) : Prop := xs.length ≤ sizeLine ∧ (a == sysModules) = false ∧ (xs.map (·.1)).Nodup ∧ ∃ vs, NP xs vs ∧ ∃ o es ep, h.get? a = some o ∧ o.ExactDict ∧ o.data = .dict es ep ∧ es.toList = nEnts w vs
/-- at a: such a dict, its keys at addresses -/
noncomputable def nT (w : World) (a : Addr) (xs : List (NestedKey × Addr × V)) : HO := .ext (nTo w a xs)
theorem nT_code {w : World} {a c : Addr} {xs : List (NestedKey × Addr × V)} {q : Str} : nT w a xs ≠ LamX.CodeO c q := fun z => by
  unfold nT LamX.CodeO at z
  have z := HO.ext.inj z
  obtain ⟨ob, hob⟩ : ∃ ob : Obj, ob = { cls := .none, data := .fields #[.none, .str q 0] } := ⟨_, rfl⟩
  obtain ⟨h, hh⟩ : ∃ h : Heap, h = ⟨Array.replicate (c + 1) ob, {}⟩ := ⟨_, rfl⟩
  have g : ∀ b o, h.get? b = some o → o = ob := fun b o e => by
    rw [hh, hob] at e
    unfold Heap.get? at e
    dsimp only at e
    cases k : (Array.replicate (c + 1) ({ cls := .none, data := .fields #[.none, .str q 0] } : Obj))[b]? with
    | none => rw [k] at e; cases e
    | some o2 =>
      have : o2 = { cls := .none, data := .fields #[.none, .str q 0] } := by
        obtain ⟨_, k2⟩ := Array.getElem?_eq_some_iff.mp k
        rw [← k2, Array.getElem_replicate]
      rw [k, this] at e
      cases e
      rw [hob]
  have gc : h.get? c = some ob := by
    rw [hh, hob]
    unfold Heap.get?
    dsimp only
    rw [Array.getElem?_replicate, if_pos (Nat.lt_succ_self c)]
  have r : (fun h : Heap => ∃ (oc : Obj) (vs : Array Value) (t : Tok), h.get? c = some oc ∧ oc.data = .fields vs ∧ vs[1]? = some (.str q t)) h := ⟨ob, #[.none, .str q 0], 0, gc, by rw [hob], rfl⟩
  rw [← z] at r
  obtain ⟨_, _, _, _, _, o, es, ep, h1, _, h2, _⟩ := r
  rw [g _ _ h1, hob] at h2
  cases h2
theorem nT_solid {w : World} {a : Addr} {xs : List (NestedKey × Addr × V)} : Solid (nT w a xs) := ⟨fun ps z => (nomatch (show HO.ext _ = HO.tbl ps from z)), fun c q => nT_code⟩
theorem frz_solid {o : Obj} {u : HO} : Solid (.frz o u) := ⟨fun ps z => (nomatch z), fun c q z => (nomatch (show HO.frz o u = HO.ext _ from z))⟩
section
variable (K : PySem.W.Frag) (F : Addr → Prop) (H : Hp)
inductive RpN : List (NestedKey × Addr × V) → List (PyData × PyData) → Prop
  | nil : RpN [] []
  | cons {k : NestedKey} {b : Addr} {v : V} {xs : List (NestedKey × Addr × V)} {p d : PyData} {ds : List (PyData × PyData)} : nkT p = some k → Rp K F H (.ref b) p → Rp K F H v d → RpN xs ds → RpN ((k, b, v) :: xs) ((p, d) :: ds)
end
theorem RpN.mono {K : PySem.W.Frag} {F F' : Addr → Prop} {H H' : Hp} (hF : ∀ a, F a → F' a) (hk : ∀ a o, F a → H a = some o → H' a = some o) : ∀ {xs : List (NestedKey × Addr × V)} {ds : List (PyData × PyData)}, RpN K F H xs ds → RpN K F' H' xs ds
  | _, _, .nil => .nil
  | _, _, .cons h r s l => .cons h (Rp.mono hF hk r) (Rp.mono hF hk s) (RpN.mono hF hk l)
/-! values, objects, the store -/
noncomputable def RV (G : GC) (F : Addr → Prop) (loc : Nat → Addr) (S : Store) (H : Hp) : Val → V → Prop
  | .dat p, w => Rp G.K F H w p
  | .ref l, w => w = .ref (loc l) ∧ l < S.length
  | .exn c fs, w => G.exv c fs w
inductive RVs (G : GC) (F : Addr → Prop) (loc : Nat → Addr) (S : Store) (H : Hp) : List Val → List V → Prop
  | nil : RVs G F loc S H [] []
  | cons {v : Val} {w : V} {vs : List Val} {ws : List V} : RV G F loc S H v w → RVs G F loc S H vs ws → RVs G F loc S H (v :: vs) (w :: ws)
inductive RFs (G : GC) (F : Addr → Prop) (loc : Nat → Addr) (S : Store) (H : Hp) : List (Nat × Val) → List (Str × V) → Prop
  | nil : RFs G F loc S H [] []
  | cons {f : Nat} {v : Val} {w : V} {vs : List (Nat × Val)} {ws : List (Str × V)} : RV G F loc S H v w → RFs G F loc S H vs ws → RFs G F loc S H ((f, v) :: vs) ((G.fnm f, w) :: ws)
noncomputable def alive : Ob → Bool
  | .dead => false
  | .ndl _ => false
  | _ => true
noncomputable def RO (G : GC) (F : Addr → Prop) (loc : Nat → Addr) (S : Store) (H : Hp) (a : Addr) : Ob → Prop
  | .lst ps => ∃ xs, H a = some (.lst xs) ∧ RpL G.K F H xs ps
  | .dic ps => ∃ kvs, H a = some (.dT kvs) ∧ RpT G.K F H kvs ps
  | .frz ps => ∃ o xs, H a = some (.frz o (.lst xs)) ∧ RpL G.K F H xs ps
  | .ins c fs => G.cok c ∧ ∃ dx ws, H a = some (.ins (G.cls c) dx ws) ∧ RFs G F loc S H fs ws
  | .nd ps => ∃ xs, H a = some (nT G.w a xs) ∧ RpN G.K F H xs ps
  | .ndl ps => F a ∧ ∃ o xs, H a = some (.frz o (nT G.w a xs)) ∧ RpN G.K F H xs ps
  | .dead => True
/-- not tracked, or a table of code objects -/
noncomputable def Fresh (H : Hp) (a : Addr) : Prop := H a = none ∨ ∃ ps, H a = some (.tbl ps)
theorem Fresh.ne {H : Hp} {a : Addr} {o : HO} (f : Fresh H a) (e : H a = some o) (n : ∀ ps, o ≠ .tbl ps) : False := by
  rcases f with f | ⟨ps, f⟩
  · rw [f] at e
    cases e
  · rw [f] at e
    cases e
    exact n ps rfl
theorem tabs_upd {T : List (Addr × Str)} {H : Hp} {a : Addr} {u o : HO} (t : LamX.Tabs T H) (e : H a = some u) (s : Solid u) : LamX.Tabs T (upd H a o) := fun p hp => by
  obtain ⟨ps, h1, h2, h3⟩ := t p hp
  have n1 : p.1 ≠ a := fun z => by
    rw [z, e] at h1
    cases h1
    exact s.nt ps rfl
  refine ⟨ps, by rw [upd_ne n1]; exact h1, h2, fun pos cv hc => ?_⟩
  obtain ⟨c, e1, e2⟩ := h3 pos cv hc
  have n2 : c ≠ a := fun z => by
    rw [z, e] at e2
    exact s.ne _ _ (Option.some.inj e2)
  exact ⟨c, e1, by rw [upd_ne n2]; exact e2⟩
structure SimS (G : GC) (F : Addr → Prop) (loc : Nat → Addr) (S : Store) (H : Hp) : Prop where
  dom : ∀ a, F a → H a ≠ none
  ob : ∀ l o, S[l]? = some o → RO G F loc S H (loc l) o
  inj : ∀ l l' o o', S[l]? = some o → S[l']? = some o' → alive o = true → alive o' = true → loc l = loc l' → l = l'
  sep : ∀ l o, S[l]? = some o → alive o = true → ¬ F (loc l)
  ntb : ∀ a ps, F a → H a ≠ some (.tbl ps)
  tabs : LamX.Tabs G.tb H
structure SimE (G : GC) (F : Addr → Prop) (loc : Nat → Addr) (S : Store) (H : Hp) (s : Env) (t : L2.St) : Prop where
  len : s.length = t.length
  at_ : ∀ (i : Nat) v, s[i]? = some (some v) → ∃ w, t[i]? = some (some w) ∧ RV G F loc S H v w
/-- a later state: what was settled stays, what is no object of the store stays, what is tracked is tracked, what is new in the store is new -/
structure Nxt (G : GC) (F : Addr → Prop) (loc : Nat → Addr) (S : Store) (H : Hp) (F' : Addr → Prop) (loc' : Nat → Addr) (S' : Store) (H' : Hp) : Prop where
  sub : ∀ a, F a → F' a
  keep : ∀ a o, F a → H a = some o → H' a = some o
  kp : ∀ a o, H a = some o → (∀ ps, o ≠ .tbl ps) → (∀ l u, S[l]? = some u → alive u = true → loc l ≠ a) → H' a = some o
  dom : ∀ a, Fresh H' a → Fresh H a
  fin : ∀ a, F' a → F a ∨ Fresh H a ∨ ∃ l u, S[l]? = some u ∧ alive u = true ∧ loc l = a
  loc : ∀ l, l < S.length → loc' l = loc l
  len : S.length ≤ S'.length
  neu : ∀ l u, S'[l]? = some u → alive u = true → (∃ u0, S[l]? = some u0 ∧ alive u0 = true) ∨ Fresh H (loc' l)
  sim : SimS G F' loc' S' H'

section
variable {G : GC} {F F1 F2 : Addr → Prop} {loc loc1 loc2 : Nat → Addr} {S S1 S2 : Store} {H H1 H2 : Hp}
theorem Nxt.refl (h : SimS G F loc S H) : Nxt G F loc S H F loc S H :=
  ⟨fun _ h => h, fun _ _ _ h => h, fun _ _ h _ _ => h, fun _ h => h, fun _ h => .inl h, fun _ _ => rfl, Nat.le_refl _, fun _ u e a => .inl ⟨u, e, a⟩, h⟩
theorem Nxt.trans (a : Nxt G F loc S H F1 loc1 S1 H1) (b : Nxt G F1 loc1 S1 H1 F2 loc2 S2 H2) : Nxt G F loc S H F2 loc2 S2 H2 := by
  refine ⟨fun x h => b.sub x (a.sub x h), fun x o h e => b.keep x o (a.sub x h) (a.keep x o h e), fun x o e nt n => b.kp x o (a.kp x o e nt n) nt fun l u h1 h2 q => ?_, fun x h => a.dom x (b.dom x h), fun x h => ?_,
    fun l h => (b.loc l (Nat.lt_of_lt_of_le h a.len)).trans (a.loc l h), Nat.le_trans a.len b.len, fun l u e al => ?_, b.sim⟩
  · rcases a.neu l u h1 h2 with ⟨u0, h3, h4⟩ | h3
    · exact n l u0 h3 h4 ((a.loc l (List.getElem?_eq_some_iff.mp h3).1).symm.trans q)
    · rw [q] at h3
      exact h3.ne e nt
  · rcases b.fin x h with h | h | ⟨l, u, h1, h2, rfl⟩
    · exact a.fin x h
    · exact .inr (.inl (a.dom x h))
    · rcases a.neu l u h1 h2 with ⟨u0, h3, h4⟩ | h3
      · exact .inr (.inr ⟨l, u0, h3, h4, (a.loc l (List.getElem?_eq_some_iff.mp h3).1).symm⟩)
      · exact .inr (.inl h3)
  · rcases b.neu l u e al with ⟨u1, h1, h2⟩ | h1
    · rcases a.neu l u1 h1 h2 with h3 | h3
      · exact .inl h3
      · refine .inr ?_
        rw [b.loc l (List.getElem?_eq_some_iff.mp h1).1]
        exact h3
    · exact .inr (a.dom _ h1)
theorem RV.next (n : Nxt G F loc S H F1 loc1 S1 H1) : ∀ {v : Val} {w : V}, RV G F loc S H v w → RV G F1 loc1 S1 H1 v w
  | .dat p, w, r => Rp.mono n.sub n.keep (show Rp G.K F H w p from r)
  | .ref l, w, ⟨e, h⟩ => ⟨by rw [n.loc l h]; exact e, Nat.lt_of_lt_of_le h n.len⟩
  | .exn c fs, w, r => r
theorem RVs.next (n : Nxt G F loc S H F1 loc1 S1 H1) : ∀ {v : List Val} {w : List V}, RVs G F loc S H v w → RVs G F1 loc1 S1 H1 v w
  | _, _, .nil => .nil
  | _, _, .cons r l => .cons (RV.next n r) (RVs.next n l)
theorem SimE.next (n : Nxt G F loc S H F1 loc1 S1 H1) {s : Env} {t : L2.St} (e : SimE G F loc S H s t) : SimE G F1 loc1 S1 H1 s t :=
  ⟨e.len, fun i v h => let ⟨w, h1, h2⟩ := e.at_ i v h; ⟨w, h1, h2.next n⟩⟩
theorem RVs.length : ∀ {v : List Val} {w : List V}, RVs G F loc S H v w → w.length = v.length
  | _, _, .nil => rfl
  | _, _, .cons _ l => by rw [List.length_cons, List.length_cons, RVs.length l]
end
section
variable {G : GC} {F F' : Addr → Prop} {loc loc' : Nat → Addr} {S S' : Store} {H H' : Hp}
theorem RV.shift (hF : ∀ a, F a → F' a) (hk : ∀ a o, F a → H a = some o → H' a = some o) (hl : ∀ l, l < S.length → loc' l = loc l) (hn : S.length ≤ S'.length) : ∀ {v : Val} {w : V}, RV G F loc S H v w → RV G F' loc' S' H' v w
  | .dat p, w, r => Rp.mono hF hk (show Rp G.K F H w p from r)
  | .ref l, w, ⟨e, h⟩ => ⟨by rw [hl l h]; exact e, Nat.lt_of_lt_of_le h hn⟩
  | .exn c fs, w, r => r
theorem RFs.shift (hF : ∀ a, F a → F' a) (hk : ∀ a o, F a → H a = some o → H' a = some o) (hl : ∀ l, l < S.length → loc' l = loc l) (hn : S.length ≤ S'.length) : ∀ {v : List (Nat × Val)} {w : List (Str × V)}, RFs G F loc S H v w → RFs G F' loc' S' H' v w
  | _, _, .nil => .nil
  | _, _, .cons r l => .cons (RV.shift hF hk hl hn r) (RFs.shift hF hk hl hn l)
theorem RO.shift (hF : ∀ a, F a → F' a) (hk : ∀ a o, F a → H a = some o → H' a = some o) (hl : ∀ l, l < S.length → loc' l = loc l) (hn : S.length ≤ S'.length) {a : Addr} (ha : ∀ o, H a = some o → H' a = some o) {o : Ob} (r : RO G F loc S H a o) : RO G F' loc' S' H' a o := by
  cases o with
  | lst ps =>
    obtain ⟨xs, e1, r1⟩ := r
    exact ⟨xs, ha _ e1, RpL.mono hF hk r1⟩
  | dic ps =>
    obtain ⟨xs, e1, r1⟩ := r
    exact ⟨xs, ha _ e1, RpT.mono hF hk r1⟩
  | frz ps =>
    obtain ⟨o, xs, e1, r1⟩ := r
    exact ⟨o, xs, ha _ e1, RpL.mono hF hk r1⟩
  | ins c fs =>
    obtain ⟨hc, dx, ws, e1, r1⟩ := r
    exact ⟨hc, dx, ws, ha _ e1, RFs.shift hF hk hl hn r1⟩
  | nd ps =>
    obtain ⟨xs, e1, r1⟩ := r
    exact ⟨xs, ha _ e1, RpN.mono hF hk r1⟩
  | ndl ps =>
    obtain ⟨f, o, xs, e1, r1⟩ := r
    exact ⟨hF _ f, o, xs, hk _ _ f e1, RpN.mono hF hk r1⟩
  | dead => exact True.intro
/-- what doesn't live asks nothing of its own object -/
theorem RO.shiftD (hF : ∀ a, F a → F' a) (hk : ∀ a o, F a → H a = some o → H' a = some o) {a : Addr} {o : Ob} (al : alive o = false) (r : RO G F loc S H a o) : RO G F' loc' S' H' a o := by
  cases o with
  | ndl ps =>
    obtain ⟨f, o, xs, e1, r1⟩ := r
    exact ⟨hF _ f, o, xs, hk _ _ f e1, RpN.mono hF hk r1⟩
  | dead => exact True.intro
  | _ => cases al
theorem RO.there {a : Addr} {o : Ob} (r : RO G F loc S H a o) (h : alive o = true) : H a ≠ none := by
  cases o with
  | lst ps => obtain ⟨xs, e1, _⟩ := r; rw [e1]; exact fun z => by cases z
  | dic ps => obtain ⟨xs, e1, _⟩ := r; rw [e1]; exact fun z => by cases z
  | frz ps => obtain ⟨o, xs, e1, _⟩ := r; rw [e1]; exact fun z => by cases z
  | ins c fs => obtain ⟨_, dx, ws, e1, _⟩ := r; rw [e1]; exact fun z => by cases z
  | nd ps => obtain ⟨xs, e1, _⟩ := r; rw [e1]; exact fun z => by cases z
  | ndl ps => cases h
  | dead => cases h
theorem RO.solid {a : Addr} {o : Ob} (r : RO G F loc S H a o) (h : alive o = true) : ∃ u, H a = some u ∧ Solid u := by
  cases o with
  | lst ps => obtain ⟨xs, e1, _⟩ := r; exact ⟨_, e1, solidN (fun _ z => (by cases z)) (fun _ z => (by cases z))⟩
  | dic ps => obtain ⟨xs, e1, _⟩ := r; exact ⟨_, e1, solidN (fun _ z => (by cases z)) (fun _ z => (by cases z))⟩
  | frz ps => obtain ⟨o, xs, e1, _⟩ := r; exact ⟨_, e1, solidN (fun _ z => (by cases z)) (fun _ z => (by cases z))⟩
  | ins c fs => obtain ⟨_, dx, ws, e1, _⟩ := r; exact ⟨_, e1, solidN (fun _ z => (by cases z)) (fun _ z => (by cases z))⟩
  | nd ps => obtain ⟨xs, e1, _⟩ := r; exact ⟨_, e1, nT_solid⟩
  | ndl ps => cases h
  | dead => cases h
/-- a new object laid, not settled yet -/
theorem Nxt.lay (h : SimS G F loc S H) {p : Addr} {o : HO} (hp : H p = none) : Nxt G F loc S H F loc S (upd H p o) := by
  have keep : ∀ a u, H a = some u → upd H p o a = some u := fun a u e => by
    rw [upd_ne (ne_of_none e hp)]
    exact e
  have at_ : ∀ a, a ≠ p → upd H p o a = H a := fun a n => upd_ne n
  have old : ∀ a, H a ≠ none → a ≠ p := fun a n z => n (by rw [z]; exact hp)
  have dom : ∀ a, Fresh (upd H p o) a → Fresh H a := fun a e => by
    by_cases q : a = p
    · rw [q]
      exact .inl hp
    · unfold Fresh at e
      rw [at_ a q] at e
      exact e
  refine ⟨fun _ f => f, fun a o _ e => keep a o e, fun a o e _ _ => keep a o e, dom, fun _ f => .inl f, fun _ _ => rfl, Nat.le_refl _, fun _ u e a => .inl ⟨u, e, a⟩, ⟨fun a f z => ?_, fun m x e => ?_, h.inj, h.sep, fun a ps f z => ?_, h.tabs.ext keep⟩⟩
  · rw [at_ a (old a (h.dom a f))] at z
    exact h.dom a f z
  rotate_left
  · rw [at_ a (old a (h.dom a f))] at z
    exact h.ntb a ps f z
  exact RO.shift (fun _ f => f) (fun a o _ e => keep a o e) (fun _ _ => rfl) (Nat.le_refl _) (fun o e => keep _ o e) (h.ob m x e)
/-- what is new since the start and nothing else knows is settled -/
theorem Nxt.keepsF {F1 : Addr → Prop} {loc1 : Nat → Addr} {S1 : Store} {H1 : Hp} (n : Nxt G F loc S H F1 loc1 S1 H1) {a : Addr} (h0 : Fresh H a) (ha : ∃ u, H1 a = some u ∧ Solid u) (hl : ∀ l o, S1[l]? = some o → alive o = true → loc1 l ≠ a) : Nxt G F loc S H (fun b => F1 b ∨ b = a) loc1 S1 H1 := by
  have h := n.sim
  refine ⟨fun _ f => .inl (n.sub _ f), n.keep, n.kp, n.dom, fun b f => ?_, n.loc, n.len, n.neu, ⟨fun b f => ?_, fun m x e => ?_, h.inj, fun m x e am f => ?_, fun b ps f => ?_, h.tabs⟩⟩
  · rcases f with f | f
    · exact n.fin b f
    · rw [f]; exact .inr (.inl h0)
  · rcases f with f | f
    · exact h.dom b f
    · obtain ⟨u, e1, _⟩ := ha
      rw [f, e1]; exact fun z => by cases z
  · exact RO.shift (fun _ f => .inl f) (fun _ _ _ e => e) (fun _ _ => rfl) (Nat.le_refl _) (fun _ e => e) (h.ob m x e)
  · rcases f with f | f
    · exact h.sep m x e am f
    · exact hl m x e am f
  · rcases f with f | f
    · exact h.ntb b ps f
    · obtain ⟨u, e1, s⟩ := ha
      rw [f, e1]
      exact fun z => s.nt ps (Option.some.inj z)
/-- what is new since the start and nothing else knows is changed -/
theorem Nxt.priv {F1 : Addr → Prop} {loc1 : Nat → Addr} {S1 : Store} {H1 : Hp} (n : Nxt G F loc S H F1 loc1 S1 H1) {a : Addr} {o u1 : HO} (h0 : Fresh H a) (hF : ¬ F1 a) (hl : ∀ l o, S1[l]? = some o → alive o = true → loc1 l ≠ a) (e1 : H1 a = some u1) (s1 : Solid u1) (so : Solid o) : Nxt G F loc S H F1 loc1 S1 (upd H1 a o) := by
  have h := n.sim
  have k1 : ∀ b u, F1 b → H1 b = some u → upd H1 a o b = some u := fun b u f e => by
    rw [upd_ne (fun z => hF (by rw [← z]; exact f))]
    exact e
  have dom : ∀ b, Fresh (upd H1 a o) b → Fresh H b := fun b e => by
    by_cases q : b = a
    · rw [q]
      exact h0
    · unfold Fresh at e
      rw [upd_ne q] at e
      exact n.dom b e
  have nFa : ∀ b, F1 b → b ≠ a := fun b f z => hF (by rw [← z]; exact f)
  refine ⟨n.sub, fun b u f e => k1 b u (n.sub b f) (n.keep b u f e), fun b u e nt nl => ?_, dom, n.fin, n.loc, n.len, n.neu, ⟨fun b f e => ?_, fun m x e => ?_, h.inj, h.sep, fun b ps f e => ?_, tabs_upd h.tabs e1 s1⟩⟩
  · rw [upd_ne (fun z => by rw [z] at e; exact h0.ne e nt)]
    exact n.kp b u e nt nl
  · rw [upd_ne (nFa b f)] at e
    exact h.dom b f e
  rotate_left
  · rw [upd_ne (nFa b f)] at e
    exact h.ntb b ps f e
  · cases q : alive x with
    | false => exact RO.shiftD (fun _ f => f) k1 q (h.ob m x e)
    | true =>
      refine RO.shift (fun _ f => f) k1 (fun _ _ => rfl) (Nat.le_refl _) (fun u e' => ?_) (h.ob m x e)
      rw [upd_ne (hl m x e q)]
      exact e'
/-- what is tracked and no object of the store stays apart from it -/
theorem Nxt.apart {F1 : Addr → Prop} {loc1 : Nat → Addr} {S1 : Store} {H1 : Hp} (n : Nxt G F loc S H F1 loc1 S1 H1) {a : Addr} {o : HO} (e : H a = some o) (nt : ∀ ps, o ≠ .tbl ps) (hF : ¬ F a) (hl : ∀ l o, S[l]? = some o → alive o = true → loc l ≠ a) :
    H1 a = some o ∧ ¬ F1 a ∧ ∀ l o, S1[l]? = some o → alive o = true → loc1 l ≠ a := by
  refine ⟨n.kp a o e nt hl, fun f => ?_, fun l u h1 h2 q => ?_⟩
  · rcases n.fin a f with f | f | ⟨l, u, h1, h2, h3⟩
    · exact hF f
    · exact f.ne e nt
    · exact hl l u h1 h2 h3
  · rcases n.neu l u h1 h2 with ⟨u0, h3, h4⟩ | h3
    · exact hl l u0 h3 h4 ((n.loc l (List.getElem?_eq_some_iff.mp h3).1).symm.trans q)
    · rw [q] at h3
      exact h3.ne e nt
/-- a new settled object -/
theorem Nxt.new (h : SimS G F loc S H) {p : Addr} {o : HO} (hp : H p = none) (so : Solid o := by exact solidN (fun _ z => (by cases z)) (fun _ z => (by cases z))) : Nxt G F loc S H (fun a => F a ∨ a = p) loc S (upd H p o) := by
  have n := Nxt.lay (o := o) h hp
  exact Nxt.keepsF n (.inl hp) ⟨o, upd_same, so⟩ fun l u e al q => (h.ob l u e).there al (by rw [q]; exact hp)
end
/-! ### the readings -/
noncomputable def Post {A : Type} {B : Type} (G : GC) (R : (Addr → Prop) → (Nat → Addr) → Store → Hp → A → B → Prop) (W : WX) (t : L2.St) (F : Addr → Prop) (loc : Nat → Addr) (S : Store) (H : Hp) (o : Out A) (Q : B → Hp → Prop) : Prop := match o with
  | .ok v S' => ∀ w F' loc' H', Nxt G F loc S H F' loc' S' H' → R F' loc' S' H' v w → Q w H'
  | .exc c fs S' => ∀ cv d F' loc' H', Nxt G F loc S H F' loc' S' H' → G.exr c fs cv d H' → W cv d t H'
  | .err => False
noncomputable abbrev PostV (G : GC) := Post (A := Val) (B := V) G (fun F loc S H v w => RV G F loc S H v w)
noncomputable abbrev PostL (G : GC) := Post (A := List Val) (B := List V) G (fun F loc S H v w => RVs G F loc S H v w)
noncomputable abbrev PostB (G : GC) := Post (A := Bool) (B := Bool) G (fun _ _ _ _ v w => v = w)
noncomputable def rdE (G : GC) (W : WX) (cf : CallF) (e : IE) : TE := fun t H Q => ∃ F loc s S, SimS G F loc S H ∧ SimE G F loc S H s t ∧ PostV G W t F loc S H (evE cf e s S) Q
noncomputable def rdL (G : GC) (W : WX) (cf : CallF) (es : List IE) : TA := fun t H Q => ∃ F loc s S, SimS G F loc S H ∧ SimE G F loc S H s t ∧ PostL G W t F loc S H (evL cf es s S) Q
noncomputable def rdT (G : GC) (W : WX) (cf : CallF) (e : IE) : TT := fun t H Q => ∃ F loc s S, SimS G F loc S H ∧ SimE G F loc S H s t ∧ PostB G W t F loc S H (evT cf e s S) Q
section
variable {A B C D : Type} {G : GC} {R : (Addr → Prop) → (Nat → Addr) → Store → Hp → A → B → Prop} {R' : (Addr → Prop) → (Nat → Addr) → Store → Hp → C → D → Prop} {W : WX} {t : L2.St} {F F1 : Addr → Prop} {loc loc1 : Nat → Addr} {S S1 : Store} {H H1 : Hp}
theorem Post.step {o : Out A} {Q : B → Hp → Prop} (n : Nxt G F loc S H F1 loc1 S1 H1) (p : Post G R W t F loc S H o Q) : Post G R W t F1 loc1 S1 H1 o Q := by
  cases o with
  | ok v S' => exact fun w F' loc' H' m r => p w F' loc' H' (n.trans m) r
  | exc c fs S' => exact fun cv d F' loc' H' m r => p cv d F' loc' H' (n.trans m) r
  | err => exact p
theorem Post.bind {o : Out A} {f : A → Store → Out C} {Q : D → Hp → Prop} {Q1 : B → Hp → Prop} (p : Post G R' W t F loc S H (o.bind f) Q)
    (k : ∀ v S1 w F1 loc1 H1, Nxt G F loc S H F1 loc1 S1 H1 → R F1 loc1 S1 H1 v w → Post G R' W t F1 loc1 S1 H1 (f v S1) Q → Q1 w H1) : Post G R W t F loc S H o Q1 := by
  cases o with
  | ok v S' => exact fun w F' loc' H' m r => k v S' w F' loc' H' m r (Post.step m p)
  | exc c fs S' => exact p
  | err => exact p
theorem Post.weak {o : Out A} {Q Q1 : B → Hp → Prop} (p : Post G R W t F loc S H o Q) (k : ∀ w H1, Q w H1 → Q1 w H1) : Post G R W t F loc S H o Q1 := by
  cases o with
  | ok v S' => exact fun w F' loc' H' m r => k _ _ (p w F' loc' H' m r)
  | exc c fs S' => exact p
  | err => exact p
end
section
variable {X : Cx} {e : Expr} {es : List Expr}
theorem PEmon {t t' : TE} (h : PE X e t) (m : ∀ s H Q, t' s H Q → t s H Q) : PE X e t' := ⟨fun pins s σ H Q I q => h.run pins s σ H Q I (m _ _ _ q)⟩
theorem PTmon {t t' : TT} (h : PT X e t) (m : ∀ s H Q, t' s H Q → t s H Q) : PT X e t' := ⟨fun pins s σ H Q I q => h.run pins s σ H Q I (m _ _ _ q)⟩
theorem PWmon {t t' : TT} (h : PW X e t) (m : ∀ s H Q, t' s H Q → t s H Q) : PW X e t' := ⟨fun wh pins s σ H Q I q => h.run wh pins s σ H Q I (m _ _ _ q)⟩
theorem PAmon {t t' : TA} (h : PA X es t) (m : ∀ s H Q, t' s H Q → t s H Q) : PA X es t' := ⟨fun pos pins s σ H Q I q => h.run pos pins s σ H Q I (m _ _ _ q)⟩
end
end IP
namespace IP
open PySem PySem.Spec PyProof.Rows L2

section
variable {G : GC} {F : Addr → Prop} {loc : Nat → Addr} {S : Store} {H : Hp} {x : Val} {w : V}
theorem look_ref {l : Nat} {p : PyData} (e : lookF S (.ref l) = some p) : (∃ xs, S[l]? = some (.lst xs) ∧ p = .list xs) ∨ (∃ xs, S[l]? = some (.dic xs) ∧ p = .dict xs) ∨ (∃ xs, S[l]? = some (.frz xs) ∧ p = .list xs) := by
  simp only [lookF] at e
  cases h : S[l]? with
  | none => rw [h] at e; cases e
  | some o =>
    rw [h] at e
    cases o with
    | lst xs => cases e; exact .inl ⟨_, rfl, rfl⟩
    | dic xs => cases e; exact .inr (.inl ⟨_, rfl, rfl⟩)
    | frz xs => cases e; exact .inr (.inr ⟨_, rfl, rfl⟩)
    | ins c fs => cases e
    | nd _ => cases e
    | ndl _ => cases e
    | dead => cases e
theorem look_F {p : PyData} (e : look S x = some p) : lookF S x = some p := by
  cases x with
  | dat q => exact e
  | exn c fs => cases e
  | ref l =>
    simp only [look] at e
    simp only [lookF]
    cases h : S[l]? with
    | none => rw [h] at e; cases e
    | some o =>
      rw [h] at e
      cases o with
      | lst xs => exact e
      | dic xs => exact e
      | frz xs => cases e
      | ins c fs => cases e
      | nd _ => cases e
      | ndl _ => cases e
      | dead => cases e
theorem look_lst {ps : List PyData} (h : SimS G F loc S H) (r : RV G F loc S H x w) (e : look S x = some (.list ps)) : ∃ a xs, w = .ref a ∧ H a = some (.lst xs) ∧ RpL G.K F H xs ps := by
  cases x with
  | dat p =>
    cases e
    have r : Rp G.K F H w (.list ps) := r
    cases r with
    | lst f e l => exact ⟨_, _, rfl, e, l⟩
  | ref l =>
    obtain ⟨rfl, hl⟩ := r
    simp only [look] at e
    cases q : S[l]? with
    | none => rw [q] at e; cases e
    | some o =>
      rw [q] at e
      cases o with
      | lst xs =>
        cases e
        obtain ⟨vs, h3, h4⟩ := h.ob l _ q
        exact ⟨_, vs, rfl, h3, h4⟩
      | dic xs => cases e
      | frz xs => cases e
      | ins c fs => cases e
      | nd _ => cases e
      | ndl _ => cases e
      | dead => cases e
  | exn c fs => cases e
theorem look_list {ps : List PyData} (h : SimS G F loc S H) (r : RV G F loc S H x w) (e : lookF S x = some (.list ps)) : ∃ a xs, w = .ref a ∧ Rd H a (.lst xs) ∧ RpL G.K F H xs ps := by
  cases x with
  | dat p =>
    cases e
    have r : Rp G.K F H w (.list ps) := r
    cases r with
    | lst f e l => exact ⟨_, _, rfl, .inl e, l⟩
  | ref l =>
    obtain ⟨rfl, hl⟩ := r
    rcases look_ref e with ⟨xs, h1, h2⟩ | ⟨xs, h1, h2⟩ | ⟨xs, h1, h2⟩
    · cases h2
      obtain ⟨vs, h3, h4⟩ := h.ob l _ h1
      exact ⟨_, vs, rfl, .inl h3, h4⟩
    · cases h2
    · cases h2
      obtain ⟨o, vs, h3, h4⟩ := h.ob l _ h1
      exact ⟨_, vs, rfl, .inr ⟨o, h3⟩, h4⟩
  | exn c fs => cases e
theorem look_tup {ps : List PyData} (h : SimS G F loc S H) (r : RV G F loc S H x w) (e : lookF S x = some (.tuple ps)) : ∃ a xs, w = .ref a ∧ SqT G.K H a xs ∧ RpL G.K F H xs ps := by
  cases x with
  | dat p =>
    cases e
    have r : Rp G.K F H w (.tuple ps) := r
    cases r with
    | tup f e l => exact ⟨_, _, rfl, .inl (.inl e), l⟩
  | ref l => rcases look_ref e with ⟨xs, h1, h2⟩ | ⟨xs, h1, h2⟩ | ⟨xs, h1, h2⟩ <;> cases h2
  | exn c fs => cases e
theorem look_int {i : Int} (r : RV G F loc S H x w) (e : lookF S x = some (.int i)) : w = .int i := by
  cases x with
  | dat p =>
    cases e
    have r : Rp G.K F H w (.int i) := r
    cases r
    rfl
  | ref l => rcases look_ref e with ⟨xs, h1, h2⟩ | ⟨xs, h1, h2⟩ | ⟨xs, h1, h2⟩ <;> cases h2
  | exn c fs => cases e
theorem look_bool {i : Bool} (r : RV G F loc S H x w) (e : lookF S x = some (.bool i)) : w = .bl i := by
  cases x with
  | dat p =>
    cases e
    have r : Rp G.K F H w (.bool i) := r
    cases r
    rfl
  | ref l => rcases look_ref e with ⟨xs, h1, h2⟩ | ⟨xs, h1, h2⟩ | ⟨xs, h1, h2⟩ <;> cases h2
  | exn c fs => cases e
theorem look_str {i : Str} (r : RV G F loc S H x w) (e : lookF S x = some (.str i)) : w = .str i := by
  cases x with
  | dat p =>
    cases e
    have r : Rp G.K F H w (.str i) := r
    cases r
    rfl
  | ref l => rcases look_ref e with ⟨xs, h1, h2⟩ | ⟨xs, h1, h2⟩ | ⟨xs, h1, h2⟩ <;> cases h2
  | exn c fs => cases e
/-- deep data of what is looked at -/
theorem look_dp {p : PyData} (h : SimS G F loc S H) (r : RV G F loc S H x w) (e : lookF S x = some p) (hd : p.hasDict = false) : Dp G.K H w p := by
  cases x with
  | dat q =>
    cases e
    exact Rp.dp (show Rp G.K F H w p from r) hd
  | ref l =>
    obtain ⟨rfl, hl⟩ := r
    rcases look_ref e with ⟨xs, h1, h2⟩ | ⟨xs, h1, h2⟩ | ⟨xs, h1, h2⟩
    · subst h2
      obtain ⟨vs, h3, h4⟩ := h.ob l _ h1
      exact .lst (.inl (.inl h3)) (RpL.dp h4 (by simpa only [PyData.hasDict] using hd))
    · subst h2
      simp [PyData.hasDict] at hd
    · subst h2
      obtain ⟨o, vs, h3, h4⟩ := h.ob l _ h1
      exact .lst (.inl (.inr ⟨o, h3⟩)) (RpL.dp h4 (by simpa only [PyData.hasDict] using hd))
  | exn c fs => cases e
theorem hasDict_shaped {p : PyData} (h : SeqAt.shaped p = true) : p.hasDict = false := PyData.hasDict_of_canLay p (SeqAt.canLay_of_shaped h)
theorem dats_rp : ∀ {vs : List Val} {ws : List V} {ps : List PyData}, RVs G F loc S H vs ws → dats vs = some ps → RpL G.K F H ws ps
  | _, _, _, .nil, e => by
    cases e
    exact .nil
  | .dat p :: vs, _, ps, .cons (w := w) r l, e => by
    unfold dats at e
    cases q : dats vs with
    | none => rw [q] at e; cases e
    | some qs =>
      rw [q] at e
      cases e
      exact .cons (show Rp G.K F H w p from r) (dats_rp l q)
  | .ref _ :: _, _, _, .cons _ _, e => by cases e
  | .exn _ _ :: _, _, _, .cons _ _, e => by cases e
end

/-! ### operators on values -/
section
variable {X : Cx}
theorem rd_get {pins : List (Addr × Obj)} {s : Shared} {t : L2.St} {H : Hp} {a : Addr} {xs : List V} (I : Inv X pins t H s) (h : Rd H a (.lst xs)) : xs.length ≤ sizeLine ∧ ∃ (its : List Value) (n : Nat), Vals xs its ∧ xs.length = its.length ∧ s.heap.get? a = some { cls := .type "list", data := .seq its.toArray n } := by
  obtain ⟨z, its, n, r, e⟩ := h.ok I.hok
  exact ⟨z, its, n, r, r.length, e⟩
noncomputable def rCatR : R2 := fun x y H Q => ∃ l b xs zs, x = .ref l ∧ y = .ref b ∧ Rd H l (.lst xs) ∧ Rd H b (.lst zs) ∧ xs.length + zs.length ≤ sizeLine ∧ ∀ p, H p = none → Q (.ref p) (upd H p (.lst (xs ++ zs)))
theorem op_catR : OpR X (binaryOp .Add) rCatR := by
  intro pins s σ H x y v u Q I rx ry h
  obtain ⟨l, b, xs, zs, rfl, rfl, hH, hB, hz, q⟩ := h
  cases rx
  cases ry
  obtain ⟨z, its, n, r, hl, e⟩ := rd_get I hH
  obtain ⟨z2, its2, n2, r2, hl2, e2⟩ := rd_get I hB
  refine PySem.P.add_list e e2 ?_ (by rw [List.size_toArray, List.size_toArray]; omega)
  have ea : its.toArray ++ its2.toArray = (its ++ its2).toArray := by simp
  rw [ea]
  exact ⟨.ref _, _, I.lnew (t' := s.toks) (r.append r2) (by rw [List.length_append]; omega), rfl, q _ I.fresh⟩
theorem op_fdvG : OpR X (binaryOp .FloorDiv) (rI (fun _ j => j ≠ 0 ∧ j.natAbs.log2 < 9000) fun i j => .int (i.fdiv j)) := opI fun i j _ _ _ _ _ hc q =>
  floordiv_int hc.1 q (.inl (PyProof.noPylong_of_log2 hc.2))

/-- what an operator does, by data: the new value is a list or a tuple at a new place, or a flat one, or one of both -/
noncomputable def rDat (K : PySem.W.Frag) (lk : Store → Val → Option PyData) (f : PyData → PyData → Option PyData) : R2 := fun x y H Q => ∃ G F loc S a b p q r, G.K = K ∧ SimS G F loc S H ∧ RV G F loc S H a x ∧ RV G F loc S H b y ∧ lk S a = some p ∧ lk S b = some q ∧ f p q = some r ∧
  ∀ w F' loc' H', Nxt G F loc S H F' loc' S H' → Rp G.K F' H' w r → Q w H'
end
section
variable {K : PySem.W.Frag} {G : GC} {F : Addr → Prop} {loc : Nat → Addr} {S : Store} {H : Hp}
theorem new_lst {Q : V → Hp → Prop} {ps : List PyData} {xs : List V} (h : SimS G F loc S H) (r : RpL G.K F H xs ps) (k : ∀ w F' loc' H', Nxt G F loc S H F' loc' S H' → Rp G.K F' H' w (.list ps) → Q w H') {p : Addr} (hp : H p = none) : Q (.ref p) (upd H p (.lst xs)) := by
  have n := Nxt.new (o := .lst xs) h hp
  exact k _ _ _ _ n (.lst (.inr rfl) upd_same (RpL.mono n.sub n.keep r))
theorem new_tup {Q : V → Hp → Prop} {ps : List PyData} {xs : List V} (h : SimS G F loc S H) (r : RpL G.K F H xs ps) (k : ∀ w F' loc' H', Nxt G F loc S H F' loc' S H' → Rp G.K F' H' w (.tuple ps) → Q w H') {p : Addr} (hp : H p = none) : Q (.ref p) (upd H p (.tup xs)) := by
  have n := Nxt.new (o := .tup xs) h hp
  exact k _ _ _ _ n (.tup (.inr rfl) upd_same (RpL.mono n.sub n.keep r))
theorem look_tupR {x : Val} {w : V} {ps : List PyData} (h : SimS G F loc S H) (r : RV G F loc S H x w) (e : lookF S x = some (.tuple ps)) : Rp G.K F H w (.tuple ps) := by
  cases x with
  | dat p => cases e; exact r
  | ref l => rcases look_ref e with ⟨xs, h1, h2⟩ | ⟨xs, h1, h2⟩ | ⟨xs, h1, h2⟩ <;> cases h2
  | exn c fs => cases e
end
section
variable {X : Cx}
/-- the six operators -/
theorem op_add_d : OpR X (binaryOp .Add) (rDat X.K (lookO .add) (binP .add)) := by
  intro pins s σ H x y v u Q I rx ry h
  have base := OpR.or (OpR.or (op_add (X := X)) op_add_str) (OpR.or op_catR op_catA)
  refine base pins s σ H x y v u Q I rx ry ?_
  obtain ⟨G, F, loc, S, a, b, p, q, r, hK, hS, ra, rb, la, lb, e, k⟩ := h
  cases p with
  | int i =>
    cases q with
    | int j =>
      cases e
      rw [look_int ra la, look_int rb lb]
      exact .inl (.inl ⟨i, j, rfl, rfl, k _ _ _ _ (.refl hS) (.int _)⟩)
    | _ => cases e
  | str i =>
    cases q with
    | str j =>
      simp only [binP] at e
      split at e
      · rename_i hl
        cases e
        rw [look_str ra la, look_str rb lb]
        exact .inl (.inr ⟨i, j, rfl, rfl, hl, k _ _ _ _ (.refl hS) (.str _)⟩)
      · cases e
    | _ => cases e
  | list ps =>
    cases q with
    | list qs =>
      simp only [binP] at e
      split at e
      · rename_i hl
        cases e
        obtain ⟨l, xs, rfl, h1, h2⟩ := look_list hS ra la
        obtain ⟨m, ys, rfl, h3, h4⟩ := look_list hS rb lb
        refine .inr (.inl ⟨l, m, xs, ys, rfl, rfl, h1, h3, by rw [h2.length, h4.length]; exact hl, fun p hp => ?_⟩)
        exact new_lst hS (h2.append h4) k hp
      · cases e
    | int j => simp only [binP] at e; cases e
    | _ => cases e
  | tuple ps =>
    cases q with
    | tuple qs =>
      simp only [binP] at e
      split at e
      · rename_i hl
        cases e
        have t1 := look_tupR hS ra la
        have t2 := look_tupR hS rb lb
        obtain ⟨l, xs, rfl, h1, h2⟩ := look_tup hS ra la
        obtain ⟨m, ys, rfl, h3, h4⟩ := look_tup hS rb lb
        refine .inr (.inr ⟨l, m, xs, ys, rfl, rfl, hK ▸ h1, hK ▸ h3, by rw [h2.length, h4.length]; exact hl, fun e => ?_, fun _ e => ?_, fun _ _ p hp => ?_⟩)
        · subst e
          cases h2
          exact k _ _ _ _ (.refl hS) t2
        · subst e
          cases h4
          rw [List.append_nil] at k
          exact k _ _ _ _ (.refl hS) t1
        · exact new_tup hS (h2.append h4) k hp
      · cases e
    | int j => simp only [binP] at e; cases e
    | _ => cases e
  | _ => cases q <;> cases e
theorem int_only {op : BK} {p q r : PyData} (h1 : op ≠ .add) (h2 : op ≠ .mul) (e : binP op p q = some r) : ∃ i j, p = .int i ∧ q = .int j := by
  cases p <;> cases q <;> first
    | exact ⟨_, _, rfl, rfl⟩
    | (cases op <;> first | exact absurd rfl h1 | exact absurd rfl h2 | cases e)
theorem op_sub_d : OpR X (binaryOp .Sub) (rDat X.K (lookO .sub) (binP .sub)) := by
  intro pins s σ H x y v u Q I rx ry h
  refine op_sub pins s σ H x y v u Q I rx ry ?_
  obtain ⟨G, F, loc, S, a, b, p, q, r, hK, hS, ra, rb, la, lb, e, k⟩ := h
  obtain ⟨i, j, rfl, rfl⟩ := int_only (by decide) (by decide) e
  cases e
  rw [look_int ra la, look_int rb lb]
  exact ⟨i, j, rfl, rfl, k _ _ _ _ (.refl hS) (.int _)⟩
theorem op_fdv_d : OpR X (binaryOp .FloorDiv) (rDat X.K (lookO .fdv) (binP .fdv)) := by
  intro pins s σ H x y v u Q I rx ry h
  refine op_fdvG pins s σ H x y v u Q I rx ry ?_
  obtain ⟨G, F, loc, S, a, b, p, q, r, hK, hS, ra, rb, la, lb, e, k⟩ := h
  obtain ⟨i, j, rfl, rfl⟩ := int_only (by decide) (by decide) e
  simp only [binP] at e
  split at e
  · rename_i hd
    cases e
    unfold divOk at hd
    rw [Bool.and_eq_true] at hd
    rw [look_int ra la, look_int rb lb]
    exact ⟨i, j, rfl, rfl, ⟨of_decide_eq_true hd.1, of_decide_eq_true hd.2⟩, k _ _ _ _ (.refl hS) (.int _)⟩
  · cases e
theorem op_mod_d : OpR X (binaryOp .Mod) (rDat X.K (lookO .mod) (binP .mod)) := by
  intro pins s σ H x y v u Q I rx ry h
  refine op_modN pins s σ H x y v u Q I rx ry ?_
  obtain ⟨G, F, loc, S, a, b, p, q, r, hK, hS, ra, rb, la, lb, e, k⟩ := h
  obtain ⟨i, j, rfl, rfl⟩ := int_only (by decide) (by decide) e
  simp only [binP] at e
  split at e
  · rename_i hd
    cases e
    rw [look_int ra la, look_int rb lb]
    exact ⟨i, j, rfl, rfl, hd, k _ _ _ _ (.refl hS) (.int _)⟩
  · cases e
theorem op_pow_d : OpR X (binaryOp .Pow) (rDat X.K (lookO .pow) (binP .pow)) := by
  intro pins s σ H x y v u Q I rx ry h
  refine op_pow pins s σ H x y v u Q I rx ry ?_
  obtain ⟨G, F, loc, S, a, b, p, q, r, hK, hS, ra, rb, la, lb, e, k⟩ := h
  obtain ⟨i, j, rfl, rfl⟩ := int_only (by decide) (by decide) e
  simp only [binP] at e
  split at e
  · rename_i hd
    cases e
    rw [look_int ra la, look_int rb lb]
    exact ⟨i, j, rfl, rfl, hd, k _ _ _ _ (.refl hS) (.int _)⟩
  · cases e
/-! a tuple so often, where it is the same one, or none -/
theorem mul_same (l : Addr) (its : Array Value) (n : Nat) (dd : Option Addr) (sl : Array (Option Value)) (k : Int) (u : Tok) (c0 : (decide (k < -(2 ^ 63)) || decide (k ≥ 2 ^ 63)) = false) (c1 : (its.isEmpty || k == 1) = true) :
    Meets (Builtin.«tuple.__mul__» ⟨[.ref l, .int k u], []⟩) (fun _ R s => s.heap.get? l = some { cls := .type "tuple", dict := dd, data := .seq its n, slots := sl } ∧ R (.ok (.ret (.ref l))) s) :=
  .of_wp fun prog w A R s h => by
    obtain ⟨hp, gs, d, tk, os⟩ := s
    obtain ⟨hl, h⟩ := h
    have f1 := AutoSeq1.idx_int
    wp_walk using AutoSeq1.wpAny_loadPart' hl
    repeat (first
      | (refine wpAny_ite_false (decide_eq_false (by rw [c0]; exact Bool.false_ne_true)) ?_; wp_walk using AutoSeq1.wpAny_loadPart' hl)
      | (refine wpAny_ite_true (decide_eq_true c1) ?_; wp_walk using AutoSeq1.wpAny_loadPart' hl))
    exact ⟨_, rfl, h⟩
theorem mul_none (l : Addr) (its : Array Value) (n : Nat) (dd : Option Addr) (sl : Array (Option Value)) (k : Int) (u : Tok) (c0 : (decide (k < -(2 ^ 63)) || decide (k ≥ 2 ^ 63)) = false) (c1 : (its.isEmpty || k == 1) = false) (c2 : (decide (k ≤ 0) || its.isEmpty) = true) :
    Meets (Builtin.«tuple.__mul__» ⟨[.ref l, .int k u], []⟩) (fun _ R s => s.heap.get? l = some { cls := .type "tuple", dict := dd, data := .seq its n, slots := sl } ∧
      R (.ok (.ret (.ref s.heap.objs.size))) { s with heap := s.heap.push { cls := .type "tuple", data := .seq #[] }, toks := s.toks }) :=
  .of_wp fun prog w A R s h => by
    obtain ⟨hp, gs, d, tk, os⟩ := s
    obtain ⟨hl, h⟩ := h
    have f1 := AutoSeq1.idx_int
    wp_walk using AutoSeq1.wpAny_loadPart' hl
    repeat (first
      | (refine wpAny_ite_false (decide_eq_false (by rw [c0]; exact Bool.false_ne_true)) ?_; wp_walk using AutoSeq1.wpAny_loadPart' hl)
      | (refine wpAny_ite_false (decide_eq_false (by rw [c1]; exact Bool.false_ne_true)) ?_; wp_walk using AutoSeq1.wpAny_loadPart' hl)
      | (refine wpAny_ite_true (decide_eq_true c2) ?_; wp_walk using AutoSeq1.wpAny_loadPart' hl))
    exact ⟨_, rfl, h⟩
noncomputable def rRep1 (K : PySem.W.Frag) : R2 := fun x y H Q => ∃ l k xs, x = .ref l ∧ y = .int k ∧ SqT K H l xs ∧ -1000 ≤ k ∧ k ≤ 1000 ∧ (xs = [] ∨ k = 1) ∧ Q (.ref l) H
noncomputable def rRep0 (K : PySem.W.Frag) : R2 := fun x y H Q => ∃ l k xs, x = .ref l ∧ y = .int k ∧ SqT K H l xs ∧ xs ≠ [] ∧ -1000 ≤ k ∧ k ≤ 0 ∧ ∀ p, H p = none → Q (.ref p) (upd H p (.tup []))
theorem op_rep1 : OpR X (binaryOp .Mult) (rRep1 X.K) := by
  intro pins s σ H x y v u Q I rx ry h
  obtain ⟨l, k, xs, rfl, rfl, hT, h1, h2, h3, q⟩ := h
  cases rx
  obtain ⟨t, rfl⟩ := ry
  obtain ⟨its, r, ⟨⟨cls, dd, data, sl⟩, ho, hc, n, hd⟩, hs⟩ := I.tuple hT
  simp only at hc hd
  subst hc hd
  have hle : its.length = xs.length := r.length.symm
  have c0 : (decide (k < -(2 ^ 63)) || decide (k ≥ 2 ^ 63)) = false := by
    rw [decide_eq_false (by omega), decide_eq_false (by omega)] <;> rfl
  have c1 : (its.toArray.isEmpty || k == 1) = true := by
    rcases h3 with h3 | h3
    · subst h3
      rw [List.eq_nil_of_length_eq_zero hle]
      rfl
    · subst h3
      simp
  refine wpAny_binaryOp_repeat_ref (T := "tuple") (U := "int") (by decide) ⟨_, ho, rfl⟩ (fun s' => typeIs_int s' k t) noFill_tuple_mul F.fills_int_mul F.slot_int_rmul repeat_tuple F.slot_int_index.lookup ?_
  refine call_meets F.slot_int_rmul (typeIs_int s k t) F.entry_int_rmul (F.args_int_rmul_2 _ _) (int_rmul_tuple k t l its.toArray n dd sl) ⟨ho, rfl, ⟨_, ho, rfl⟩, ?_⟩
  refine call_meets F.slot_tuple_mul ⟨_, ho, rfl⟩ F.entry_tuple_mul (F.args_tuple_mul_2 _ _) (mul_same l its.toArray n dd sl k t c0 c1) ⟨ho, ?_⟩
  exact ⟨.ref l, _, I, rfl, q⟩
theorem op_rep0 : OpR X (binaryOp .Mult) (rRep0 X.K) := by
  intro pins s σ H x y v u Q I rx ry h
  obtain ⟨l, k, xs, rfl, rfl, hT, hne, h1, h2, q⟩ := h
  cases rx
  obtain ⟨t, rfl⟩ := ry
  obtain ⟨its, r, ⟨⟨cls, dd, data, sl⟩, ho, hc, n, hd⟩, hs⟩ := I.tuple hT
  simp only at hc hd
  subst hc hd
  have hle : its.length = xs.length := r.length.symm
  have hn : its ≠ [] := fun e => hne (by
    rw [e] at hle
    exact List.eq_nil_of_length_eq_zero hle.symm)
  have hi : its.toArray.isEmpty = false := by
    cases its with
    | nil => exact absurd rfl hn
    | cons a b => rfl
  have c0 : (decide (k < -(2 ^ 63)) || decide (k ≥ 2 ^ 63)) = false := by
    rw [decide_eq_false (by omega), decide_eq_false (by omega)] <;> rfl
  have c1 : (its.toArray.isEmpty || k == 1) = false := by
    rw [hi, Bool.false_or]
    exact beq_eq_false_iff_ne.mpr (by omega)
  have c2 : (decide (k ≤ 0) || its.toArray.isEmpty) = true := by
    rw [decide_eq_true h2]
    rfl
  refine wpAny_binaryOp_repeat_ref (T := "tuple") (U := "int") (by decide) ⟨_, ho, rfl⟩ (fun s' => typeIs_int s' k t) noFill_tuple_mul F.fills_int_mul F.slot_int_rmul repeat_tuple F.slot_int_index.lookup ?_
  refine call_meets F.slot_int_rmul (typeIs_int s k t) F.entry_int_rmul (F.args_int_rmul_2 _ _) (int_rmul_tuple k t l its.toArray n dd sl) ⟨ho, rfl, ⟨_, ho, rfl⟩, ?_⟩
  refine call_meets F.slot_tuple_mul ⟨_, ho, rfl⟩ F.entry_tuple_mul (F.args_tuple_mul_2 _ _) (mul_none l its.toArray n dd sl k t c0 c1 c2) ⟨ho, ?_⟩
  refine ⟨.ref s.heap.objs.size, _, I.laid (t' := s.toks) (o := .tup []) (fun b ob q => Heap.get?_push_of_some _ q) (Nat.le_refl _) ?_, rfl, q _ (I.hok.fresh (Nat.le_refl _))⟩
  exact ⟨Nat.zero_le _, _, .nil, IsTup.new _ _⟩
theorem op_mul_d : OpR X (binaryOp .Mult) (rDat X.K (lookO .mul) (binP .mul)) := by
  intro pins s σ H x y v u Q I rx ry h
  have base := OpR.or (op_mulW (X := X)) (OpR.or (OpR.or op_repT (OpR.or op_rep1 op_rep0)) op_rep)
  refine base pins s σ H x y v u Q I rx ry ?_
  obtain ⟨G, F, loc, S, a, b, p, q, r, hK, hS, ra, rb, la, lb, e, k⟩ := h
  cases p with
  | int i =>
    cases q with
    | int j =>
      simp only [binP] at e
      split at e
      · rename_i hd
        cases e
        rw [look_int ra (look_F la), look_int rb (look_F lb)]
        refine .inl ⟨i, j, rfl, rfl, ?_, k _ _ _ _ (.refl hS) (.int _)⟩
        unfold mulOk at hd
        have hd := of_decide_eq_true hd
        exact hd
      · cases e
    | _ => cases e
  | tuple ps =>
    cases q with
    | int j =>
      simp only [binP] at e
      split at e
      · rename_i hd
        cases e
        have tw := look_tupR hS ra (look_F la)
        obtain ⟨l, xs, rfl, h1, h2⟩ := look_tup hS ra (look_F la)
        rw [look_int rb (look_F lb)]
        by_cases e0 : xs = []
        · subst e0
          cases h2
          have ez : (List.replicate j.toNat ([] : List PyData)).flatten = [] := by simp
          rw [ez] at k
          exact .inr (.inl (.inr (.inl ⟨l, j, [], rfl, rfl, hK ▸ h1, hd.1, hd.2.1, .inl rfl, k _ _ _ _ (.refl hS) tw⟩)))
        by_cases e1 : j = 1
        · subst e1
          have ez : (List.replicate (Int.toNat 1) ps).flatten = ps := by simp
          rw [ez] at k
          exact .inr (.inl (.inr (.inl ⟨l, 1, xs, rfl, rfl, hK ▸ h1, hd.1, hd.2.1, .inr rfl, k _ _ _ _ (.refl hS) tw⟩)))
        by_cases e2 : j ≤ 0
        · have ez : (List.replicate j.toNat ps).flatten = [] := by
            rw [show j.toNat = 0 by omega]
            rfl
          rw [ez] at k
          exact .inr (.inl (.inr (.inr ⟨l, j, xs, rfl, rfl, hK ▸ h1, e0, hd.1, e2, fun p hp => new_tup hS .nil k hp⟩)))
        exact .inr (.inl (.inl ⟨l, j, xs, rfl, rfl, hK ▸ h1, e0, by omega, hd.2.1, by rw [h2.length]; exact hd.2.2, fun p hp => new_tup hS (h2.rep _) k hp⟩))
      · cases e
    | tuple qs => simp only [binP] at e; cases e
    | _ => cases e
  | list ps =>
    cases q with
    | int j =>
      simp only [binP] at e
      split at e
      · rename_i hd
        cases e
        obtain ⟨l, xs, rfl, h1, h2⟩ := look_lst hS ra la
        rw [look_int rb (look_F lb)]
        exact .inr (.inr ⟨l, j, xs, rfl, rfl, h1, hd.1, hd.2.1, by rw [h2.length]; exact hd.2.2, fun p hp => new_lst hS (h2.rep _) k hp⟩)
      · cases e
    | list qs => simp only [binP] at e; cases e
    | _ => cases e
  | str i => cases q <;> simp only [binP] at e <;> cases e
  | _ => cases q <;> cases e
end
end IP
namespace IP
open PySem PySem.Spec PyProof.Rows L2

/-! ### comparisons on values -/
section
variable {K : PySem.W.Frag} {F : Addr → Prop} {H : Hp}
theorem flat_V {w : V} {p : PyData} (r : Rp K F H w p) (h : flatP p = true) : flatV w = true := by
  cases r <;> first | rfl | cases h
theorem flat_Vs : ∀ {w : List V} {p : List PyData}, RpL K F H w p → p.all flatP = true → w.all flatV = true
  | _, _, .nil, _ => rfl
  | _, _, .cons r l, h => by
    rw [List.all_cons, Bool.and_eq_true] at h
    rw [List.all_cons, Bool.and_eq_true]
    exact ⟨flat_V r h.1, flat_Vs l h.2⟩
theorem flat_eq {v w : V} {p q : PyData} (r : Rp K F H v p) (s : Rp K F H w q) (h : flatP p = true) (h' : flatP q = true) : eqV v w = PyData.eqv p q := by
  cases r <;> cases s <;> first
    | (cases h; done)
    | (cases h'; done)
    | (simp only [eqV, PyData.eqv]; done)
    | (simp [eqV, PyData.eqv]; done)
theorem flat_in {x : V} {p : PyData} (r : Rp K F H x p) (h : flatP p = true) : ∀ {w : List V} {q : List PyData}, RpL K F H w q → q.all flatP = true → inV x w = q.any fun y => PyData.eqv y p
  | _, _, .nil, _ => rfl
  | _, _, .cons s l, h' => by
    rw [List.all_cons, Bool.and_eq_true] at h'
    have ih := flat_in r h l h'.2
    unfold inV at ih ⊢
    rw [List.any_cons, List.any_cons, ih, flat_eq s r h'.1 h]
end
section
variable {G : GC} {F : Addr → Prop} {loc : Nat → Addr} {S : Store} {H : Hp}
theorem look_flat {x : Val} {w : V} {p : PyData} (r : RV G F loc S H x w) (e : lookF S x = some p) (h : flatP p = true) : Rp G.K F H w p := by
  cases x with
  | dat q => cases e; exact r
  | ref l => rcases look_ref e with ⟨xs, h1, h2⟩ | ⟨xs, h1, h2⟩ | ⟨xs, h1, h2⟩ <;> (subst h2; cases h)
  | exn c fs => cases e
end
section
variable {X : Cx}
/-- a comparison, by data -/
noncomputable def rCmp (K : PySem.W.Frag) (f : PyData → PyData → Option Bool) : R2 := fun x y H Q => ∃ G F loc S a b p q r, G.K = K ∧ SimS G F loc S H ∧ RV G F loc S H a x ∧ RV G F loc S H b y ∧ lookF S a = some p ∧ lookF S b = some q ∧ f p q = some r ∧ Q (.bl r) H
theorem eqP_of {a b : PyData} {r : Bool} (e : eqP a b = some r) : (∃ i j, a = .int i ∧ b = .int j ∧ r = decide (i = j)) ∨ (∃ x y, a = .str x ∧ b = .str y ∧ r = decide (x = y)) ∨ (SeqAt.shaped a = true ∧ SeqAt.shaped b = true ∧ PyData.eqv a b = r) := by
  unfold eqP at e
  split at e
  · exact .inl ⟨_, _, rfl, rfl, (Option.some.inj e).symm⟩
  · exact .inr (.inl ⟨_, _, rfl, rfl, (Option.some.inj e).symm⟩)
  · split at e
    · rename_i h
      exact .inr (.inr ⟨h.1, h.2, Option.some.inj e⟩)
    · cases e
theorem int_dec {i j : Int} : decide (V.int i = V.int j) = decide (i = j) := by
  rw [Bool.eq_iff_iff]
  simp
theorem str_dec {x y : Str} : decide (V.str x = V.str y) = decide (x = y) := by
  rw [Bool.eq_iff_iff]
  simp
theorem inP_of {x y : PyData} {r : Bool} (e : inP x y = some r) : (∃ ys, (y = .list ys ∨ y = .tuple ys) ∧ flatP x = true ∧ ys.all flatP = true ∧ r = ys.any fun z => PyData.eqv z x) ∨ ∃ a b, x = .str a ∧ y = .str b ∧ r = !(Builtin.Str.occurrences b a 0 b.length 1).isEmpty := by
  unfold inP at e
  split at e
  · split at e
    · rename_i h
      exact .inl ⟨_, .inl rfl, h.1, h.2, (Option.some.inj e).symm⟩
    · cases e
  · split at e
    · rename_i h
      exact .inl ⟨_, .inr rfl, h.1, h.2, (Option.some.inj e).symm⟩
    · cases e
  · exact .inr ⟨_, _, rfl, rfl, (Option.some.inj e).symm⟩
  · cases e
theorem ord_ints {op : CK} {a b : PyData} {r : Bool} (h : op = .lt ∨ op = .le ∨ op = .gt ∨ op = .ge) (e : cmpP op a b = some r) : ∃ i j, a = .int i ∧ b = .int j := by
  rcases h with rfl | rfl | rfl | rfl <;> (simp only [cmpP] at e; split at e <;> first | exact ⟨_, _, rfl, rfl⟩ | cases e)
theorem cmp_lt_d : OpR X (compareOp .Lt) (rCmp X.K (cmpP .lt)) := by
  intro pins s σ H x y v u Q I rx ry h
  refine op_lt pins s σ H x y v u Q I rx ry ?_
  obtain ⟨G, F, loc, S, a, b, p, q, r, hK, hS, ra, rb, la, lb, e, k⟩ := h
  obtain ⟨i, j, rfl, rfl⟩ := ord_ints (by simp) e
  cases e
  rw [look_int ra la, look_int rb lb]
  exact ⟨i, j, rfl, rfl, k⟩
theorem cmp_le_d : OpR X (compareOp .LtE) (rCmp X.K (cmpP .le)) := by
  intro pins s σ H x y v u Q I rx ry h
  refine op_le pins s σ H x y v u Q I rx ry ?_
  obtain ⟨G, F, loc, S, a, b, p, q, r, hK, hS, ra, rb, la, lb, e, k⟩ := h
  obtain ⟨i, j, rfl, rfl⟩ := ord_ints (by simp) e
  cases e
  rw [look_int ra la, look_int rb lb]
  exact ⟨i, j, rfl, rfl, k⟩
theorem cmp_gt_d : OpR X (compareOp .Gt) (rCmp X.K (cmpP .gt)) := by
  intro pins s σ H x y v u Q I rx ry h
  refine op_gt pins s σ H x y v u Q I rx ry ?_
  obtain ⟨G, F, loc, S, a, b, p, q, r, hK, hS, ra, rb, la, lb, e, k⟩ := h
  obtain ⟨i, j, rfl, rfl⟩ := ord_ints (by simp) e
  cases e
  rw [look_int ra la, look_int rb lb]
  exact ⟨i, j, rfl, rfl, k⟩
theorem cmp_ge_d : OpR X (compareOp .GtE) (rCmp X.K (cmpP .ge)) := by
  intro pins s σ H x y v u Q I rx ry h
  refine op_ge pins s σ H x y v u Q I rx ry ?_
  obtain ⟨G, F, loc, S, a, b, p, q, r, hK, hS, ra, rb, la, lb, e, k⟩ := h
  obtain ⟨i, j, rfl, rfl⟩ := ord_ints (by simp) e
  cases e
  rw [look_int ra la, look_int rb lb]
  exact ⟨i, j, rfl, rfl, k⟩
noncomputable def rEqT0 (K : PySem.W.Frag) : R2 := fun x y H Q => ∃ a xs b, x = .ref a ∧ SqT K H a xs ∧ y = .ref b ∧ SqT K H b [] ∧ Q (.bl xs.isEmpty) H
theorem op_eqT0 (hu : X.A.units + 64 < cLine) : OpR X (compareOp .Eq) (rEqT0 X.K) := by
  intro pins s σ H x y v u Q I rx ry h
  obtain ⟨a, xs, b, rfl, h1, rfl, h2, q⟩ := h
  cases rx
  cases ry
  obtain ⟨its, rv, ⟨o, ho, hc, n, hd⟩, _⟩ := I.tuple h1
  obtain ⟨its2, rv2, ⟨o2, ho2, hc2, n2, hd2⟩, _⟩ := I.tuple h2
  cases rv2
  refine SeqAt.eq_tupleAt (items := its.toArray) (items2 := ([] : List Value).toArray) (e := fun _ => true) ⟨o, ho, hc, n, hd⟩ ⟨o2, ho2, hc2, n2, hd2⟩ (by omega) (fun j _ h2 => by simp at h2) ?_
  refine ⟨.bl xs.isEmpty, H, I, ?_, q⟩
  show Value.bool _ = Value.bool _
  congr 1
  cases rv <;> simp
theorem cmp_eq_d (hu : X.A.units + 64 < cLine) : OpR X (compareOp .Eq) (rCmp X.K (cmpP .eq)) := by
  intro pins s σ H x y v u Q I rx ry h
  refine OpR.or (OpR.or op_eq (op_eqD hu)) (op_eqT0 hu) pins s σ H x y v u Q I rx ry ?_
  obtain ⟨G, F, loc, S, a, b, p, q, r, hK, hS, ra, rb, la, lb, e, k⟩ := h
  simp only [cmpP] at e
  cases qe : eqP p q with
  | some r' =>
    rw [qe] at e
    cases e
    refine .inl ?_
    rcases eqP_of qe with ⟨i, j, rfl, rfl, rfl⟩ | ⟨c, d, rfl, rfl, rfl⟩ | ⟨h1, h2, rfl⟩
    · rw [look_int ra la, look_int rb lb]
      refine .inl ⟨rfl, ?_⟩
      rw [int_dec]
      exact k
    · have r1 := look_flat ra la rfl
      have r2 := look_flat rb lb rfl
      cases r1
      cases r2
      refine .inl ⟨rfl, ?_⟩
      rw [str_dec]
      exact k
    · rw [← hK]
      exact .inr ⟨p, q, look_dp hS ra la (hasDict_shaped h1), look_dp hS rb lb (hasDict_shaped h2), h1, h2, k⟩
  | none =>
    rw [qe] at e
    refine .inr ?_
    have e2 : eqT0 p q = some r := e
    clear e
    unfold eqT0 at e2
    split at e2
    · rename_i xs
      cases e2
      obtain ⟨a1, us, rfl, s1, l1⟩ := look_tup hS ra la
      obtain ⟨b1, vs, rfl, s2, l2⟩ := look_tup hS rb lb
      cases l2
      refine ⟨a1, us, b1, rfl, hK ▸ s1, rfl, hK ▸ s2, ?_⟩
      have : us.isEmpty = xs.isEmpty := by cases l1 <;> rfl
      rw [this]
      exact k
    · cases e2
theorem cmp_ne_d (hu : X.A.units + 64 < cLine) : OpR X (compareOp .NotEq) (rCmp X.K (cmpP .ne)) := by
  intro pins s σ H x y v u Q I rx ry h
  refine OpR.or op_ne (op_neD hu) pins s σ H x y v u Q I rx ry ?_
  obtain ⟨G, F, loc, S, a, b, p, q, r, hK, hS, ra, rb, la, lb, e, k⟩ := h
  simp only [cmpP, Option.map_eq_some_iff] at e
  obtain ⟨r', e, rfl⟩ := e
  rcases eqP_of e with ⟨i, j, rfl, rfl, rfl⟩ | ⟨c, d, rfl, rfl, rfl⟩ | ⟨h1, h2, rfl⟩
  · rw [look_int ra la, look_int rb lb]
    refine .inl ⟨rfl, ?_⟩
    rw [int_dec]
    exact k
  · have r1 := look_flat ra la rfl
    have r2 := look_flat rb lb rfl
    cases r1
    cases r2
    refine .inl ⟨rfl, ?_⟩
    rw [str_dec]
    exact k
  · rw [← hK]
    exact .inr ⟨p, q, look_dp hS ra la (hasDict_shaped h1), look_dp hS rb lb (hasDict_shaped h2), h1, h2, k⟩
theorem in_seq {G : GC} {F : Addr → Prop} {loc : Nat → Addr} {S : Store} {H : Hp} {b : Val} {y : V} {ys : List PyData} {q : PyData} (hS : SimS G F loc S H) (rb : RV G F loc S H b y) (lb : lookF S b = some q) (hq : q = .list ys ∨ q = .tuple ys) :
    ∃ p xs, y = .ref p ∧ (SqL G.K H p xs ∨ SqT G.K H p xs) ∧ RpL G.K F H xs ys := by
  rcases hq with rfl | rfl
  · obtain ⟨a, xs, rfl, h1, h2⟩ := look_list hS rb lb
    exact ⟨a, xs, rfl, .inl (.inl h1), h2⟩
  · obtain ⟨a, xs, rfl, h1, h2⟩ := look_tup hS rb lb
    exact ⟨a, xs, rfl, .inr h1, h2⟩
theorem cmp_in_d : OpR X (compareOp .In) (rCmp X.K (cmpP .inn)) := by
  intro pins s σ H x y v u Q I rx ry h
  refine OpR.or op_in_seq op_in_str pins s σ H x y v u Q I rx ry ?_
  obtain ⟨G, F, loc, S, a, b, p, q, r, hK, hS, ra, rb, la, lb, e, k⟩ := h
  rw [← hK]
  rcases inP_of e with ⟨ys, hq, h1, h2, rfl⟩ | ⟨c, d, rfl, rfl, rfl⟩
  · obtain ⟨p', xs, rfl, h3, h4⟩ := in_seq hS rb lb hq
    have rp := look_flat ra la h1
    refine .inl ⟨p', xs, rfl, h3, flat_V rp h1, flat_Vs h4 h2, ?_⟩
    rw [if_neg Bool.false_ne_true, flat_in rp h1 h4 h2]
    exact k
  · rw [look_str ra la, look_str rb lb]
    exact .inr ⟨c, d, rfl, rfl, k⟩
theorem cmp_nin_d : OpR X (compareOp .NotIn) (rCmp X.K (cmpP .nin)) := by
  intro pins s σ H x y v u Q I rx ry h
  refine OpR.or op_notIn_seq op_notin_str pins s σ H x y v u Q I rx ry ?_
  obtain ⟨G, F, loc, S, a, b, p, q, r, hK, hS, ra, rb, la, lb, e, k⟩ := h
  rw [← hK]
  simp only [cmpP, Option.map_eq_some_iff] at e
  obtain ⟨r', e, rfl⟩ := e
  rcases inP_of e with ⟨ys, hq, h1, h2, rfl⟩ | ⟨c, d, rfl, rfl, rfl⟩
  · obtain ⟨p', xs, rfl, h3, h4⟩ := in_seq hS rb lb hq
    have rp := look_flat ra la h1
    refine .inl ⟨p', xs, rfl, h3, flat_V rp h1, flat_Vs h4 h2, ?_⟩
    rw [if_pos rfl, flat_in rp h1 h4 h2]
    exact k
  · rw [look_str ra la, look_str rb lb]
    exact .inr ⟨c, d, rfl, rfl, k⟩
end

/-! ### expressions -/
section
variable {X : Cx} {G : GC} {W : WX} {cf : CallF} {a b c : Expr} {ia ib ic : IE} {pos : Pos} {es : List Expr} {ies : List IE}
theorem E_var {i : Nat} {x : Str} (hN : X.N[i]? = some x) (hv : Vis X.env.scope x) (hd : (x == ("__debug__" : Str)) = false) (hcd : (x == ("__classdict__" : Str)) = false) : PE X (.Name x pos) (rdE G W cf (.var i)) := by
  refine PEmon (pe_var hN hv hd hcd) ?_
  rintro t H Q ⟨F, loc, s, S, hS, hE, p⟩
  simp only [evE] at p
  cases h : s[i]? with
  | none => rw [h] at p; exact False.elim p
  | some o =>
    cases o with
    | none => rw [h] at p; exact False.elim p
    | some v =>
      rw [h] at p
      obtain ⟨w, h1, r⟩ := hE.at_ i v h
      exact ⟨w, h1, p w F loc H (.refl hS) r⟩
theorem E_cint {i : Int} {j} : PE X (.Constant (.int i) j pos) (rdE G W cf (.cst (.int i))) := by
  refine PEmon pe_int ?_
  rintro t H Q ⟨F, loc, s, S, hS, hE, p⟩
  simp only [evE] at p
  exact p _ _ _ _ (.refl hS) (show Rp _ _ _ _ _ from .int i)
theorem E_cstr {i : Str} {j} : PE X (.Constant (.str i) j pos) (rdE G W cf (.cst (.str i))) := by
  refine PEmon pe_str ?_
  rintro t H Q ⟨F, loc, s, S, hS, hE, p⟩
  simp only [evE] at p
  exact p _ _ _ _ (.refl hS) (show Rp _ _ _ _ _ from .str i)
theorem E_cbl {i : Bool} {j} : PE X (.Constant (.bool i) j pos) (rdE G W cf (.cst (.bool i))) := by
  refine PEmon pe_bl ?_
  rintro t H Q ⟨F, loc, s, S, hS, hE, p⟩
  simp only [evE] at p
  exact p _ _ _ _ (.refl hS) (show Rp _ _ _ _ _ from .bl i)
theorem E_cnon {j} : PE X (.Constant .none j pos) (rdE G W cf (.cst .none)) := by
  refine PEmon pe_non ?_
  rintro t H Q ⟨F, loc, s, S, hS, hE, p⟩
  simp only [evE] at p
  exact p _ _ _ _ (.refl hS) (show Rp _ _ _ _ _ from .non)
theorem E_bin {op : BK} {o : Operator} (ho : OpR X (binaryOp o) (rDat X.K (lookO op) (binP op))) (hK : G.K = X.K) (ha : PE X a (rdE G W cf ia)) (hb : PE X b (rdE G W cf ib)) : PE X (.BinOp a o b pos) (rdE G W cf (.bin op ia ib)) := by
  refine PEmon (pe_op ho ha hb) ?_
  rintro t H Q ⟨F, loc, s, S, hS, hE, p⟩
  simp only [evE] at p
  refine ⟨F, loc, s, S, hS, hE, Post.bind p fun v S1 w F1 loc1 H1 n r p1 => ⟨F1, loc1, s, S1, n.sim, hE.next n, Post.bind p1 fun v2 S2 w2 F2 loc2 H2 n2 r2 p2 => ?_⟩⟩
  split at p2
  · rename_i x y hx hy
    cases hb : binP op x y with
    | none => rw [hb] at p2; exact False.elim p2
    | some z =>
      rw [hb] at p2
      exact ⟨G, F2, loc2, S2, v, v2, x, y, z, hK, n2.sim, r.next n2, r2, hx, hy, hb, fun w F' loc' H' n3 r3 => p2 w F' loc' H' n3 r3⟩
  · exact False.elim p2
theorem cmp_post {op : CK} {v v2 : Val} {w w2 : V} {F2 : Addr → Prop} {loc2 : Nat → Addr} {S2 : Store} {H2 : Hp} {t : L2.St} {Q : V → Hp → Prop} (hK : G.K = X.K) (n : SimS G F2 loc2 S2 H2) (r : RV G F2 loc2 S2 H2 v w) (r2 : RV G F2 loc2 S2 H2 v2 w2)
    (p2 : PostV G W t F2 loc2 S2 H2 (match lookF S2 v, lookF S2 v2 with
    | some p, some q => optD ((cmpP op p q).map .bool) S2
    | _, _ => .err) Q) : rCmp X.K (cmpP op) w w2 H2 Q := by
  split at p2
  · rename_i x y hx hy
    cases hb : cmpP op x y with
    | none => rw [hb] at p2; exact False.elim p2
    | some z =>
      rw [hb] at p2
      exact ⟨G, F2, loc2, S2, v, v2, x, y, z, hK, n, r, r2, hx, hy, hb, p2 _ _ _ _ (.refl n) (show Rp _ _ _ _ _ from .bl z)⟩
  · exact False.elim p2
theorem E_cmp {op : CK} {o : CmpOp} (ho : OpR X (compareOp o) (rCmp X.K (cmpP op))) (hK : G.K = X.K) (ha : PE X a (rdE G W cf ia)) (hb : PE X b (rdE G W cf ib)) (hm : behindInMarks o b = false) : PE X (.Compare a [o] [b] pos) (rdE G W cf (.cmp op ia ib)) := by
  refine PEmon (pe_cmpR ho ha hb hm) ?_
  rintro t H Q ⟨F, loc, s, S, hS, hE, p⟩
  simp only [evE] at p
  exact ⟨F, loc, s, S, hS, hE, Post.bind p fun v S1 w F1 loc1 H1 n r p1 => ⟨F1, loc1, s, S1, n.sim, hE.next n, Post.bind p1 fun v2 S2 w2 F2 loc2 H2 n2 r2 p2 => cmp_post hK n2.sim (r.next n2) r2 p2⟩⟩
theorem E_neg (ha : PE X a (rdE G W cf ia)) : PE X (.UnaryOp .USub a pos) (rdE G W cf (.neg ia)) := by
  refine PEmon (pe_un un_neg ha) ?_
  rintro t H Q ⟨F, loc, s, S, hS, hE, p⟩
  simp only [evE] at p
  refine ⟨F, loc, s, S, hS, hE, Post.bind p fun v S1 w F1 loc1 H1 n r p1 => ?_⟩
  split at p1
  · rename_i i
    have r : Rp G.K F1 H1 w (.int i) := r
    cases r
    exact ⟨i, rfl, p1 _ _ _ _ (.refl n.sim) (show Rp _ _ _ _ _ from .int (-i))⟩
  · exact False.elim p1
theorem E_not (ha : PE X a (rdE G W cf ia)) : PE X (.UnaryOp .Not a pos) (rdE G W cf (.not ia)) := by
  refine PEmon (pe_not ha) ?_
  rintro t H Q ⟨F, loc, s, S, hS, hE, p⟩
  simp only [evE] at p
  refine ⟨F, loc, s, S, hS, hE, Post.bind p fun v S1 w F1 loc1 H1 n r p1 => ?_⟩
  split at p1
  · rename_i i
    have r : Rp G.K F1 H1 w (.bool i) := r
    cases r
    exact ⟨i, rfl, p1 _ _ _ _ (.refl n.sim) (show Rp _ _ _ _ _ from .bl (!i))⟩
  · exact False.elim p1
theorem E_and {rest : List Expr} (ha : PE X a (rdE G W cf ia)) (hb : PE X (.BoolOp .And (b :: rest) pos) (rdE G W cf ib)) : PE X (.BoolOp .And (a :: b :: rest) pos) (rdE G W cf (.and ia ib)) := by
  refine PEmon (pe_and ha hb) ?_
  rintro t H Q ⟨F, loc, s, S, hS, hE, p⟩
  simp only [evE] at p
  refine ⟨F, loc, s, S, hS, hE, Post.bind p fun v S1 w F1 loc1 H1 n r p1 => ?_⟩
  split at p1
  · have r : Rp G.K F1 H1 w (.bool true) := r
    cases r
    exact ⟨true, rfl, ⟨F1, loc1, s, S1, n.sim, hE.next n, p1⟩⟩
  · have r : Rp G.K F1 H1 w (.bool false) := r
    cases r
    exact ⟨false, rfl, p1 _ _ _ _ (.refl n.sim) (show Rp _ _ _ _ _ from .bl false)⟩
  · exact False.elim p1
theorem E_or {rest : List Expr} (ha : PE X a (rdE G W cf ia)) (hb : PE X (.BoolOp .Or (b :: rest) pos) (rdE G W cf ib)) : PE X (.BoolOp .Or (a :: b :: rest) pos) (rdE G W cf (.or ia ib)) := by
  refine PEmon (pe_or ha hb) ?_
  rintro t H Q ⟨F, loc, s, S, hS, hE, p⟩
  simp only [evE] at p
  refine ⟨F, loc, s, S, hS, hE, Post.bind p fun v S1 w F1 loc1 H1 n r p1 => ?_⟩
  split at p1
  · have r : Rp G.K F1 H1 w (.bool true) := r
    cases r
    exact ⟨true, rfl, p1 _ _ _ _ (.refl n.sim) (show Rp _ _ _ _ _ from .bl true)⟩
  · have r : Rp G.K F1 H1 w (.bool false) := r
    cases r
    exact ⟨false, rfl, ⟨F1, loc1, s, S1, n.sim, hE.next n, p1⟩⟩
  · exact False.elim p1
/-- a test -/
theorem rdT_of {t : L2.St} {H : Hp} {Q : Bool → Hp → Prop} (h : rdT G W cf ia t H Q) : rdE G W cf ia t H fun x H1 => ∃ k, x = .bl k ∧ Q k H1 := by
  obtain ⟨F, loc, s, S, hS, hE, p⟩ := h
  unfold evT at p
  refine ⟨F, loc, s, S, hS, hE, Post.bind p fun v S1 w F1 loc1 H1 n r p1 => ?_⟩
  unfold datb at p1
  split at p1
  · rename_i b
    have r : Rp G.K F1 H1 w (.bool b) := r
    cases r
    exact ⟨b, rfl, p1 b _ _ _ (.refl n.sim) rfl⟩
  · exact False.elim p1
theorem E_ite (hc : PT X c (rdT G W cf ic)) (ha : PE X a (rdE G W cf ia)) (hb : PE X b (rdE G W cf ib)) : PE X (.IfExp c a b pos) (rdE G W cf (.ite ic ia ib)) := by
  refine PEmon (pe_ifExp hc ha hb) ?_
  rintro t H Q ⟨F, loc, s, S, hS, hE, p⟩
  simp only [evE] at p
  refine ⟨F, loc, s, S, hS, hE, ?_⟩
  unfold evT
  cases h : evE cf ic s S with
  | err => rw [h] at p; exact p
  | exc c fs S' => rw [h] at p; exact p
  | ok v S1 =>
    rw [h] at p
    simp only [Out.bind_ok] at p ⊢
    split at p
    · intro w F1 loc1 H1 n r
      subst r
      rw [if_pos rfl]
      exact ⟨F1, loc1, s, S1, n.sim, hE.next n, Post.step n p⟩
    · intro w F1 loc1 H1 n r
      subst r
      rw [if_neg Bool.false_ne_true]
      exact ⟨F1, loc1, s, S1, n.sim, hE.next n, Post.step n p⟩
    · exact False.elim p
end
end IP
namespace IP
open PySem PySem.Spec PyProof.Rows L2

/-! ### the store changed -/
section
variable {G : GC} {F F' F1 : Addr → Prop} {loc loc' loc1 : Nat → Addr} {S S' S1 : Store} {H H' H1 : Hp}
/-- a new object of the store, at a place that is new since the start -/
theorem Nxt.push (n : Nxt G F loc S H F1 loc1 S1 H1) {a : Addr} {o : Ob} (hn : Fresh H a) (hF : ¬ F1 a) (hl : ∀ l u, S1[l]? = some u → alive u = true → loc1 l ≠ a) (r : RO G F1 loc1 S1 H1 a o) : Nxt G F loc S H F1 (fun l => if l = S1.length then a else loc1 l) (S1 ++ [o]) H1 := by
  have h := n.sim
  have e1 : ∀ l, l < S1.length → (if l = S1.length then a else loc1 l) = loc1 l := fun l h => if_neg (Nat.ne_of_lt h)
  have le : S1.length ≤ (S1 ++ [o]).length := by rw [List.length_append]; exact Nat.le_add_right _ _
  have at_ : ∀ l u, (S1 ++ [o])[l]? = some u → (l < S1.length ∧ S1[l]? = some u) ∨ (l = S1.length ∧ u = o) := fun l u e => by
    by_cases hh : l < S1.length
    · rw [List.getElem?_append_left hh] at e
      exact .inl ⟨hh, e⟩
    · rw [List.getElem?_append_right (by omega)] at e
      have : l - S1.length = 0 := by
        cases q : l - S1.length with
        | zero => rfl
        | succ k => rw [q] at e; simp at e
      rw [this] at e
      simp at e
      exact .inr ⟨by omega, e.symm⟩
  refine ⟨n.sub, n.keep, n.kp, n.dom, n.fin, fun l hh => (e1 l (Nat.lt_of_lt_of_le hh n.len)).trans (n.loc l hh), Nat.le_trans n.len le, fun l u e al => ?_, ⟨h.dom, fun l u e => ?_, fun l l' u u' e e' al al' q => ?_, fun l u e al f => ?_, h.ntb, h.tabs⟩⟩
  · rcases at_ l u e with ⟨h1, h2⟩ | ⟨rfl, rfl⟩
    · show _ ∨ Fresh H (if l = S1.length then a else loc1 l)
      rw [e1 l h1]
      exact n.neu l u h2 al
    · refine .inr ?_
      show Fresh H (if S1.length = S1.length then a else loc1 S1.length)
      rw [if_pos rfl]
      exact hn
  · rcases at_ l u e with ⟨h1, h2⟩ | ⟨rfl, rfl⟩
    · show RO G F1 _ _ H1 (if l = S1.length then a else loc1 l) u
      rw [e1 l h1]
      exact RO.shift (fun _ h => h) (fun _ _ _ h => h) e1 le (fun _ h => h) (h.ob l u h2)
    · show RO G F1 _ _ H1 (if S1.length = S1.length then a else loc1 S1.length) u
      rw [if_pos rfl]
      exact RO.shift (fun _ h => h) (fun _ _ _ h => h) e1 le (fun _ h => h) r
  · rcases at_ l u e with ⟨h1, h2⟩ | ⟨rfl, rfl⟩
    · rcases at_ l' u' e' with ⟨h3, h4⟩ | ⟨rfl, rfl⟩
      · have q : (if l = S1.length then a else loc1 l) = (if l' = S1.length then a else loc1 l') := q
        rw [e1 l h1, e1 l' h3] at q
        exact h.inj l l' u u' h2 h4 al al' q
      · have q : (if l = S1.length then a else loc1 l) = (if S1.length = S1.length then a else loc1 S1.length) := q
        rw [e1 l h1, if_pos rfl] at q
        exact absurd q (hl l u h2 al)
    · rcases at_ l' u' e' with ⟨h3, h4⟩ | ⟨rfl, rfl⟩
      · have q : (if S1.length = S1.length then a else loc1 S1.length) = (if l' = S1.length then a else loc1 l') := q
        rw [e1 l' h3, if_pos rfl] at q
        exact absurd q.symm (hl l' u' h4 al')
      · rfl
  · rcases at_ l u e with ⟨h1, h2⟩ | ⟨rfl, rfl⟩
    · have f : F1 (if l = S1.length then a else loc1 l) := f
      rw [e1 l h1] at f
      exact h.sep l u h2 al f
    · have f : F1 (if S1.length = S1.length then a else loc1 S1.length) := f
      rw [if_pos rfl] at f
      exact hF f
/-- an object of the store changed -/
theorem Nxt.put (h : SimS G F loc S H) {l : Nat} {o o' : Ob} {u : HO} (hl : S[l]? = some o) (al : alive o = true)
    (r : ∀ S' H', (∀ a x, F a → H a = some x → H' a = some x) → S'.length = S.length → H' (loc l) = some u → RO G F loc S' H' (loc l) o') (su : Solid u := by exact solidN (fun _ z => (by cases z)) (fun _ z => (by cases z))) :
    Nxt G F loc S H F loc (S.set l o') (upd H (loc l) u) := by
  have hlt : l < S.length := (List.getElem?_eq_some_iff.mp hl).1
  have nF : ¬ F (loc l) := h.sep l o hl al
  have kp : ∀ a x, F a → H a = some x → upd H (loc l) u a = some x := fun a x f e => by
    have ne : a ≠ loc l := fun z => nF (by rw [← z]; exact f)
    rw [upd_ne ne]
    exact e
  have len : (S.set l o').length = S.length := List.length_set
  have at_ : ∀ m x, (S.set l o')[m]? = some x → (m ≠ l ∧ S[m]? = some x) ∨ (m = l ∧ x = o') := fun m x e => by
    by_cases q : m = l
    · subst q
      rw [List.getElem?_set_self hlt] at e
      exact .inr ⟨rfl, (Option.some.inj e).symm⟩
    · rw [List.getElem?_set_ne (Ne.symm q)] at e
      exact .inl ⟨q, e⟩
  obtain ⟨u0, e0, s0⟩ := (h.ob l o hl).solid al
  have dom : ∀ a, Fresh (upd H (loc l) u) a → Fresh H a := fun a z => by
    by_cases q : a = loc l
    · rw [q] at z
      exact (z.ne upd_same su.nt).elim
    · unfold Fresh at z
      rw [upd_ne q] at z
      exact z
  have nFa : ∀ a, F a → a ≠ loc l := fun a f z => nF (by rw [← z]; exact f)
  refine ⟨fun _ h => h, kp, fun a x e _ n => ?_, dom, fun _ f => .inl f, fun _ _ => rfl, Nat.le_of_eq len.symm, fun m x e al' => ?_, ⟨fun a f z => ?d1, fun m x e => ?_, fun m m' x x' e e' am am' q => ?_, fun m x e am f => ?_, fun a ps f z => ?d2, tabs_upd h.tabs e0 s0⟩⟩
  case d1 =>
    rw [upd_ne (nFa a f)] at z
    exact h.dom a f z
  case d2 =>
    rw [upd_ne (nFa a f)] at z
    exact h.ntb a ps f z
  · rw [upd_ne (fun z => n l o hl al z.symm)]
    exact e
  · rcases at_ m x e with ⟨h1, h2⟩ | ⟨rfl, rfl⟩
    · exact .inl ⟨x, h2, al'⟩
    · exact .inl ⟨o, hl, al⟩
  · rcases at_ m x e with ⟨h1, h2⟩ | ⟨rfl, rfl⟩
    · cases q : alive x with
      | false => exact RO.shiftD (fun _ h => h) kp q (h.ob m x h2)
      | true =>
        refine RO.shift (fun _ h => h) kp (fun _ _ => rfl) (Nat.le_of_eq len.symm) (fun y e => ?_) (h.ob m x h2)
        rw [upd_ne (fun z => h1 (h.inj m l x o h2 hl q al z))]
        exact e
    · exact r _ _ kp len upd_same
  · rcases at_ m x e with ⟨h1, h2⟩ | ⟨rfl, rfl⟩
    · rcases at_ m' x' e' with ⟨h3, h4⟩ | ⟨rfl, rfl⟩
      · exact h.inj m m' x x' h2 h4 am am' q
      · exact h.inj m m' x o h2 hl am al q
    · rcases at_ m' x' e' with ⟨h3, h4⟩ | ⟨rfl, rfl⟩
      · exact h.inj m m' o x' hl h4 al am' q
      · rfl
  · rcases at_ m x e with ⟨h1, h2⟩ | ⟨rfl, rfl⟩
    · exact h.sep m x h2 am f
    · exact nF f
/-- an object of the store settled -/
theorem Nxt.settle (h : SimS G F loc S H) {l : Nat} {o : Ob} (hl : S[l]? = some o) (al : alive o = true) : Nxt G F loc S H (fun a => F a ∨ a = loc l) loc (S.set l .dead) H := by
  have hlt : l < S.length := (List.getElem?_eq_some_iff.mp hl).1
  have len : (S.set l .dead).length = S.length := List.length_set
  have at_ : ∀ m x, (S.set l .dead)[m]? = some x → alive x = true → m ≠ l ∧ S[m]? = some x := fun m x e am => by
    by_cases q : m = l
    · subst q
      rw [List.getElem?_set_self hlt] at e
      cases e
      cases am
    · rw [List.getElem?_set_ne (Ne.symm q)] at e
      exact ⟨q, e⟩
  refine ⟨fun _ f => .inl f, fun _ _ _ e => e, fun _ _ e _ _ => e, fun _ e => e, fun a f => f.elim .inl fun q => .inr (.inr ⟨l, o, hl, al, q.symm⟩), fun _ _ => rfl, Nat.le_of_eq len.symm, fun m x e al' => .inl ⟨x, (at_ m x e al').2, al'⟩, ⟨fun a f => ?_, fun m x e => ?_, fun m m' x x' e e' am am' q => ?_, fun m x e am f => ?_, fun a ps f => ?d2, h.tabs⟩⟩
  case d2 =>
    rcases f with f | f
    · exact h.ntb a ps f
    · obtain ⟨u0, e0, s0⟩ := (h.ob l o hl).solid al
      rw [f, e0]
      exact fun z => s0.nt ps (Option.some.inj z)
  · rcases f with f | f
    · exact h.dom a f
    · rw [f]
      exact (h.ob l o hl).there al
  · cases q : alive x with
    | false =>
      by_cases qm : m = l
      · subst qm
        rw [List.getElem?_set_self hlt] at e
        cases e
        exact True.intro
      · rw [List.getElem?_set_ne (Ne.symm qm)] at e
        exact RO.shiftD (fun _ f => .inl f) (fun _ _ _ e => e) q (h.ob m x e)
    | true =>
      obtain ⟨h1, h2⟩ := at_ m x e q
      exact RO.shift (fun _ f => .inl f) (fun _ _ _ e => e) (fun _ _ => rfl) (Nat.le_of_eq len.symm) (fun _ e => e) (h.ob m x h2)
  · exact h.inj m m' x x' (at_ m x e am).2 (at_ m' x' e' am').2 am am' q
  · obtain ⟨h1, h2⟩ := at_ m x e am
    rcases f with f | f
    · exact h.sep m x h2 am f
    · exact h1 (h.inj m l x o h2 hl am al f)
/-- a dict of the store locked: settled, and never written any more -/
theorem Nxt.lockN (h : SimS G F loc S H) {l : Nat} {o : Ob} {kvs : List (PyData × PyData)} {xs : List (NestedKey × Addr × V)} {od : Obj} (hl : S[l]? = some o) (al : alive o = true) (r : RpN G.K F H xs kvs) :
    Nxt G F loc S H (fun a => F a ∨ a = loc l) loc (S.set l (.ndl kvs)) (upd H (loc l) (.frz od (nT G.w (loc l) xs))) := by
  have hlt : l < S.length := (List.getElem?_eq_some_iff.mp hl).1
  have nF : ¬ F (loc l) := h.sep l o hl al
  have su : Solid (.frz od (nT G.w (loc l) xs)) := frz_solid
  have kp : ∀ a x, F a → H a = some x → upd H (loc l) (.frz od (nT G.w (loc l) xs)) a = some x := fun a x f e => by
    have ne : a ≠ loc l := fun z => nF (by rw [← z]; exact f)
    rw [upd_ne ne]
    exact e
  have len : (S.set l (.ndl kvs)).length = S.length := List.length_set
  have at_ : ∀ m x, (S.set l (.ndl kvs))[m]? = some x → (m ≠ l ∧ S[m]? = some x) ∨ (m = l ∧ x = .ndl kvs) := fun m x e => by
    by_cases q : m = l
    · subst q
      rw [List.getElem?_set_self hlt] at e
      exact .inr ⟨rfl, (Option.some.inj e).symm⟩
    · rw [List.getElem?_set_ne (Ne.symm q)] at e
      exact .inl ⟨q, e⟩
  have atA : ∀ m x, (S.set l (.ndl kvs))[m]? = some x → alive x = true → m ≠ l ∧ S[m]? = some x := fun m x e am => by
    rcases at_ m x e with ⟨h1, h2⟩ | ⟨rfl, rfl⟩
    · exact ⟨h1, h2⟩
    · cases am
  obtain ⟨u0, e0, s0⟩ := (h.ob l o hl).solid al
  have dom : ∀ a, Fresh (upd H (loc l) (.frz od (nT G.w (loc l) xs))) a → Fresh H a := fun a z => by
    by_cases q : a = loc l
    · rw [q] at z
      exact (z.ne upd_same su.nt).elim
    · unfold Fresh at z
      rw [upd_ne q] at z
      exact z
  have nFa : ∀ a, F a → a ≠ loc l := fun a f z => nF (by rw [← z]; exact f)
  refine ⟨fun _ f => .inl f, kp, fun a x e _ n => ?_, dom, fun _ f => f.elim .inl fun q => .inr (.inr ⟨l, o, hl, al, q.symm⟩), fun _ _ => rfl, Nat.le_of_eq len.symm, fun m x e al' => .inl ⟨x, (atA m x e al').2, al'⟩,
    ⟨fun a f z => ?d1, fun m x e => ?_, fun m m' x x' e e' am am' q => h.inj m m' x x' (atA m x e am).2 (atA m' x' e' am').2 am am' q, fun m x e am f => ?_, fun a ps f z => ?d2, tabs_upd h.tabs e0 s0⟩⟩
  case d1 =>
    rcases f with f | f
    · rw [upd_ne (nFa a f)] at z
      exact h.dom a f z
    · rw [f, upd_same] at z
      cases z
  case d2 =>
    rcases f with f | f
    · rw [upd_ne (nFa a f)] at z
      exact h.ntb a ps f z
    · rw [f, upd_same] at z
      cases z
  · rw [upd_ne (fun z => n l o hl al z.symm)]
    exact e
  · rcases at_ m x e with ⟨h1, h2⟩ | ⟨rfl, rfl⟩
    · cases q : alive x with
      | false => exact RO.shiftD (fun _ f => .inl f) kp q (h.ob m x h2)
      | true =>
        refine RO.shift (fun _ f => .inl f) kp (fun _ _ => rfl) (Nat.le_of_eq len.symm) (fun y e => ?_) (h.ob m x h2)
        rw [upd_ne (fun z => h1 (h.inj m l x o h2 hl q al z))]
        exact e
    · exact ⟨.inr rfl, od, xs, upd_same, RpN.mono (fun _ f => .inl f) kp r⟩
  · obtain ⟨h1, h2⟩ := atA m x e am
    rcases f with f | f
    · exact h.sep m x h2 am f
    · exact h1 (h.inj m l x o h2 hl am al f)
/-- a list that is new since the start and that nothing else knows -/
noncomputable def FrR (G : GC) (H0 : Hp) (F : Addr → Prop) (loc : Nat → Addr) (S : Store) (H : Hp) (v : Val) (w : V) : Prop :=
  ∃ ps xs a, v = .dat (.list ps) ∧ w = .ref a ∧ H a = some (.lst xs) ∧ RpL G.K F H xs ps ∧ ¬ F a ∧ (∀ l o, S[l]? = some o → alive o = true → loc l ≠ a) ∧ Fresh H0 a
theorem FrR.settle (n : Nxt G F loc S H F1 loc1 S1 H1) {v : Val} {w : V} (r : FrR G H F1 loc1 S1 H1 v w) : ∃ F', Nxt G F loc S H F' loc1 S1 H1 ∧ RV G F' loc1 S1 H1 v w := by
  obtain ⟨ps, xs, a, rfl, rfl, e, l, f, nl, h0⟩ := r
  have q := Nxt.keepsF n h0 ⟨_, e, (solidN (fun _ z => (by cases z)) (fun _ z => (by cases z)))⟩ nl
  exact ⟨_, q, show Rp _ _ _ _ _ from .lst (.inr rfl) e (RpL.mono (fun _ f => .inl f) (fun _ _ _ e => e) l)⟩
/-- a list just laid -/
theorem FrR.new {H0 : Hp} (h : SimS G F loc S H) {ps : List PyData} {xs : List V} (r : RpL G.K F H xs ps) {p : Addr} (hp : H p = none) (h0 : Fresh H0 p) : FrR G H0 F loc S (upd H p (.lst xs)) (.dat (.list ps)) (.ref p) := by
  have n := Nxt.lay (o := .lst xs) h hp
  exact ⟨ps, xs, p, rfl, rfl, upd_same, RpL.mono n.sub n.keep r, fun f => h.dom p f hp, fun l o e al q => (h.ob l o e).there al (by rw [q]; exact hp), h0⟩
end

theorem evL_len {cf : CallF} : ∀ (es : List IE) (s : Env) (S S' : Store) (vs : List Val), evL cf es s S = .ok vs S' → vs.length = es.length := by
  intro es
  induction es with
  | nil => intro s S S' vs h; simp only [evL] at h; cases h; rfl
  | cons e es ih =>
    intro s S S' vs h
    simp only [evL] at h
    cases q : evE cf e s S with
    | err => rw [q] at h; cases h
    | exc c fs S1 => rw [q] at h; cases h
    | ok v S1 =>
      rw [q, Out.bind_ok] at h
      cases q2 : evL cf es s S1 with
      | err => rw [q2] at h; cases h
      | exc c fs S1 => rw [q2] at h; cases h
      | ok ws S2 =>
        rw [q2, Out.bind_ok] at h
        cases h
        rw [List.length_cons, List.length_cons, ih s S1 _ _ q2]
/-! ### argument lists, displays -/
noncomputable abbrev PostF (G : GC) (W : WX) (t : L2.St) (F : Addr → Prop) (loc : Nat → Addr) (S : Store) (H : Hp) (o : Out Val) (Q : V → Hp → Prop) : Prop := Post (A := Val) (B := V) G (fun F' loc' S' H' v w => FrR G H F' loc' S' H' v w) W t F loc S H o Q
noncomputable def rdF (G : GC) (W : WX) (cf : CallF) (e : IE) : TE := fun t H Q => ∃ F loc s S, SimS G F loc S H ∧ SimE G F loc S H s t ∧ PostF G W t F loc S H (evE cf e s S) Q
section
variable {X : Cx} {G : GC} {W : WX} {cf : CallF} {a b c e : Expr} {ia ib ic ie : IE} {pos : Pos} {es : List Expr} {ies : List IE}
theorem L_nil : PA X [] (rdL G W cf []) := by
  refine PAmon pa_nil ?_
  rintro t H Q ⟨F, loc, s, S, hS, hE, p⟩
  simp only [evL] at p
  exact p _ _ _ _ (.refl hS) .nil
theorem L_cons (ha : PE X e (rdE G W cf ie)) (hr : PA X es (rdL G W cf ies)) (hs : starEach (e :: es) X.env = (false, eval e X.env) :: starEach es X.env) : PA X (e :: es) (rdL G W cf (ie :: ies)) := by
  refine PAmon (pa_cons ha hr hs) ?_
  rintro t H Q ⟨F, loc, s, S, hS, hE, p⟩
  simp only [evL] at p
  refine ⟨F, loc, s, S, hS, hE, Post.bind p fun v S1 w F1 loc1 H1 n r p1 => ⟨F1, loc1, s, S1, n.sim, hE.next n, Post.bind p1 fun v2 S2 w2 F2 loc2 H2 n2 r2 p2 => ?_⟩⟩
  exact p2 _ _ _ _ (.refl n2.sim) (.cons (r.next n2) r2)
theorem E_tup {k : Nat} (h : PA X es (rdL G W cf ies)) : PE X (.Tuple es k pos) (rdE G W cf (.tup ies)) := by
  refine PEmon (pe_tup h) ?_
  rintro t H Q ⟨F, loc, s, S, hS, hE, p⟩
  simp only [evE] at p
  refine ⟨F, loc, s, S, hS, hE, Post.bind p fun v S1 w F1 loc1 H1 n r p1 => ?_⟩
  split at p1
  · rename_i ps hd
    have rl := dats_rp r hd
    split at p1
    · rename_i hz
      exact ⟨by rw [rl.length]; exact hz, fun q hq => new_tup n.sim rl p1 hq⟩
    · exact False.elim p1
  · exact False.elim p1
theorem F_lst (h : PA X es (rdL G W cf ies)) : PE X (.List es pos) (rdF G W cf (.lst ies)) := by
  refine PEmon (pe_lst h) ?_
  rintro t H Q ⟨F, loc, s, S, hS, hE, p⟩
  simp only [evE] at p
  refine ⟨F, loc, s, S, hS, hE, Post.bind p fun v S1 w F1 loc1 H1 n r p1 => ?_⟩
  split at p1
  · rename_i ps hd
    have rl := dats_rp r hd
    split at p1
    · rename_i hz
      refine ⟨by rw [rl.length]; exact hz, fun q hq => ?_⟩
      exact p1 _ _ _ _ (Nxt.lay n.sim hq) (FrR.new n.sim rl hq (n.dom _ (.inl hq)))
    · exact False.elim p1
  · exact False.elim p1
theorem rdE_F {t : L2.St} {H : Hp} {Q : VK} (h : rdE G W cf ie t H Q) : rdF G W cf ie t H Q := by
  obtain ⟨F, loc, s, S, hS, hE, p⟩ := h
  refine ⟨F, loc, s, S, hS, hE, ?_⟩
  cases q : evE cf ie s S with
  | err => rw [q] at p; exact p
  | exc c fs S' => rw [q] at p; exact p
  | ok v S1 =>
    rw [q] at p
    intro w F1 loc1 H1 n r
    obtain ⟨F2, n2, r2⟩ := r.settle n
    exact p w F2 loc1 H1 n2 r2
theorem E_ofF (h : PE X e (rdF G W cf ie)) : PE X e (rdE G W cf ie) := PEmon h fun _ _ _ => rdE_F
theorem rdN_F {t : L2.St} {H : Hp} {Q : VK} (h : rdE G W cf (.new ie) t H Q) : rdF G W cf ie t H Q := by
  obtain ⟨F, loc, s, S, hS, hE, p⟩ := h
  simp only [evE] at p
  refine ⟨F, loc, s, S, hS, hE, ?_⟩
  cases q : evE cf ie s S with
  | err => rw [q] at p; exact p
  | exc c fs S' => rw [q] at p; exact p
  | ok v S1 =>
  rw [q] at p
  intro w F1 loc1 H1 n r
  obtain ⟨ps, xs, a, rfl, rfl, e, l, f, nl, h0⟩ := r
  have n2 := Nxt.push (o := .lst ps) n h0 f nl ⟨xs, e, l⟩
  refine p _ _ _ _ n2 ⟨?_, ?_⟩
  · show V.ref a = V.ref (if S1.length = S1.length then a else loc1 S1.length)
    rw [if_pos rfl]
  · rw [List.length_append, List.length_singleton]
    exact Nat.lt_succ_self _
theorem E_new (h : PE X e (rdF G W cf ie)) : PE X e (rdE G W cf (.new ie)) := PEmon h fun _ _ _ => rdN_F
/-- a list or a dict of the store is settled where it is handed on -/
theorem E_frz {i : Nat} {x : Str} (hN : X.N[i]? = some x) (hv : Vis X.env.scope x) (hd : (x == ("__debug__" : Str)) = false) (hcd : (x == ("__classdict__" : Str)) = false) : PE X (.Name x pos) (rdE G W cf (.frz i)) := by
  refine PEmon (pe_var hN hv hd hcd) ?_
  rintro t H Q ⟨F, loc, s, S, hS, hE, p⟩
  simp only [evE] at p
  split at p
  · rename_i l hi
    obtain ⟨w, h1, r⟩ := hE.at_ i _ hi
    obtain ⟨rfl, hl⟩ := r
    split at p
    · rename_i xs he
      refine ⟨_, h1, ?_⟩
      have n := Nxt.settle hS he rfl
      obtain ⟨vs, e1, r1⟩ := hS.ob l _ he
      exact p _ _ _ _ n (show Rp _ _ _ _ _ from .lst (.inr rfl) e1 (RpL.mono n.sub n.keep r1))
    · rename_i xs he
      refine ⟨_, h1, ?_⟩
      have n := Nxt.settle hS he rfl
      obtain ⟨vs, e1, r1⟩ := hS.ob l _ he
      exact p _ _ _ _ n (show Rp _ _ _ _ _ from .dit (.inr rfl) e1 (RpT.mono n.sub n.keep r1))
    · exact False.elim p
  · exact False.elim p

/-! ### calls of own defs -/
noncomputable def spC (G : GC) (n : Nat) (g : List Val → Store → Out Val) : Sp := fun vs H Q E => ∃ F loc S args, SimS G F loc S H ∧ RVs G F loc S H args vs ∧ args.length = n ∧ PostV G (fun cv d _ H' => E cv d H') [] F loc S H (g args S) Q
noncomputable def dflV (ds : List Int) : List V := ds.map V.int
theorem RVs.app {F : Addr → Prop} {loc : Nat → Addr} {S : Store} {H : Hp} : ∀ {v v' : List Val} {w w' : List V}, RVs G F loc S H v w → RVs G F loc S H v' w' → RVs G F loc S H (v ++ v') (w ++ w')
  | _, _, _, _, .nil, s => s
  | _, _, _, _, .cons r l, s => .cons r (RVs.app l s)
theorem RVs.dfl {F : Addr → Prop} {loc : Nat → Addr} {S : Store} {H : Hp} : ∀ ds : List Int, RVs G F loc S H (dfl ds) (dflV ds)
  | [] => .nil
  | i :: r => .cons (show Rp _ _ _ _ _ from .int i) (RVs.dfl r)
/-- from the wish for a value behind a call to the callee's -/
theorem spC_of {n : Nat} {g : List Val → Store → Out Val} {t : L2.St} {F : Addr → Prop} {loc : Nat → Addr} {S : Store} {H : Hp} {args : List Val} {vs : List V} {Q : VK} (hS : SimS G F loc S H) (r : RVs G F loc S H args vs) (hn : args.length = n) (p : PostV G W t F loc S H (g args S) Q) :
    spC G n g vs H Q (WE W t) := by
  refine ⟨F, loc, S, args, hS, r, hn, ?_⟩
  cases q : g args S with
  | ok v S' => rw [q] at p; exact p
  | exc c fs S' => rw [q] at p; exact p
  | err => rw [q] at p; exact p
section
variable {CXT : CXT} {k f n : Nat} {fa : Addr} {fd : FuncData} {ps : List Str} {ds : List Int} {us : List Value} {x m : Str} {p apos : Pos} {o : Expr} {io : IE}
end
end
end IP
namespace IP
open PySem PySem.Spec PyProof.Rows L2

section
variable {X : Cx} {G : GC} {W : WX} {cf : CallF} {a b c e : Expr} {ia ib ic ie : IE} {pos : Pos} {es : List Expr} {ies : List IE}
/-! ### is, chains -/
theorem E_isN {n : Bool} {o : CmpOp} {j pos'} (ho : o = if n = true then .IsNot else .Is) (ha : PE X a (rdE G W cf ia)) : PE X (.Compare a [o] [.Constant .none j pos'] pos) (rdE G W cf (.isc n ia .none)) := by
  have fin : ∀ {t : L2.St} {H : Hp} {Q : VK}, rdE G W cf (.isc n ia .none) t H Q → rdE G W cf ia t H fun x H1 => Q (.bl (if n = true then !decide (x = .non) else decide (x = .non))) H1 := by
    rintro t H Q ⟨F, loc, s, S, hS, hE, p⟩
    simp only [evE] at p
    refine ⟨F, loc, s, S, hS, hE, Post.bind p fun v S1 w F1 loc1 H1 m r p1 => ?_⟩
    have q : ∀ k : Bool, PostV G W t F1 loc1 S1 H1 (.ok (.dat (.bool k)) S1) Q → Q (.bl k) H1 := fun k p => p _ _ _ _ (.refl m.sim) (show Rp _ _ _ _ _ from .bl k)
    have ne : w ≠ .non → (if n = true then !decide (w = .non) else decide (w = .non)) = n := fun h => by
      cases n <;> simp [h]
    cases v with
    | dat d =>
      have r : Rp G.K F1 H1 w d := r
      cases d with
      | none =>
        cases r
        have := q _ p1
        cases n <;> simpa using this
      | bool k => cases r; rw [ne (fun z => by cases z)]; exact q _ p1
      | int k => cases r; rw [ne (fun z => by cases z)]; exact q _ p1
      | str k => cases r; rw [ne (fun z => by cases z)]; exact q _ p1
      | list k => cases r; rw [ne (fun z => by cases z)]; exact q _ p1
      | tuple k => cases r <;> (rw [ne (fun z => by cases z)]; exact q _ p1)
      | dict k => cases r <;> (rw [ne (fun z => by cases z)]; exact q _ p1)
    | ref l =>
      obtain ⟨rfl, _⟩ := r
      rw [ne (fun z => by cases z)]
      exact q _ p1
    | exn c fs => exact False.elim p1
  cases n with
  | true =>
    rw [if_pos rfl] at ho
    subst ho
    refine PEmon (pe_cmp (pc_notN ha)) fun t H Q h => ?_
    have := fin h
    simp only [if_pos] at this
    exact this
  | false =>
    rw [if_neg Bool.false_ne_true] at ho
    subst ho
    refine PEmon (pe_cmp (pc_isN ha)) fun t H Q h => ?_
    have := fin h
    simp only [if_neg Bool.false_ne_true] at this
    exact this
theorem E_isB {n k : Bool} {o : CmpOp} {j pos'} (ho : o = if n = true then .IsNot else .Is) (ha : PE X a (rdE G W cf ia)) : PE X (.Compare a [o] [.Constant (.bool k) j pos'] pos) (rdE G W cf (.isc n ia (.bool k))) := by
  have fin : ∀ {t : L2.St} {H : Hp} {Q : VK}, rdE G W cf (.isc n ia (.bool k)) t H Q → rdE G W cf ia t H fun x H1 => ∃ d : Bool, x = .bl d ∧ Q (.bl (if n = true then !decide (d = k) else decide (d = k))) H1 := by
    rintro t H Q ⟨F, loc, s, S, hS, hE, p⟩
    simp only [evE] at p
    refine ⟨F, loc, s, S, hS, hE, Post.bind p fun v S1 w F1 loc1 H1 m r p1 => ?_⟩
    cases v with
    | dat d =>
      have r : Rp G.K F1 H1 w d := r
      cases d with
      | bool k' =>
        cases r
        exact ⟨k', rfl, p1 _ _ _ _ (.refl m.sim) (show Rp _ _ _ _ _ from .bl _)⟩
      | _ => exact False.elim p1
    | ref l => exact False.elim p1
    | exn c fs => exact False.elim p1
  cases n with
  | true =>
    rw [if_pos rfl] at ho
    subst ho
    refine PEmon (pe_cmpR op_notBl ha pe_bl rfl) fun t H Q h => ?_
    obtain ⟨F, loc, s, S, hS, hE, p⟩ := fin h
    refine ⟨F, loc, s, S, hS, hE, Post.weak p ?_⟩
    rintro w H1 ⟨d, rfl, q⟩
    exact ⟨d, k, rfl, rfl, q⟩
  | false =>
    rw [if_neg Bool.false_ne_true] at ho
    subst ho
    refine PEmon (pe_cmpR op_isBl ha pe_bl rfl) fun t H Q h => ?_
    obtain ⟨F, loc, s, S, hS, hE, p⟩ := fin h
    refine ⟨F, loc, s, S, hS, hE, Post.weak p ?_⟩
    rintro w H1 ⟨d, rfl, q⟩
    exact ⟨d, k, rfl, rfl, q⟩
theorem rCmp_of {op : CK} {p q : PyData} {w w2 : V} {F2 : Addr → Prop} {loc2 : Nat → Addr} {S2 : Store} {H2 : Hp} {Q : V → Hp → Prop} {k : Bool} (hK : G.K = X.K) (n : SimS G F2 loc2 S2 H2) (r : Rp G.K F2 H2 w p) (r2 : Rp G.K F2 H2 w2 q) (e : cmpP op p q = some k) (h : Q (.bl k) H2) : rCmp X.K (cmpP op) w w2 H2 Q :=
  ⟨G, F2, loc2, S2, .dat p, .dat q, p, q, k, hK, n, r, r2, rfl, rfl, e, h⟩
/-! ### subscripts, slices -/
theorem E_idx (hs : PlainIx b) (hK : G.K = X.K) (ha : PE X a (rdE G W cf ia)) (hb : PE X b (rdE G W cf ib)) : PE X (.Subscript a b pos) (rdE G W cf (.idx ia ib)) := by
  refine PEmon (pe_ix (IxR.or ix_list (IxR.or ix_tup ix_str)) ha hb hs) ?_
  rintro t H Q ⟨F, loc, s, S, hS, hE, p⟩
  simp only [evE] at p
  refine ⟨F, loc, s, S, hS, hE, Post.bind p fun v S1 w F1 loc1 H1 n r p1 => ⟨F1, loc1, s, S1, n.sim, hE.next n, Post.bind p1 fun v2 S2 w2 F2 loc2 H2 n2 r2 p2 => ?_⟩⟩
  have r := r.next n2
  have atL : ∀ {i : Int} {ys : List PyData} {xs : List V} {d : PyData}, RpL G.K F2 H2 xs ys → atI ys i = some d → ∃ u, atI xs i = some u ∧ Rp G.K F2 H2 u d := fun {i ys xs d} l e => by
    unfold atI at e ⊢
    rw [l.length]
    cases q : ixN ys.length i with
    | none => rw [q] at e; cases e
    | some j =>
      rw [q] at e
      exact l.get e
  split at p2
  · rename_i x y hx
    have r2 : Rp G.K F2 H2 w2 y := r2
    cases q : idxP x y with
    | none => rw [q] at p2; exact False.elim p2
    | some d =>
      rw [q] at p2
      unfold idxP at q
      split at q
      · obtain ⟨l, xs, rfl, h1, h2⟩ := look_list n2.sim r hx
        cases r2
        obtain ⟨u, h3, h4⟩ := atL h2 q
        exact .inl ⟨l, xs, _, u, rfl, rfl, .inl h1, h3, p2 _ _ _ _ (.refl n2.sim) h4⟩
      · obtain ⟨l, xs, rfl, h1, h2⟩ := look_tup n2.sim r hx
        cases r2
        obtain ⟨u, h3, h4⟩ := atL h2 q
        exact .inr (.inl ⟨l, xs, _, u, rfl, rfl, hK ▸ h1, h3, p2 _ _ _ _ (.refl n2.sim) h4⟩)
      · rw [look_str r hx]
        cases r2
        split at q
        · rename_i hz
          simp only [Option.map_eq_some_iff] at q
          obtain ⟨ch, q, rfl⟩ := q
          exact .inr (.inr ⟨_, _, ch, rfl, rfl, hz, q, p2 _ _ _ _ (.refl n2.sim) (show Rp _ _ _ _ _ from .str _)⟩)
        · cases q
      · cases q
  · exact False.elim p2
/-- a part of a slice -/
noncomputable def rdP (G : GC) (W : WX) (cf : CallF) (e : IE) : L2.St → Hp → (Option Int → Hp → Prop) → Prop := fun t H Q => ∃ F loc s S, SimS G F loc S H ∧ SimE G F loc S H s t ∧
  Post (A := Option Int) (B := Option Int) G (fun _ _ _ _ v o => v = o) W t F loc S H (partO (isNon e) (evE cf e s S) S) Q
theorem PO_none : PO X none (rdP G W cf .non) := by
  have h := po_none (X := X)
  refine ⟨fun pins s σ H Q I q => h.run pins s σ H Q I ?_⟩
  obtain ⟨F, loc, s, S, hS, hE, p⟩ := q
  unfold partO isNon at p
  rw [if_pos rfl] at p
  exact p _ _ _ _ (.refl hS) rfl
theorem PO_some (hn : isNon ia = false) (ha : PE X a (rdE G W cf ia)) : PO X (some a) (rdP G W cf ia) := by
  have h := po_some ha
  refine ⟨fun pins s σ H Q I q => h.run pins s σ H Q I ?_⟩
  obtain ⟨F, loc, s, S, hS, hE, p⟩ := q
  unfold partO at p
  rw [hn, if_neg Bool.false_ne_true] at p
  refine ⟨F, loc, s, S, hS, hE, Post.bind p fun v S1 w F1 loc1 H1 n r p1 => ?_⟩
  split at p1
  · rename_i i
    have r : Rp G.K F1 H1 w (.int i) := r
    cases r
    exact ⟨i, rfl, p1 _ _ _ _ (.refl n.sim) rfl⟩
  · exact False.elim p1
theorem RpL.cut {K : PySem.W.Frag} {F : Addr → Prop} {H : Hp} {xs : List V} {ps : List PyData} (r : RpL K F H xs ps) (lo hi : Option Int) : RpL K F H (cutV xs lo hi) (cutP ps lo hi) := by
  unfold cutV cutP
  rw [r.length]
  exact (r.drop _).take _
theorem E_sli {lo hi : Option Expr} {il ih : IE} {p2 : Pos} (hK : G.K = X.K) (ha : PE X a (rdE G W cf ia)) (hl : PO X lo (rdP G W cf il)) (hh : PO X hi (rdP G W cf ih)) : PE X (.Subscript a (.Slice lo hi none p2) pos) (rdE G W cf (.sli ia il ih)) := by
  refine PEmon (pe_slice (SlR.or sl_list (SlR.or sl_tupA sl_str)) ha hl hh) ?_
  rintro t H Q ⟨F, loc, s, S, hS, hE, p⟩
  simp only [evE] at p
  refine ⟨F, loc, s, S, hS, hE, Post.bind p fun v S1 w F1 loc1 H1 n r p1 => ⟨F1, loc1, s, S1, n.sim, hE.next n, Post.bind p1 fun l S2 l' F2 loc2 H2 n2 r2 p2 => ⟨F2, loc2, s, S2, n2.sim, (hE.next n).next n2, Post.bind p2 fun h S3 h' F3 loc3 H3 n3 r3 p3 => ?_⟩⟩⟩
  subst r2 r3
  have r := (r.next n2).next n3
  split at p3
  · rename_i x hx
    cases q : sliP x l h with
    | none => rw [q] at p3; exact False.elim p3
    | some d =>
      rw [q] at p3
      unfold sliP at q
      split at q
      · cases q
        obtain ⟨m, xs, rfl, h1, h2⟩ := look_list n3.sim r hx
        exact .inl ⟨m, xs, rfl, .inl h1, fun p hp => new_lst n3.sim (h2.cut _ _) p3 hp⟩
      · cases q
        have whole := look_tupR n3.sim r hx
        obtain ⟨m, xs, rfl, h1, h2⟩ := look_tup n3.sim r hx
        refine .inr (.inl ⟨m, xs, rfl, hK ▸ h1, fun z => ?_, fun _ p hp => new_tup n3.sim (h2.cut _ _) p3 hp⟩)
        have e : ∀ ps : List PyData, ps.length = xs.length → cutP ps l h = ps := fun ps hl => by
          unfold cutP
          rw [hl, z.1, z.2, List.drop_zero, Nat.sub_zero, ← hl, List.take_length]
        rw [e _ h2.length.symm] at p3
        exact p3 _ _ _ _ (.refl n3.sim) whole
      · rw [look_str r hx]
        split at q
        · rename_i hz
          cases q
          exact .inr (.inr ⟨_, rfl, hz, p3 _ _ _ _ (.refl n3.sim) (show Rp _ _ _ _ _ from .str _)⟩)
        · cases q
      · cases q
  · exact False.elim p3

/-! ### fields, methods, making -/
theorem RFs.find {F : Addr → Prop} {loc : Nat → Addr} {S : Store} {H : Hp} (inj : ∀ f g, G.fnm f = G.fnm g → f = g) {f : Nat} {v : Val} : ∀ {fs : List (Nat × Val)} {ws : List (Str × V)}, RFs G F loc S H fs ws → fs.lookup f = some v → ∃ w, ws.lookup (G.fnm f) = some w ∧ RV G F loc S H v w
  | _, _, .nil, e => by cases e
  | _, _, .cons (f := g) (w := w) (vs := vs) (ws := ws) r l, e => by
    rw [List.lookup_cons] at e ⊢
    by_cases q : f = g
    · subst q
      simp only [beq_self_eq_true] at e ⊢
      cases e
      exact ⟨w, rfl, r⟩
    · have b1 : (f == g) = false := beq_eq_false_iff_ne.mpr q
      have b2 : (G.fnm f == G.fnm g) = false := beq_eq_false_iff_ne.mpr fun z => q (inj f g z)
      simp only [b1] at e
      simp only [b2]
      exact RFs.find inj l e
theorem RFs.no {F : Addr → Prop} {loc : Nat → Addr} {S : Store} {H : Hp} {m : Str} (hm : ∀ f, G.fnm f ≠ m) : ∀ {fs : List (Nat × Val)} {ws : List (Str × V)}, RFs G F loc S H fs ws → ws.lookup m = none
  | _, _, .nil => rfl
  | _, _, .cons (f := g) r l => by
    rw [List.lookup_cons]
    have b2 : (m == G.fnm g) = false := beq_eq_false_iff_ne.mpr fun z => hm g z.symm
    simp only [b2]
    exact RFs.no hm l
theorem RFs.putF {F : Addr → Prop} {loc : Nat → Addr} {S : Store} {H : Hp} (inj : ∀ f g, G.fnm f = G.fnm g → f = g) {f : Nat} {v : Val} {w : V} (r : RV G F loc S H v w) : ∀ {fs : List (Nat × Val)} {ws : List (Str × V)}, RFs G F loc S H fs ws → RFs G F loc S H (putFd f v fs) (L2.putF (G.fnm f) w ws)
  | _, _, .nil => .cons r .nil
  | _, _, .cons (f := g) (v := x) (w := y) (vs := vs) (ws := ws) q l => by
    show RFs G F loc S H (if g = f then (g, v) :: vs else (g, x) :: putFd f v vs) (if G.fnm g = G.fnm f then (G.fnm g, w) :: ws else (G.fnm g, y) :: L2.putF (G.fnm f) w ws)
    by_cases h : g = f
    · rw [if_pos h, if_pos (by rw [h])]
      exact .cons r l
    · rw [if_neg h, if_neg fun z => h (inj g f z)]
      exact .cons q (RFs.putF inj r l)
theorem RFs.length {F : Addr → Prop} {loc : Nat → Addr} {S : Store} {H : Hp} : ∀ {fs : List (Nat × Val)} {ws : List (Str × V)}, RFs G F loc S H fs ws → ws.length = fs.length
  | _, _, .nil => rfl
  | _, _, .cons _ l => by rw [List.length_cons, List.length_cons, RFs.length l]
theorem E_fld {f : Nat} {nm : Str} (hf : nm = G.fnm f) (inj : ∀ f g, G.fnm f = G.fnm g → f = g) (hc : ∀ c, G.cok c → Cls X.K (G.cls c)) (hn : ∀ c, G.cok c → NoAttr X.K (G.cls c) nm) (ha : PE X a (rdE G W cf ia)) (hb : attributeBase a nm X.env (eval a X.env) = eval a X.env) : PE X (.Attribute a nm pos) (rdE G W cf (.fld ia f)) := by
  refine PEmon (pe_fld ha hb) ?_
  subst hf
  rintro t H Q ⟨F, loc, s, S, hS, hE, p⟩
  simp only [evE] at p
  refine ⟨F, loc, s, S, hS, hE, Post.bind p fun v S1 w F1 loc1 H1 n r p1 => ?_⟩
  split at p1
  · rename_i l
    obtain ⟨rfl, hl⟩ := r
    split at p1
    · rename_i c fs hs
      split at p1
      · rename_i v hv
        obtain ⟨ok, dx, ws, e1, r1⟩ := n.sim.ob l _ hs
        obtain ⟨w, h1, h2⟩ := r1.find inj hv
        exact ⟨_, _, dx, ws, w, rfl, e1, hc c ok, hn c ok, h1, p1 _ _ _ _ (.refl n.sim) h2⟩
      · exact False.elim p1
    · exact False.elim p1
  · exact False.elim p1
/-! ### calls -/
section
variable {CXT : CXT} {k f n ci : Nat} {fa : Addr} {fd : FuncData} {ps ks : List Str} {ds : List Int} {us : List Value} {x m : Str} {p apos : Pos} {o : Expr} {io : IE} {pl : Sem Bool}
theorem post_w {F : Addr → Prop} {loc : Nat → Addr} {S : Store} {H : Hp} {o : Out Val} {t t' : L2.St} {Q : V → Hp → Prop} (hw : ∀ cv d t t' H, W cv d t H → W cv d t' H) (p : PostV G W t F loc S H o Q) : PostV G W t' F loc S H o Q := by
  cases o with
  | ok v S' => exact p
  | err => exact p
  | exc c fs S' => exact fun cv d F' loc' H' m e => hw _ _ _ _ _ (p cv d F' loc' H' m e)
/-- the wish behind a making, from the one for __init__ -/
theorem mk_of {t : L2.St} {F : Addr → Prop} {loc : Nat → Addr} {S : Store} {H : Hp} {args : List Val} {vs : List V} {Q : VK} (ok : G.cok ci) (hS : SimS G F loc S H) (r : RVs G F loc S H args vs) (hn : args.length + 1 = n)
    (p : PostV G W t F loc S H ((cf f (.ref S.length :: args) (S ++ [.ins ci []])).bind fun v S2 => match v with
      | .dat .none => .ok (.ref S.length) S2
      | _ => .err) Q) : ∀ y dx, H y = none → H dx = none → dx ≠ y → spC G n (cf f) (.ref y :: vs) (upd (upd H dx (.own y)) y (.ins (G.cls ci) dx [])) (fun v H2 => v = .non ∧ Q (.ref y) H2) (WE W t) := by
  intro y dx hy hdx ne
  have n1 := Nxt.lay (o := .own y) hS hdx
  have hy1 : upd H dx (.own y) y = none := by rw [upd_ne (Ne.symm ne)]; exact hy
  have n2 := n1.trans (Nxt.lay (o := .ins (G.cls ci) dx []) n1.sim hy1)
  have nl : ∀ l u, S[l]? = some u → alive u = true → loc l ≠ y := fun l u e al q => (hS.ob l u e).there al (by rw [q]; exact hy)
  have n3 := Nxt.push (o := .ins ci []) n2 (.inl hy) (fun f => hS.dom y f hy) nl ⟨ok, dx, [], upd_same, .nil⟩
  have len : (S ++ [Ob.ins ci []]).length = S.length + 1 := by rw [List.length_append, List.length_singleton]
  have rv : RV G F (fun l => if l = S.length then y else loc l) (S ++ [.ins ci []]) (upd (upd H dx (.own y)) y (.ins (G.cls ci) dx [])) (.ref S.length) (.ref y) := by
    refine ⟨?_, by rw [len]; exact Nat.lt_succ_self _⟩
    show V.ref y = V.ref (if S.length = S.length then y else loc S.length)
    rw [if_pos rfl]
  refine spC_of n3.sim (.cons rv (r.next n3)) ?_ ?_
  · rw [List.length_cons]; exact hn
  · refine Post.bind (Post.step n3 p) fun v S2 w F2 loc2 H2 n4 rw2 p2 => ?_
    split at p2
    · have rw2 : Rp G.K F2 H2 w .none := rw2
      cases rw2
      exact ⟨rfl, p2 _ _ _ _ (.refl n4.sim) (rv.next n4)⟩
    · exact False.elim p2
end
end
end IP
namespace IP
open PySem PySem.Spec PyProof.Rows L2

/-! ### what a for walks -/
/-- J gives the items xs, from a state on where they are settled -/
structure WkD (G : GC) (J : It) (xs : List PyData) (F0 : Addr → Prop) (H0 : Hp) : Prop where
  go : ∀ i F loc S H, SimS G F loc S H → (∀ a, F0 a → F a) → (∀ a o, F0 a → H0 a = some o → H a = some o) → i < xs.length → J.go i H
  stop : ∀ F loc S H, SimS G F loc S H → (∀ a, F0 a → F a) → (∀ a o, F0 a → H0 a = some o → H a = some o) → J.stop xs.length H
  yld : ∀ i F loc S H x H' p, SimS G F loc S H → (∀ a, F0 a → F a) → (∀ a o, F0 a → H0 a = some o → H a = some o) → xs[i]? = some p → J.yld i H x H' → ∃ F', Nxt G F loc S H F' loc S H' ∧ Rp G.K F' H' x p
noncomputable abbrev PostI (G : GC) := Post (A := List PyData) (B := It) G (fun F _ _ H xs J => WkD G J xs F H)
noncomputable def rdI (G : GC) (W : WX) (cf : CallF) (e : IE) : TI := fun t H R => ∃ F loc s S, SimS G F loc S H ∧ SimE G F loc S H s t ∧ PostI G W t F loc S H (itO (evE cf e s S)) R
section
variable {G : GC} {F : Addr → Prop} {H : Hp} {a b : Addr} {xs ys : List V} {ps qs : List PyData}
theorem wk_list (f : F a) (e : H a = some (.lst xs)) (l : RpL G.K F H xs ps) : WkD G (Itl G.K a) ps F H := by
  refine ⟨fun i F1 loc S H1 _ sub kp hi => ?_, fun F1 loc S H1 _ sub kp => ?_, fun i F1 loc S H1 x H' p hS sub kp e1 y => ?_⟩
  · have q : SqL G.K H1 a xs := .inl (.inl (kp a _ f e))
    have hi' : i < xs.length := by rw [l.length]; exact hi
    exact walk_list.goes i H1 hi' q
  · have q : SqL G.K H1 a xs := .inl (.inl (kp a _ f e))
    rw [← l.length]
    exact walk_list.stops H1 q
  · have q : SqL G.K H1 a xs := .inl (.inl (kp a _ f e))
    obtain ⟨rfl, y⟩ := y
    obtain ⟨w, h1, h2⟩ := l.get e1
    have := y xs q
    rw [h1] at this
    cases this
    exact ⟨F1, .refl hS, Rp.mono sub kp h2⟩
theorem wk_tup (r : Rp G.K F H (.ref a) (.tuple ps)) : WkD G (Itt G.K a) ps F H := by
  obtain ⟨xs, st, l⟩ : ∃ xs, (∀ (F1 : Addr → Prop) (H1 : Hp), (∀ a, F a → F1 a) → (∀ a o, F a → H a = some o → H1 a = some o) → SqT G.K H1 a xs) ∧ RpL G.K F H xs ps := by
    cases r with
    | tup f e l => exact ⟨_, fun F1 H1 sub kp => .inl (.inl (kp a _ f e)), l⟩
  refine ⟨fun i F1 loc S H1 _ sub kp hi => ?_, fun F1 loc S H1 _ sub kp => ?_, fun i F1 loc S H1 x H' p hS sub kp e1 y => ?_⟩
  · have hi' : i < xs.length := by rw [l.length]; exact hi
    exact walk_tup.goes i H1 hi' (st F1 H1 sub kp)
  · rw [← l.length]
    exact walk_tup.stops H1 (st F1 H1 sub kp)
  · obtain ⟨rfl, y⟩ := y
    obtain ⟨w, h1, h2⟩ := l.get e1
    have := y xs (st F1 _ sub kp)
    rw [h1] at this
    cases this
    exact ⟨F1, .refl hS, Rp.mono sub kp h2⟩
theorem wk_str {z : Str} : WkD G (Its z) (strItems z) F H := by
  have len : (strItems z).length = z.cps.size := by
    unfold strItems
    rw [List.length_map, Array.length_toList]
  refine ⟨fun i F1 loc S H1 _ sub kp hi => by rw [len] at hi; exact hi, fun F1 loc S H1 _ sub kp => by rw [len]; exact Nat.le_refl _, fun i F1 loc S H1 x H' p hS sub kp e1 y => ?_⟩
  obtain ⟨rfl, c, h1, rfl⟩ := y
  unfold strItems at e1
  rw [List.getElem?_map, Array.getElem?_toList, h1] at e1
  cases e1
  exact ⟨F1, .refl hS, .str _⟩
theorem wk_range {lo hi : Int} {n : Nat} (hn : n = (hi - lo).toNat) : WkD G (Itr lo n) (intRange lo hi) F H := by
  have len : (intRange lo hi).length = n := by
    unfold intRange
    rw [List.length_map, List.length_range, hn]
  refine ⟨fun i F1 loc S H1 _ sub kp hi => by rw [len] at hi; exact hi, fun F1 loc S H1 _ sub kp => by rw [len]; exact Nat.le_refl _, fun i F1 loc S H1 x H' p hS sub kp e1 y => ?_⟩
  obtain ⟨rfl, rfl⟩ := y
  unfold intRange at e1
  rw [List.getElem?_map] at e1
  cases q : (List.range (hi - lo).toNat)[i]? with
  | none => rw [q] at e1; cases e1
  | some j =>
    rw [q] at e1
    cases e1
    have : j = i := by
      obtain ⟨h, e⟩ := List.getElem?_eq_some_iff.mp q
      rw [List.getElem_range] at e
      exact e.symm
    subst this
    exact ⟨F1, .refl hS, .int _⟩
noncomputable def zipD (ps qs : List PyData) : List PyData := (ps.zip qs).map fun z => .tuple [z.1, z.2]
theorem zipD_len (ps qs : List PyData) : (zipD ps qs).length = min ps.length qs.length := by
  unfold zipD
  rw [List.length_map, List.length_zip]
theorem zipD_get {i : Nat} {p : PyData} (e : (zipD ps qs)[i]? = some p) : ∃ u v, ps[i]? = some u ∧ qs[i]? = some v ∧ p = .tuple [u, v] := by
  unfold zipD at e
  rw [List.getElem?_map] at e
  cases q : (ps.zip qs)[i]? with
  | none => rw [q] at e; cases e
  | some z =>
    rw [q] at e
    cases e
    rw [List.getElem?_zip_eq_some] at q
    exact ⟨z.1, z.2, q.1, q.2, rfl⟩
theorem pair_new {F1 : Addr → Prop} {loc : Nat → Addr} {S : Store} {H1 : Hp} {T : Addr} {x y : V} {u v : PyData} (hS : SimS G F1 loc S H1) (hT : H1 T = none) (r : Rp G.K F1 H1 x u) (r' : Rp G.K F1 H1 y v) :
    ∃ F', Nxt G F1 loc S H1 F' loc S (upd H1 T (.tup [x, y])) ∧ Rp G.K F' (upd H1 T (.tup [x, y])) (.ref T) (.tuple [u, v]) := by
  have n := Nxt.new (o := .tup [x, y]) hS hT
  exact ⟨_, n, .tup (.inr rfl) upd_same (RpL.mono n.sub n.keep (.cons r (.cons r' .nil)))⟩
theorem wk_zip (f : F a) (e : H a = some (.lst xs)) (l : RpL G.K F H xs ps) (f' : F b) (e' : H b = some (.lst ys)) (l' : RpL G.K F H ys qs) : WkD G (Itz G.K a b) (zipD ps qs) F H := by
  have w := walk_zip (K := G.K) (a := a) (b := b) (xs := xs) (ys := ys) (n := (zipD ps qs).length) (by rw [zipD_len, l.length, l'.length])
  refine ⟨fun i F1 loc S H1 _ sub kp hi => ?_, fun F1 loc S H1 _ sub kp => ?_, fun i F1 loc S H1 x H' p hS sub kp e1 y => ?_⟩
  · exact w.goes i H1 hi ⟨.inl (.inl (kp a _ f e)), .inl (.inl (kp b _ f' e'))⟩
  · exact w.stops H1 ⟨.inl (.inl (kp a _ f e)), .inl (.inl (kp b _ f' e'))⟩
  · obtain ⟨u, v, h1, h2, rfl⟩ := zipD_get e1
    obtain ⟨T, x', y', rfl, hT, rfl, k1, k2⟩ := y
    obtain ⟨w1, g1, g2⟩ := l.get h1
    obtain ⟨w2, g3, g4⟩ := l'.get h2
    have k1 := k1 xs (.inl (.inl (kp a _ f e)))
    have k2 := k2 ys (.inl (.inl (kp b _ f' e')))
    rw [g1] at k1
    rw [g3] at k2
    cases k1
    cases k2
    exact pair_new hS hT (Rp.mono sub kp g2) (Rp.mono sub kp g4)
theorem tup_st {ps : List PyData} (r : Rp G.K F H (.ref a) (.tuple ps)) : ∃ xs, (∀ (F1 : Addr → Prop) (H1 : Hp), (∀ a, F a → F1 a) → (∀ a o, F a → H a = some o → H1 a = some o) → SqT G.K H1 a xs) ∧ RpL G.K F H xs ps := by
  cases r with
  | tup f e l => exact ⟨_, fun F1 H1 sub kp => .inl (.inl (kp a _ f e)), l⟩
theorem wk_zipT (r : Rp G.K F H (.ref a) (.tuple ps)) (r' : Rp G.K F H (.ref b) (.tuple qs)) : WkD G (RZ.ItzT G.K a b) (zipD ps qs) F H := by
  obtain ⟨xs, st, l⟩ := tup_st r
  obtain ⟨ys, st', l'⟩ := tup_st r'
  refine ⟨fun i F1 loc S H1 _ sub kp hi => ?_, fun F1 loc S H1 _ sub kp => ?_, fun i F1 loc S H1 x H' p hS sub kp e1 y => ?_⟩
  · have hi : i < (zipD ps qs).length := hi
    rw [zipD_len] at hi
    have h1 : i < xs.length := by rw [l.length]; omega
    have h2 : i < ys.length := by rw [l'.length]; omega
    exact ⟨xs, ys, xs[i], ys[i], st F1 H1 sub kp, st' F1 H1 sub kp, by simp [h1], by simp [h2]⟩
  · refine ⟨xs, ys, st F1 H1 sub kp, st' F1 H1 sub kp, ?_⟩
    rw [zipD_len, l.length, l'.length]
    omega
  · obtain ⟨u, v, h1, h2, rfl⟩ := zipD_get e1
    obtain ⟨T, x', y', rfl, hT, rfl, k1, k2⟩ := y
    obtain ⟨w1, g1, g2⟩ := l.get h1
    obtain ⟨w2, g3, g4⟩ := l'.get h2
    have k1 := k1 xs (st F1 H1 sub kp)
    have k2 := k2 ys (st' F1 H1 sub kp)
    rw [g1] at k1
    rw [g3] at k2
    cases k1
    cases k2
    exact pair_new hS hT (Rp.mono sub kp g2) (Rp.mono sub kp g4)
end
section
variable {X : Cx} {G : GC} {W : WX} {cf : CallF} {a b c e : Expr} {ia ib ic ie : IE} {pos : Pos} {es : List Expr} {ies : List IE} {tg : Expr}
theorem PImon {w w' : TI} (h : PI X tg e w) (m : ∀ s H Q, w' s H Q → w s H Q) : PI X tg e w' := ⟨fun pins s σ H Q I q => h.run pins s σ H Q I (m _ _ _ q)⟩
theorem PIor {w w' : TI} (h : PI X tg e w) (h' : PI X tg e w') : PI X tg e (fun s H Q => w s H Q ∨ w' s H Q) := ⟨fun pins s σ H Q I q => q.elim (fun q => h.run pins s σ H Q I q) fun q => h'.run pins s σ H Q I q⟩
/-- a list, a tuple, a text, walked -/
theorem I_seq (hK : G.K = X.K) (he : PE X e (rdE G W cf ie)) : PI X tg e (rdI G W cf ie) := by
  refine PImon (PIor (pi_list he) (PIor (pi_tup he) (pi_str he))) ?_
  rintro t H Q ⟨F, loc, s, S, hS, hE, p⟩
  cases q : evE cf ie s S with
  | err => rw [q] at p; exact False.elim p
  | exc c fs S1 =>
    rw [q] at p
    refine .inl ⟨F, loc, s, S, hS, hE, ?_⟩
    rw [q]
    exact p
  | ok v S1 =>
    rw [q] at p
    cases v with
    | ref l => exact False.elim p
    | exn c fs => exact False.elim p
    | dat d =>
      cases d with
      | list ps =>
        refine .inl ⟨F, loc, s, S, hS, hE, ?_⟩
        rw [q]
        intro w F1 loc1 H1 n r
        have r : Rp G.K F1 H1 w (.list ps) := r
        cases r with
        | lst f e l => exact ⟨_, rfl, ⟨_, .inl (.inl e)⟩, hK ▸ p _ _ _ _ n (wk_list f e l)⟩
      | tuple ps =>
        refine .inr (.inl ⟨F, loc, s, S, hS, hE, ?_⟩)
        rw [q]
        intro w F1 loc1 H1 n r
        have r : Rp G.K F1 H1 w (.tuple ps) := r
        obtain ⟨l, xs, rfl, h1, _⟩ := look_tup (x := .dat (.tuple ps)) n.sim r rfl
        exact ⟨_, rfl, ⟨_, hK ▸ h1⟩, hK ▸ p _ _ _ _ n (wk_tup r)⟩
      | str z =>
        refine .inr (.inr ⟨F, loc, s, S, hS, hE, ?_⟩)
        rw [q]
        intro w F1 loc1 H1 n r
        have r : Rp G.K F1 H1 w (.str z) := r
        cases r
        exact ⟨_, rfl, p _ _ _ _ n wk_str⟩
      | none => exact False.elim p
      | bool k => exact False.elim p
      | int k => exact False.elim p
      | dict k => exact False.elim p
theorem I_rg1 {p1 : Pos} (hg : Gl X "range") (hm : X.mg "range" = none) (ha : PE X a (rdE G W cf ia)) (hs : starEach [a] X.env = (false, eval a X.env) :: starEach [] X.env) : PI X tg (.Call (.Name "range" p1) [a] [] pos) (rdI G W cf (.rg1 ia)) := by
  refine PImon (pi_range1 hg hm (pa_cons ha pa_nil hs) hs) ?_
  rintro t H Q ⟨F, loc, s, S, hS, hE, p⟩
  simp only [evE] at p
  refine ⟨F, loc, s, S, hS, hE, ?_⟩
  cases q : evE cf ia s S with
  | err => rw [q] at p; exact False.elim p
  | exc c fs S1 => rw [q] at p; exact p
  | ok v S1 =>
    rw [q] at p
    simp only [Out.bind_ok] at p
    intro w F1 loc1 H1 n r
    split at p
    · rename_i j
      have r : Rp G.K F1 H1 w (.int j) := r
      cases r
      split at p
      · rename_i hj
        have := p (Itr 0 j.toNat) F1 loc1 H1 n (wk_range (by rw [Int.sub_zero]))
        exact ⟨j, rfl, (small_lt hj).2, (small_lt hj).1, this⟩
      · exact False.elim p
    · exact False.elim p
theorem I_rg2 {p1 : Pos} (hg : Gl X "range") (hm : X.mg "range" = none) (ha : PE X a (rdE G W cf ia)) (hb : PE X b (rdE G W cf ib)) (hs : starEach [a, b] X.env = (false, eval a X.env) :: starEach [b] X.env) (hs2 : starEach [b] X.env = (false, eval b X.env) :: starEach [] X.env) :
    PI X tg (.Call (.Name "range" p1) [a, b] [] pos) (rdI G W cf (.rg2 ia ib)) := by
  refine PImon (pi_range2 hg hm (pa_cons ha (pa_cons hb pa_nil hs2) hs) (by rw [hs, hs2]; rfl) hs2) ?_
  rintro t H Q ⟨F, loc, s, S, hS, hE, p⟩
  simp only [evE] at p
  unfold itO at p
  refine ⟨F, loc, s, S, hS, hE, ?_⟩
  cases q : evE cf ia s S with
  | err => rw [q] at p; exact False.elim p
  | exc c fs S1 => rw [q] at p; exact p
  | ok v S1 =>
    rw [q] at p
    simp only [Out.bind_ok] at p
    intro w F1 loc1 H1 n r0
    refine ⟨F1, loc1, s, S1, n.sim, hE.next n, ?_⟩
    cases q2 : evE cf ib s S1 with
    | err => rw [q2] at p; exact False.elim p
    | exc c fs S1 => rw [q2] at p; exact Post.step (A := List PyData) (B := It) (R := fun F _ _ H xs J => WkD G J xs F H) (o := .exc c fs S1) (Q := Q) n p
    | ok v2 S2 =>
      rw [q2] at p
      simp only [Out.bind_ok] at p
      intro w2 F2 loc2 H2 n2 r2
      split at p
      · rename_i i j
        have r : Rp G.K F2 H2 w (.int i) := RV.next (v := .dat (.int i)) n2 r0
        have r2 : Rp G.K F2 H2 w2 (.int j) := r2
        cases r
        cases r2
        split at p
        · rename_i hj
          have := p (Itr i (j - i).toNat) F2 loc2 H2 (n.trans n2) (wk_range rfl)
          exact ⟨i, j, rfl, ⟨(small_lt hj.1).2, (small_lt hj.1).1, (small_lt hj.2).2, (small_lt hj.2).1⟩, this⟩
        · exact False.elim p
      · exact False.elim p
end
end IP
/-! enumerate over a tuple, at the level of the model -/
namespace EnT
open PySem
open PySem.Sem (wp)
section
variable {prog : Program} {w : World} {A : Around} {E : Value → Shared → Prop} {s : Shared}
theorem nxt {en ti tu : Addr} {k : Nat} {its : Array Value} {y was : Value} {Q : Value → Shared → Prop} (he : IsEnum s.heap en ti k was) (hi : s.heap.IsTupleIter ti tu k) (ht : s.heap.IsTuple tu its) (hy : its[k]? = some y) (ne : en ≠ ti)
    (fin : ∀ g, IsEnumOut g en ti ((k : Int) + 1) y s.heap.objs.size → g.IsTupleIter ti tu (k + 1) → g.get? s.heap.objs.size = some { cls := .type "tuple", data := .seq #[.int k s.toks, y] } → g.objs.size = s.heap.objs.size + 1 →
      (∀ b o, b ≠ en → b ≠ ti → s.heap.get? b = some o → g.get? b = some o) → Q (.ref s.heap.objs.size) { s with heap := g, toks := s.toks + 1 }) :
    wpAny (model prog w) A (Builtin.«enumerate.__next__» ⟨[.ref en], []⟩) (fun z s' => ∃ v, z = .done (.ret v) ∧ Q v s') E s := by
  obtain ⟨hp, gs, dd, tk, os⟩ := s
  show wpAny _ _ (field (.ref en) 2 >>= _) _ _ _
  refine wpAny_bind (wpAny_field he rfl (x := .ref ti) rfl ?_)
  refine wpAny_bind (RZ.nextOf_tuple_item hi ht hy fun g1 hi1 sb1 => ?_)
  replace sb1 : Heap.SameBut ti hp g1 := sb1
  have he1 : IsEnum g1 en ti k was := (sb1.2 en ne).trans he
  show wpAny _ _ (field (.ref en) 3 >>= _) _ _ ⟨g1, gs, dd, tk, os⟩
  refine wpAny_bind (wpAny_field he1 rfl (x := rawInt k) rfl ?_)
  show wpAny _ _ (field (.ref en) 4 >>= _) _ _ ⟨g1, gs, dd, tk, os⟩
  refine wpAny_bind (wpAny_field he1 rfl (x := .none) rfl ?_)
  show wpAny _ _ (mkInt k >>= _) _ _ ⟨g1, gs, dd, tk, os⟩
  refine wpAny_bind (wpAny_mkInt ?_)
  show wpAny _ _ (setField (.ref en) 3 (rawInt ((k : Int) + 1)) >>= _) _ _ ⟨g1, gs, dd, tk + 1, os⟩
  refine wpAny_bind (wpAny_setField_rec he1 (by simp) fun g2 he2 sb2 => ?_)
  replace sb2 : Heap.SameBut en g1 g2 := sb2
  replace he2 : IsEnum g2 en ti ((k : Int) + 1) was := he2
  show wpAny _ _ (setField (.ref en) 4 .none >>= _) _ _ ⟨g2, gs, dd, tk + 1, os⟩
  refine wpAny_bind (wpAny_setField_rec he2 (by simp) fun g3 he3 sb3 => ?_)
  replace sb3 : Heap.SameBut en g2 g3 := sb3
  replace he3 : IsEnum g3 en ti ((k : Int) + 1) was := he3
  show wpAny _ _ (newTuple [.int k tk, y] >>= _) _ _ ⟨g3, gs, dd, tk + 1, os⟩
  refine wpAny_bind (wpAny_newTuple ?_)
  have he4 : IsEnum (g3.push { cls := .type "tuple", data := .seq #[.int k tk, y] }) en ti ((k : Int) + 1) was := Heap.get?_push_of_some _ he3
  generalize gen : g3.push { cls := .type "tuple", data := .seq #[.int k tk, y] } = g4 at he4
  have sz3 : g3.objs.size = hp.objs.size := by rw [sb3.1, sb2.1, sb1.1]
  have elt : en < hp.objs.size := Heap.lt_size he
  have tu4 : g4.get? hp.objs.size = some { cls := .type "tuple", data := .seq #[.int k tk, y] } := by rw [← gen, ← sz3]; exact Heap.get?_push_size _ rfl
  have sz4 : g4.objs.size = hp.objs.size + 1 := by rw [← gen, Heap.size_push, sz3]
  have kp4 : ∀ b o, b ≠ en → b ≠ ti → hp.get? b = some o → g4.get? b = some o := fun b o be bi hb => by
    rw [← gen]; exact Heap.get?_push_of_some _ (sb3.extBut b o be (sb2.extBut b o be (sb1.extBut b o bi hb)))
  have it4 : g4.IsTupleIter ti tu (k + 1) := by
    rw [← gen]; obtain ⟨o, ho, r⟩ := (hi1.extBut sb2.extBut (Ne.symm ne)).extBut sb3.extBut (Ne.symm ne); exact ⟨o, Heap.get?_push_of_some _ ho, r⟩
  show wpAny _ _ (Builtin.SmallTypes.ownedTupleIsFree (.ref en) >>= _) _ _ ⟨g4, gs, dd, tk + 1, os⟩
  rw [sz3]
  clear gen he3 sb3 he2 sb2 he1 sb1 hi1 sz3 g3 g2 g1
  refine wpAny_bind ?_
  unfold Builtin.SmallTypes.ownedTupleIsFree
  refine wpAny_bind (wpAny_field he4 rfl (x := .none) rfl (wpAny_pure ?_))
  simp only [if_true]
  refine wpAny_bind (wpAny_rule ?_)
  refine wpAny_bind (wpAny_field he4 rfl (x := was) rfl ?_)
  refine wpAny_bind (wpAny_setField_rec he4 (by simp) fun g5 he5 sb5 => ?_)
  replace sb5 : Heap.SameBut en g4 g5 := sb5
  replace he5 : IsEnum g5 en ti ((k : Int) + 1) y := he5
  show wpAny _ _ (Builtin.SmallTypes.ownedTupleHandOut (.ref en) (.ref hp.objs.size) >>= _) _ _ ⟨g5, gs, dd, tk + 1, os⟩
  refine wpAny_bind ?_
  unfold Builtin.SmallTypes.ownedTupleHandOut
  refine wpAny_bind (wpAny_setField_rec he5 (by simp) fun g6 he6 sb6 => ?_)
  replace sb6 : Heap.SameBut en g5 g6 := sb6
  replace he6 : IsEnumOut g6 en ti ((k : Int) + 1) y hp.objs.size := he6
  refine wpAny_setField_rec he6 (by simp) fun g7 he7 sb7 => ?_
  replace sb7 : Heap.SameBut en g6 g7 := sb7
  replace he7 : IsEnumOut g7 en ti ((k : Int) + 1) y hp.objs.size := he7
  refine wpAny_bind (wpAny_letGo (wpAny_pure ⟨_, rfl, fin g7 he7 ?_ ?_ ?_ ?_⟩))
  · exact ((it4.extBut sb5.extBut (Ne.symm ne)).extBut sb6.extBut (Ne.symm ne)).extBut sb7.extBut (Ne.symm ne)
  · exact sb7.extBut _ _ (Nat.ne_of_gt elt) (sb6.extBut _ _ (Nat.ne_of_gt elt) (sb5.extBut _ _ (Nat.ne_of_gt elt) tu4))
  · rw [sb7.1, sb6.1, sb5.1, sz4]
  · exact fun b o be bi hb => sb7.extBut b o be (sb6.extBut b o be (sb5.extBut b o be (kp4 b o be bi hb)))
theorem item {en ti tu : Addr} {k : Nat} {its : Array Value} {y was : Value} {Q : Option Value → Shared → Prop} (he : IsEnum s.heap en ti k was) (hi : s.heap.IsTupleIter ti tu k) (ht : s.heap.IsTuple tu its) (hy : its[k]? = some y) (ne : en ≠ ti)
    (fin : ∀ g, IsEnumOut g en ti ((k : Int) + 1) y s.heap.objs.size → g.IsTupleIter ti tu (k + 1) → g.get? s.heap.objs.size = some { cls := .type "tuple", data := .seq #[.int k s.toks, y] } → g.objs.size = s.heap.objs.size + 1 →
      (∀ b o, b ≠ en → b ≠ ti → s.heap.get? b = some o → g.get? b = some o) → Q (some (.ref s.heap.objs.size)) { s with heap := g, toks := s.toks + 1 }) :
    wpAny (model prog w) A (pyNext (.ref en)) Q E s := by
  have ty : s.TypeIs (.ref en) "enumerate" := ⟨_, he, rfl⟩
  unfold pyNext
  refine wpAny_bind (wpAny_attempt (wpAny_callSpecial?_slot (name := Str.ofString "__next__") ty F.slot_enumerate_next (wpAny_call_entry F.slot_enumerate_next ty F.entry_enumerate_next ?_ (F.args_enumerate_next_1 _))))
  exact nxt he hi ht hy ne fun g a b c d k => wpAny_pure (fin g a b c d k)
theorem fin {en ti tu : Addr} {k : Nat} {its : Array Value} {was : Value} {Q : Option Value → Shared → Prop} (hh : A.handled = none) (he : IsEnum s.heap en ti k was) (hi : s.heap.IsTupleIter ti tu k) (ht : s.heap.IsTuple tu its) (hy : its[k]? = none)
    (fin : ∀ g, Heap.ExtBut ti s.heap g → Q none { s with heap := g }) : wpAny (model prog w) A (pyNext (.ref en)) Q E s := by
  have ty : s.TypeIs (.ref en) "enumerate" := ⟨_, he, rfl⟩
  unfold pyNext
  refine wpAny_bind (wpAny_attempt (wpAny_callSpecial?_slot (name := Str.ofString "__next__") ty F.slot_enumerate_next (wpAny_call_entry F.slot_enumerate_next ty F.entry_enumerate_next ?_ (F.args_enumerate_next_1 _))))
  show wpAny _ _ (field (.ref en) 2 >>= _) _ _ _
  refine wpAny_bind (wpAny_field he rfl (x := .ref ti) rfl ?_)
  refine wpAny_bind (RZ.nextOf_tuple_end hh hi ht hy fun g x eb ⟨o, ho, hc⟩ => ?_)
  exact wpAny_bind (wpAny_isInstance (T := "StopIteration") (b := true) ⟨o, ho, hc⟩ isSubtype_stop (wpAny_pure (fin _ eb)))
end
theorem meets_new (tu : Addr) (its : Array Value) : Meets (Builtin.«enumerate.__new__» ⟨[.type "enumerate", .ref tu], []⟩) (fun _ R s => s.heap.IsTuple tu its ∧
      R (.ok (.ret (.ref (s.heap.push { cls := .type "tuple_iterator", data := .fields #[.ref tu, .int 0 0] }).objs.size)))
        { s with heap := (s.heap.push { cls := .type "tuple_iterator", data := .fields #[.ref tu, .int 0 0] }).push { cls := .type "enumerate", data := .fields #[.none, .bool false, .ref s.heap.objs.size, rawInt 0, .none, .none] } }) :=
  .of_wp fun prog w A R s h => by
    obtain ⟨hp, gs, dd, tk, os⟩ := s
    obtain ⟨ht, h⟩ := h
    have hsub := sub_enumerate
    have hT : Heap.IsTuple (Shared.heap ⟨hp, gs, dd, tk, os⟩) tu its := ht
    wp_walk using wpAny_pyIter_tuple hT
    refine wpAny_stack_any fun st => wpAny_pure ?_
    split
    · rename_i c _ _ _ _ _
      cases (c == Value.type "enumerate")
      · wp_walk using wpAny_pyIter_tuple hT
        exact ⟨_, rfl, h⟩
      · wp_walk using wpAny_pyIter_tuple hT
        exact ⟨_, rfl, h⟩
    · wp_walk using wpAny_pyIter_tuple hT
      exact ⟨_, rfl, h⟩
section
variable {prog : Program} {w : World} {A : Around} {E : Value → Shared → Prop} {s : Shared}
theorem make {tu : Addr} {its : Array Value} {Q : Value → Shared → Prop} (ht : s.heap.IsTuple tu its)
    (h : ∀ g, IsEnum g (s.heap.objs.size + 1) s.heap.objs.size 0 .none → g.IsTupleIter s.heap.objs.size tu 0 → g.objs.size = s.heap.objs.size + 2 → (∀ b o, s.heap.get? b = some o → g.get? b = some o) → Q (.ref (s.heap.objs.size + 1)) { s with heap := g }) :
    wpAny (model prog w) A (call (.type "enumerate") [.ref tu]) Q E s := by
  refine callType_new F.called_enumerate (by decide) (F.typeCall_enumerate_1 _) (F.newCall_enumerate_1 _) (fun ob => F.args_object_init_2 ob _) F.entry_enumerate_new (meets_new tu its) ⟨ht, ?_⟩
  have z1 : (s.heap.push { cls := .type "tuple_iterator", data := .fields #[.ref tu, .int 0 0] }).objs.size = s.heap.objs.size + 1 := Heap.size_push ..
  have g1 := Heap.get?_push_size (s.heap.push { cls := .type "tuple_iterator", data := .fields #[.ref tu, .int 0 0] }) (o := { cls := .type "enumerate", data := .fields #[.none, .bool false, .ref s.heap.objs.size, rawInt 0, .none, .none] }) rfl
  show _ ∧ _
  rw [z1] at g1 ⊢
  exact ⟨⟨_, g1, rfl⟩, h _ g1 ⟨_, Heap.get?_push_of_some _ (Heap.get?_push_size _ rfl), rfl, rfl⟩ (by rw [Heap.size_push, z1]) fun b o x => Heap.get?_push_of_some _ (Heap.get?_push_of_some _ x)⟩
end
open PySem.Spec PyProof.Rows L2
noncomputable def It_ (K : PySem.W.Frag) (a : Addr) : It :=
  ⟨fun i H => ∃ (xs : List V) (x : V), SqT K H a xs ∧ xs[i]? = some x, fun i H v H' => ∃ T x, v = .ref T ∧ H T = none ∧ H' = upd H T (.tup [.int (i : Nat), x]) ∧ ∀ zs, SqT K H a zs → zs[i]? = some x, fun i H => ∃ xs : List V, SqT K H a xs ∧ xs.length ≤ i⟩
theorem turn {P : Program} {w : World} {K : PySem.W.Frag} {elts : List Expr} {kk : Nat} {tpos : Pos} (a e it : Addr) :
    Turn P w K (.Tuple elts kk tpos) (It_ K a) [e, it] e (fun i h => (∃ was, IsEnum h e it ((i : Nat) : Int) was) ∧ h.IsTupleIter it a i ∧ e ≠ it) where
  mem := by simp
  obj := fun i h st b hb => by
    obtain ⟨⟨was, he⟩, ⟨o, ho, hc, hd⟩, _⟩ := st
    rcases (show b = e ∨ b = it by simpa using hb) with z | z
    · subst z; exact ⟨_, he, fun v q => nomatch q⟩
    · subst z; exact ⟨o, ho, fun v q => by rw [hd] at q; cases q⟩
  keep := fun i h h' ⟨⟨was, he⟩, hi, ne⟩ k => ⟨⟨was, k e (by simp) _ he⟩, hi.at fun o q => k it (by simp) o q, ne⟩
  item := by
    intro X hP hw hK hc i pins s σ H E I hf st hg
    subst hP hw hK
    obtain ⟨⟨was, he⟩, hit, ne⟩ := st
    obtain ⟨xs, x, hq, hx⟩ := hg
    obtain ⟨its, rv, p, hz⟩ := I.tuple hq
    obtain ⟨u, hu, ru⟩ := rv.get hx
    have el : e < s.heap.objs.size := Heap.lt_size he
    have il : it < s.heap.objs.size := by obtain ⟨_, q, _⟩ := hit; exact Heap.lt_size q
    refine EnT.item he hit p (y := u) (by simpa using hu) ne fun g ho hit' hT hsz hk => ?_
    refine ⟨_, rfl, wpAny_letOwnedTupleGo_enum (s := { s with heap := g, toks := s.toks + 1 }) ho fun g2 he2 sb => ?_⟩
    have hT2 : g2.get? s.heap.objs.size = some { cls := .type "tuple", data := .seq #[.int i s.toks, u] } := (sb.2 _ (Nat.ne_of_gt el)).trans hT
    have new : ObjOk X.prog X.w (upd H s.heap.objs.size (.tup [.int (i : Nat), x])) g2 s.heap.objs.size (.tup [.int (i : Nat), x]) := ⟨by show 2 ≤ sizeLine; decide, [.int i s.toks, u], .cons ⟨_, rfl⟩ (.cons ru .nil), ⟨_, hT2, rfl, _, rfl⟩⟩
    have I1 : Inv X pins σ (upd H s.heap.objs.size (.tup [.int (i : Nat), x])) { s with heap := g2, toks := s.toks + 1 } :=
      I.turnedNew (ch := [e, it]) (fun b ob hb q => (sb.2 b (fun z => hb (by simp [z]))).trans (hk b ob (fun z => hb (by simp [z])) (fun z => hb (by simp [z])) q)) hf (Nat.le_refl _) new
    refine ⟨.ref s.heap.objs.size, _, I1, rfl, ⟨_, x, rfl, I.hok.fresh (Nat.le_refl _), rfl, fun zs hy => by rw [I.tuple_inj hy hq]; exact hx⟩, ⟨⟨u, ?_⟩, hit'.at fun o q => (sb.2 it (Ne.symm ne)).trans q, ne⟩, fun b hb => ?_⟩
    · rw [show ((i + 1 : Nat) : Int) = (i : Int) + 1 by omega]; exact he2
    · have lt : b < s.heap.objs.size := by
        rcases (show b = e ∨ b = it by simpa using hb) with z | z
        · rw [z]; exact el
        · rw [z]; exact il
      rw [upd_ne (Nat.ne_of_lt lt)]
      exact (hf b hb).1
  done := by
    intro X hP hw hK hc i pins s σ H E I hf st hg
    subst hP hw hK
    obtain ⟨⟨was, he⟩, hit, ne⟩ := st
    obtain ⟨xs, hq, hx⟩ := hg
    obtain ⟨its, rv, p, hz⟩ := I.tuple hq
    obtain ⟨f0, f1, f2, f3, f4, f5⟩ := hf it (by simp)
    have ll := rv.length
    exact EnT.fin (I.ok.hd hc) he hit p (by simp; omega) fun g eb => ⟨rfl, I.turned (t' := s.toks) (fun b o hb q => eb b o hb q) f0 f1 f3 f4 f5⟩
  self := fun A i s Q E st h => let ⟨⟨_, he⟩, _⟩ := st; wpAny_pyIter_enum he h
noncomputable def iE (K : PySem.W.Frag) (ta : TA) : TI := fun σ H R => ta σ H fun vs H1 => ∃ a xs, vs = [.ref a] ∧ SqT K H1 a xs ∧ R (It_ K a) H1
theorem pi {X : Cx} {e : Expr} {ta : TA} {p pos tpos : Pos} {elts : List Expr} {kk : Nat} (hg : Gl X "enumerate") (hm : X.mg "enumerate" = none) (ha : PA X [e] ta) (hs : starEach [e] X.env = [(false, eval e X.env)] := by rfl) :
    PI X (.Tuple elts kk tpos) (.Call (.Name "enumerate" p) [e] [] pos) (iE X.K ta) := by
  refine ⟨fun pins s σ H R I h => ?_⟩
  refine Call_ (ld_blt I hg hm boot_enumerate (PyProof.Rows.callWith_type1 (thn (ha.run pos pins s σ H _ I h) fun us s1 ⟨vs, H1, I1, r1, q1⟩ => ?_) hs rfl))
  obtain ⟨a, xs, ex, hq, q⟩ := q1
  subst ex
  cases r1 with
  | cons r rr =>
    cases rr
    cases r
    obtain ⟨its, rv, p', hz⟩ := I1.tuple hq
    refine EnT.make p' fun g he hit hsz hk => wpAny_pyIter_enum he ?_
    have I2 : Inv X pins σ H1 { s1 with heap := g } := I1.kept (t' := s1.toks) hk
    refine ⟨s1.heap.objs.size + 1, [s1.heap.objs.size + 1, s1.heap.objs.size], _, _, H1, rfl, I2, EnT.turn a (s1.heap.objs.size + 1) s1.heap.objs.size, ⟨⟨.none, he⟩, hit, Nat.succ_ne_self _⟩, fun b hb => ?_, q⟩
    have le : s1.heap.objs.size ≤ b := by
      rcases (show b = s1.heap.objs.size + 1 ∨ b = s1.heap.objs.size by simpa using hb) with z | z
      · rw [z]; exact Nat.le_add_right _ _
      · rw [z]; exact Nat.le_refl _
    exact I1.fpOk le (I1.hok.fresh le)
end EnT
/-! zip of a list and a tuple -/
namespace IP
open PySem PySem.Spec PyProof.Rows L2
/-- the list at a and the tuple at b, side by side -/
noncomputable def ItzM (K : PySem.W.Frag) (a b : Addr) : It where
  go := fun i H => ∃ (xs ys : List V) (x y : V), SqL K H a xs ∧ SqT K H b ys ∧ xs[i]? = some x ∧ ys[i]? = some y
  yld := fun i H v H' => ∃ T x y, v = .ref T ∧ H T = none ∧ H' = upd H T (.tup [x, y]) ∧ (∀ xs, SqL K H a xs → xs[i]? = some x) ∧ ∀ ys, SqT K H b ys → ys[i]? = some y
  stop := fun i H => ∃ xs ys : List V, SqL K H a xs ∧ SqT K H b ys ∧ i ≤ xs.length ∧ i ≤ ys.length ∧ (i = xs.length ∨ i = ys.length)
theorem sepM {z TI TO i1 i2 a b : Addr} (D : ZipApart z TI TO i1 i2 a b) : ZipSep2 z TI TO i1 i2 [i1, a] [i2, b] where
  TIz := D.TIz
  TOz := D.TOz
  TITO := D.TITO
  TIi1 := D.TIi1
  mem1 := by simp
  zf1 := by
    intro h
    rcases List.mem_cons.mp h with h | h
    · exact D.i1z h.symm
    · exact D.l1z (List.mem_singleton.mp h).symm
  Tf1 := by
    intro h
    rcases List.mem_cons.mp h with h | h
    · exact D.TOi1 h
    · exact D.l1TO (List.mem_singleton.mp h).symm
  TIi2 := D.TIi2
  mem2 := by simp
  zf2 := by
    intro h
    rcases List.mem_cons.mp h with h | h
    · exact D.i2z h.symm
    · exact D.l2z (List.mem_singleton.mp h).symm
  Tf2 := by
    intro h
    rcases List.mem_cons.mp h with h | h
    · exact D.TOi2 h
    · exact D.l2TO (List.mem_singleton.mp h).symm
  sep1_2 := by
    intro h
    rcases List.mem_cons.mp h with h | h
    · exact D.i12 h
    · exact D.l2i1 (List.mem_singleton.mp h).symm
  sep2_1 := by
    intro h
    rcases List.mem_cons.mp h with h | h
    · exact D.i12 h.symm
    · exact D.l1i2 (List.mem_singleton.mp h).symm
theorem turn_zipM {P : Program} {w : World} {K : PySem.W.Frag} {elts : List Expr} {kk : Nat} {tpos : Pos} {a b z TI TO i1 i2 : Addr} (D : ZipApart z TI TO i1 i2 a b) :
    Turn P w K (.Tuple elts kk tpos) (ItzM K a b) [z, TI, TO, i1, i2] z (fun i h => IsZip h z TI TO .none ∧ IsTupOf2 h TI (.ref i1) (.ref i2) ∧ (∃ x y, IsTupOf2 h TO x y) ∧ h.IsListIter i1 a i ∧ h.IsTupleIter i2 b i) where
  mem := by simp
  obj := fun i h st c hc => by
    obtain ⟨hz, hTI, ⟨x, y, hTO⟩, ⟨o1, e1, _, d1⟩, ⟨o2, e2, _, d2⟩⟩ := st
    have hc' : c = z ∨ c = TI ∨ c = TO ∨ c = i1 ∨ c = i2 := by simpa using hc
    rcases hc' with rfl | rfl | rfl | rfl | rfl
    · exact ⟨_, hz, nofun⟩
    · exact ⟨_, hTI, nofun⟩
    · exact ⟨_, hTO, nofun⟩
    · exact ⟨o1, e1, fun v q => by rw [d1] at q; cases q⟩
    · exact ⟨o2, e2, fun v q => by rw [d2] at q; cases q⟩
  keep := fun i h h' st k => by
    obtain ⟨hz, hTI, ⟨x, y, hTO⟩, h1, h2⟩ := st
    exact ⟨k z (by simp) _ hz, k TI (by simp) _ hTI, ⟨x, y, k TO (by simp) _ hTO⟩, h1.at fun o q => k i1 (by simp) o q, h2.at fun o q => k i2 (by simp) o q⟩
  item := by
    intro X hP hw hK hc i pins s σ H E I hf st hg
    subst hP hw hK
    obtain ⟨hz, hTI, ⟨x0, y0, hTO⟩, h1, h2⟩ := st
    obtain ⟨xs, ys, x, y, hqx, hqy, hx, hy⟩ := hg
    obtain ⟨its, rv, p, _⟩ := I.list hqx
    obtain ⟨its2, rv2, p2, _⟩ := I.tuple hqy
    obtain ⟨u, hu, ru⟩ := rv.get hx
    obtain ⟨u2, hu2, ru2⟩ := rv2.get hy
    have hh := I.ok.hd hc
    have D1 := Draws.list (prog := X.prog) (w := X.w) (A := X.A.in1) hh i1 a D.l1i1 its.toArray
    have D2 := Draws.tuple (prog := X.prog) (w := X.w) (A := X.A.in1) hh i2 b D.l2i2 its2.toArray
    have lt1 := (List.getElem?_eq_some_iff.mp hu).1
    have lt2 := (List.getElem?_eq_some_iff.mp hu2).1
    have hzl : z < s.heap.objs.size := Heap.lt_size hz
    refine wpAny_pyNext_zipD2_item (sepM D) D1 D2 hz hTI hTO ⟨h1, p.isList⟩ ⟨h2, p2⟩ (by simpa using lt1) (by simpa using lt2) fun v1 v2 h' tk q1 q2 z' TO' st1 st2 hT hsz hk => ?_
    have q1 : v1 = u := by
      have : its.toArray[i]? = some v1 := q1
      rw [List.getElem?_toArray, hu] at this
      exact (Option.some.inj this).symm
    have q2 : v2 = u2 := by
      have : its2.toArray[i]? = some v2 := q2
      rw [List.getElem?_toArray, hu2] at this
      exact (Option.some.inj this).symm
    subst q1 q2
    refine ⟨_, rfl, wpAny_letOwnedTupleGo_zip (s := { s with heap := h', toks := tk }) z' fun h'' z'' sb => ?_⟩
    have hT2 : h''.get? s.heap.objs.size = some { cls := .type "tuple", data := .seq #[v1, v2] } := (sb.2 _ (Nat.ne_of_gt hzl)).trans hT
    have new : ObjOk X.prog X.w (upd H s.heap.objs.size (.tup [x, y])) h'' s.heap.objs.size (.tup [x, y]) :=
      ⟨by show 2 ≤ sizeLine; decide, [v1, v2], .cons ru (.cons ru2 .nil), ⟨_, hT2, rfl, _, rfl⟩⟩
    have keep : ∀ c o, c ∉ [z, TI, TO, i1, i2] → s.heap.get? c = some o → h''.get? c = some o := fun c o hb q =>
      (sb.2 c (fun q' => hb (by simp [q']))).trans (hk c o (fun q' => hb (by simp [q'])) (fun q' => hb (by simp [q'])) (fun q' => hb (by simp [q'])) (fun q' => hb (by simp [q'])) q)
    have I1 : Inv X pins σ (upd H s.heap.objs.size (.tup [x, y])) { s with heap := h'', toks := tk } := I.turnedNew (t' := tk) (ch := [z, TI, TO, i1, i2]) keep hf (Nat.le_refl _) new
    refine ⟨.ref s.heap.objs.size, _, I1, rfl, ⟨_, x, y, rfl, I.hok.fresh (Nat.le_refl _), rfl, fun l hl => by rw [I.list_inj hl hqx]; exact hx, fun l hl => by rw [I.tuple_inj hl hqy]; exact hy⟩, ⟨z'', ?_, ⟨v1, v2, ?_⟩, ?_, ?_⟩, fun c hcm => ?_⟩
    · exact (sb.2 _ D.TIz).trans (hk _ _ D.TIz D.TITO D.TIi1 D.TIi2 hTI)
    · exact (sb.2 _ D.TOz).trans TO'
    · exact st1.1.at fun o q => (sb.2 _ D.i1z).trans q
    · exact st2.1.at fun o q => (sb.2 _ D.i2z).trans q
    · have hlt : c < s.heap.objs.size := by
        have hc' : c = z ∨ c = TI ∨ c = TO ∨ c = i1 ∨ c = i2 := by simpa using hcm
        rcases hc' with rfl | rfl | rfl | rfl | rfl
        · exact hzl
        · exact Heap.lt_size hTI
        · exact Heap.lt_size hTO
        · obtain ⟨_, e1, _⟩ := h1; exact Heap.lt_size e1
        · obtain ⟨_, e2, _⟩ := h2; exact Heap.lt_size e2
      rw [upd_ne (Nat.ne_of_lt hlt)]
      exact (hf c hcm).1
  done := by
    intro X hP hw hK hc i pins s σ H E I hf st hg
    subst hP hw hK
    obtain ⟨hz, hTI, ⟨x0, y0, hTO⟩, h1, h2⟩ := st
    obtain ⟨xs, ys, hqx, hqy, l1, l2, hend⟩ := hg
    obtain ⟨its, rv, p, _⟩ := I.list hqx
    obtain ⟨its2, rv2, p2, _⟩ := I.tuple hqy
    have n1 := rv.length
    have n2 := rv2.length
    have hh := I.ok.hd hc
    have D1 := Draws.list (prog := X.prog) (w := X.w) (A := X.A.in1) hh i1 a D.l1i1 its.toArray
    have D2 := Draws.tuple (prog := X.prog) (w := X.w) (A := X.A.in1) hh i2 b D.l2i2 its2.toArray
    exact wpAny_pyNext_zipD2_end (sepM D) D1 D2 hz hTI hTO ⟨h1, p.isList⟩ ⟨h2, p2⟩ (by simp; omega) (by simp; omega) (by simp; omega) fun h' tk hk => ⟨rfl, I.turnedL (t' := tk) (ch := [z, TI, TO, i1, i2]) (fun c o hb q =>
      hk c o (fun q' => hb (by simp [q'])) (fun q' => hb (by simp [q'])) (fun q' => hb (by simp [q'])) (fun q' => hb (by simp [q'])) q) hf⟩
  self := fun A i s Q E st h => wpAny_pyIter_zip st.1 h
noncomputable def iZipM (K : PySem.W.Frag) (ta : TA) : TI := fun σ H R => ta σ H fun vs H1 => ∃ a b xs ys, vs = [.ref a, .ref b] ∧ SqL K H1 a xs ∧ SqT K H1 b ys ∧ R (ItzM K a b) H1
theorem pi_zipM {X : Cx} {e e2 : Expr} {ta : TA} {p pos tpos : Pos} {elts : List Expr} {kk : Nat} (hg : Gl X "zip") (hm : X.mg "zip" = none) (ha : PA X [e, e2] ta)
    (hs : starEach [e, e2] X.env = (false, eval e X.env) :: starEach [e2] X.env) (hpl : (backTo pos (starEach [e2] X.env)).any (·.1) = false) :
    PI X (.Tuple elts kk tpos) (.Call (.Name "zip" p) [e, e2] [] pos) (iZipM X.K ta) := by
  refine ⟨fun pins s σ H R I h => ?_⟩
  refine Call_ (ld_blt I hg hm PyProof.Rows.boot_zip (PyProof.Rows.callWith_type1 (thn (ha.run pos pins s σ H _ I h) fun us s1 ⟨vs, H1, I1, r1, q1⟩ => ?_) hs hpl))
  obtain ⟨a, b, xs, ys, ex, hqx, hqy, q⟩ := q1
  subst ex
  cases r1 with
  | cons r rr =>
    cases rr with
    | cons r' rr =>
      cases rr
      cases r
      cases r'
      obtain ⟨its, rv, p1, _⟩ := I1.list hqx
      obtain ⟨its2, rv2, p2, _⟩ := I1.tuple hqy
      have la : a < s1.heap.objs.size := p1.lt
      have lb : b < s1.heap.objs.size := let ⟨o, e, _⟩ := p2; Heap.lt_size e
      refine PySem.zip_begins2 (begins_list a its.toArray) (begins_tuple b its2.toArray) p1.isList p2 fun h' hz hTI hTO h1 h2 hsz hk => wpAny_pyIter_zip hz ?_
      have I2 : Inv X pins σ H1 { s1 with heap := h' } := I1.kept (t' := s1.toks) hk
      refine ⟨s1.heap.objs.size + 4, [s1.heap.objs.size + 4, s1.heap.objs.size + 2, s1.heap.objs.size + 3, s1.heap.objs.size, s1.heap.objs.size + 1], _, _, H1, rfl, I2, turn_zipM (PySem.W.ktu_apart s1.heap.objs.size a b la lb), ⟨hz, hTI, ⟨_, _, hTO⟩, ⟨_, h1, rfl, rfl⟩, ⟨_, h2, rfl, rfl⟩⟩, fun c hcm => ?_, q⟩
      have hle : s1.heap.objs.size ≤ c := by
        have hc' : c = s1.heap.objs.size + 4 ∨ c = s1.heap.objs.size + 2 ∨ c = s1.heap.objs.size + 3 ∨ c = s1.heap.objs.size ∨ c = s1.heap.objs.size + 1 := by simpa using hcm
        rcases hc' with rfl | rfl | rfl | rfl | rfl
        · exact Nat.le_add_right _ _
        · exact Nat.le_add_right _ _
        · exact Nat.le_add_right _ _
        · exact Nat.le_refl _
        · exact Nat.le_add_right _ _
      exact I1.fpOk hle (I1.hok.fresh hle)
section
variable {G : GC} {F : Addr → Prop} {H : Hp} {a b : Addr} {xs ys : List V} {ps qs : List PyData}
theorem wk_zipM (f : F a) (e : H a = some (.lst xs)) (l : RpL G.K F H xs ps) (r' : Rp G.K F H (.ref b) (.tuple qs)) : WkD G (ItzM G.K a b) (zipD ps qs) F H := by
  obtain ⟨ys, st', l'⟩ := tup_st r'
  have sl : ∀ (H1 : Hp), (∀ a o, F a → H a = some o → H1 a = some o) → SqL G.K H1 a xs := fun H1 kp => .inl (.inl (kp a _ f e))
  refine ⟨fun i F1 loc S H1 _ sub kp hi => ?_, fun F1 loc S H1 _ sub kp => ?_, fun i F1 loc S H1 x H' p hS sub kp e1 y => ?_⟩
  · have hi : i < (zipD ps qs).length := hi
    rw [zipD_len] at hi
    have h1 : i < xs.length := by rw [l.length]; omega
    have h2 : i < ys.length := by rw [l'.length]; omega
    exact ⟨xs, ys, xs[i], ys[i], sl H1 kp, st' F1 H1 sub kp, by simp [h1], by simp [h2]⟩
  · refine ⟨xs, ys, sl H1 kp, st' F1 H1 sub kp, ?_⟩
    rw [zipD_len, l.length, l'.length]
    omega
  · obtain ⟨u, v, h1, h2, rfl⟩ := zipD_get e1
    obtain ⟨T, x', y', rfl, hT, rfl, k1, k2⟩ := y
    obtain ⟨w1, g1, g2⟩ := l.get h1
    obtain ⟨w2, g3, g4⟩ := l'.get h2
    have k1 := k1 xs (sl H1 kp)
    have k2 := k2 ys (st' F1 H1 sub kp)
    rw [g1] at k1
    rw [g3] at k2
    cases k1
    cases k2
    exact pair_new hS hT (Rp.mono sub kp g2) (Rp.mono sub kp g4)
end
end IP
namespace IP
open PySem PySem.Spec PyProof.Rows L2

section
variable {X : Cx} {G : GC} {W : WX} {cf : CallF} {a b c e : Expr} {ia ib ic ie : IE} {pos tpos : Pos} {es : List Expr} {ies : List IE} {tg : Expr}
theorem I_zip {p1 : Pos} {elts : List Expr} {kk : Nat} (hK : G.K = X.K) (hg : Gl X "zip") (hm : X.mg "zip" = none) (ha : PE X a (rdE G W cf ia)) (hb : PE X b (rdE G W cf ib)) (hs : starEach [a, b] X.env = (false, eval a X.env) :: starEach [b] X.env) (hs2 : starEach [b] X.env = (false, eval b X.env) :: starEach [] X.env) :
    PI X (.Tuple elts kk tpos) (.Call (.Name "zip" p1) [a, b] [] pos) (rdI G W cf (.zip ia ib)) := by
  have pa := pa_cons ha (pa_cons hb pa_nil hs2) hs
  have pl : (backTo pos (starEach [b] X.env)).any (·.1) = false := by rw [hs2]; rfl
  refine PImon (PIor (RZ.pi_zipA hg hm pa hs pl) (pi_zipM hg hm pa hs pl)) ?_
  rintro t H Q ⟨F, loc, s, S, hS, hE, p⟩
  simp only [evE] at p
  unfold itO at p
  by_cases hk : ∃ xs ys S1 S2, evE cf ia s S = .ok (.dat (.list xs)) S1 ∧ evE cf ib s S1 = .ok (.dat (.tuple ys)) S2
  · refine .inr ?_
    obtain ⟨xs, ys, S1, S2, e1, e2⟩ := hk
    refine ⟨F, loc, s, S, hS, hE, ?_⟩
    rw [e1] at p ⊢
    simp only [Out.bind_ok] at p
    intro w F1 loc1 H1 n r0
    refine ⟨F1, loc1, s, S1, n.sim, hE.next n, ?_⟩
    rw [e2] at p ⊢
    simp only [Out.bind_ok] at p
    intro w2 F2 loc2 H2 n2 r2
    have r : Rp G.K F2 H2 w (.list xs) := RV.next (v := .dat (.list xs)) n2 r0
    have r2 : Rp G.K F2 H2 w2 (.tuple ys) := r2
    obtain ⟨m, ws, rfl, h2, _⟩ := look_tup (x := .dat (.tuple ys)) n2.sim r2 rfl
    cases r with
    | lst f e l =>
      have := p _ F2 loc2 H2 (n.trans n2) (wk_zipM f e l r2)
      exact ⟨_, _, _, _, rfl, .inl (.inl e), hK ▸ h2, hK ▸ this⟩
  refine .inl ?_
  refine ⟨F, loc, s, S, hS, hE, ?_⟩
  cases q : evE cf ia s S with
  | err => rw [q] at p; exact False.elim p
  | exc c fs S1 => rw [q] at p; exact p
  | ok v S1 =>
    rw [q] at p
    simp only [Out.bind_ok] at p
    intro w F1 loc1 H1 n r0
    refine ⟨F1, loc1, s, S1, n.sim, hE.next n, ?_⟩
    cases q2 : evE cf ib s S1 with
    | err => rw [q2] at p; exact False.elim p
    | exc c fs S1 => rw [q2] at p; exact Post.step (A := List PyData) (B := It) (R := fun F _ _ H xs J => WkD G J xs F H) (o := .exc c fs S1) (Q := Q) n p
    | ok v2 S2 =>
      rw [q2] at p
      simp only [Out.bind_ok] at p
      intro w2 F2 loc2 H2 n2 r2
      split at p
      · rename_i xs ys
        have r : Rp G.K F2 H2 w (.list xs) := RV.next (v := .dat (.list xs)) n2 r0
        have r2 : Rp G.K F2 H2 w2 (.list ys) := r2
        cases r with
        | lst f e l =>
          cases r2 with
          | lst f' e' l' =>
            have := p _ F2 loc2 H2 (n.trans n2) (wk_zip f e l f' e' l')
            exact ⟨_, _, _, _, rfl, .inl ⟨.inl (.inl e), .inl (.inl e'), hK ▸ this⟩⟩
      · rename_i xs ys
        have r : Rp G.K F2 H2 w (.tuple xs) := RV.next (v := .dat (.tuple xs)) n2 r0
        have r2 : Rp G.K F2 H2 w2 (.tuple ys) := r2
        obtain ⟨l, us, rfl, h1, _⟩ := look_tup (x := .dat (.tuple xs)) n2.sim r rfl
        obtain ⟨m, ws, rfl, h2, _⟩ := look_tup (x := .dat (.tuple ys)) n2.sim r2 rfl
        have := p _ F2 loc2 H2 (n.trans n2) (wk_zipT r r2)
        exact ⟨_, _, _, _, rfl, .inr ⟨hK ▸ h1, hK ▸ h2, hK ▸ this⟩⟩
      · exact absurd ⟨_, _, _, _, q, q2⟩ hk
      · exact False.elim p
end

/-! ### enumerate -/
noncomputable def enD (ps : List PyData) : List PyData := ps.zipIdx.map fun z => .tuple [.int z.2, z.1]
theorem enD_get {ps : List PyData} {i : Nat} {p : PyData} (e : (enD ps)[i]? = some p) : ∃ u, ps[i]? = some u ∧ p = .tuple [.int (i : Nat), u] := by
  unfold enD at e
  rw [List.getElem?_map, List.getElem?_zipIdx] at e
  cases q : ps[i]? with
  | none => rw [q] at e; cases e
  | some u =>
    rw [q] at e
    simp at e
    exact ⟨u, rfl, e.symm⟩
theorem enD_len (ps : List PyData) : (enD ps).length = ps.length := by
  unfold enD
  rw [List.length_map, List.length_zipIdx]
section
variable {G : GC} {F : Addr → Prop} {H : Hp} {a : Addr} {xs : List V} {ps : List PyData}
theorem wk_enL (f : F a) (e : H a = some (.lst xs)) (l : RpL G.K F H xs ps) : WkD G (Ite G.K a) (enD ps) F H := by
  have st : ∀ (F1 : Addr → Prop) (H1 : Hp), (∀ a o, F a → H a = some o → H1 a = some o) → SqL G.K H1 a xs := fun F1 H1 kp => .inl (.inl (kp a _ f e))
  refine ⟨fun i F1 loc S H1 _ sub kp hi => ?_, fun F1 loc S H1 _ sub kp => ?_, fun i F1 loc S H1 x H' p hS sub kp e1 y => ?_⟩
  · rw [enD_len] at hi
    have h1 : i < xs.length := by rw [l.length]; exact hi
    exact ⟨xs, xs[i], st F1 H1 kp, by simp [h1]⟩
  · exact ⟨xs, st F1 H1 kp, by rw [enD_len, l.length]; exact Nat.le_refl _⟩
  · obtain ⟨u, h1, rfl⟩ := enD_get e1
    obtain ⟨T, x', rfl, hT, rfl, k1⟩ := y
    obtain ⟨w1, g1, g2⟩ := l.get h1
    have k1 := k1 xs (st F1 _ kp)
    rw [g1] at k1
    cases k1
    exact pair_new hS hT (.int _) (Rp.mono sub kp g2)
theorem wk_enT (r : Rp G.K F H (.ref a) (.tuple ps)) : WkD G (EnT.It_ G.K a) (enD ps) F H := by
  obtain ⟨xs, st, l⟩ := tup_st r
  refine ⟨fun i F1 loc S H1 _ sub kp hi => ?_, fun F1 loc S H1 _ sub kp => ?_, fun i F1 loc S H1 x H' p hS sub kp e1 y => ?_⟩
  · rw [enD_len] at hi
    have h1 : i < xs.length := by rw [l.length]; exact hi
    exact ⟨xs, xs[i], st F1 H1 sub kp, by simp [h1]⟩
  · exact ⟨xs, st F1 H1 sub kp, by rw [enD_len, l.length]; exact Nat.le_refl _⟩
  · obtain ⟨u, h1, rfl⟩ := enD_get e1
    obtain ⟨T, x', rfl, hT, rfl, k1⟩ := y
    obtain ⟨w1, g1, g2⟩ := l.get h1
    have k1 := k1 xs (st F1 _ sub kp)
    rw [g1] at k1
    cases k1
    exact pair_new hS hT (.int _) (Rp.mono sub kp g2)
end
section
variable {X : Cx} {G : GC} {W : WX} {cf : CallF} {a : Expr} {ia : IE} {pos tpos p1 : Pos} {elts : List Expr} {kk : Nat}
theorem I_enu (hK : G.K = X.K) (hg : Gl X "enumerate") (hm : X.mg "enumerate" = none) (ha : PE X a (rdE G W cf ia)) (hs : starEach [a] X.env = [(false, eval a X.env)]) :
    PI X (.Tuple elts kk tpos) (.Call (.Name "enumerate" p1) [a] [] pos) (rdI G W cf (.enu ia)) := by
  refine PImon (PIor (pi_enum hg hm (pa_cons ha pa_nil hs) hs) (EnT.pi hg hm (pa_cons ha pa_nil hs) hs)) ?_
  rintro t H Q ⟨F, loc, s, S, hS, hE, p⟩
  simp only [evE] at p
  unfold itO at p
  cases q : evE cf ia s S with
  | err => rw [q] at p; exact False.elim p
  | exc c fs S1 =>
    rw [q] at p
    refine .inl ⟨F, loc, s, S, hS, hE, ?_⟩
    rw [q]
    exact p
  | ok v S1 =>
    rw [q] at p
    simp only [Out.bind_ok] at p
    cases v with
    | ref l => exact False.elim p
    | exn c fs => exact False.elim p
    | dat d =>
      cases d with
      | list ps =>
        refine .inl ⟨F, loc, s, S, hS, hE, ?_⟩
        rw [q]
        intro w F1 loc1 H1 n r
        have r : Rp G.K F1 H1 w (.list ps) := r
        cases r with
        | lst f e l => exact ⟨_, _, rfl, .inl (.inl e), hK ▸ p _ F1 loc1 H1 n (wk_enL f e l)⟩
      | tuple ps =>
        refine .inr ⟨F, loc, s, S, hS, hE, ?_⟩
        rw [q]
        intro w F1 loc1 H1 n r
        have r : Rp G.K F1 H1 w (.tuple ps) := r
        obtain ⟨l, us, rfl, h1, _⟩ := look_tup (x := .dat (.tuple ps)) n.sim r rfl
        exact ⟨_, _, rfl, hK ▸ h1, hK ▸ p _ F1 loc1 H1 n (wk_enT r)⟩
      | _ => exact False.elim p
end

/-! ### reversed -/
section
variable {G : GC} {F : Addr → Prop} {H : Hp} {a : Addr} {xs : List V} {ps : List PyData}
theorem rv_get {i : Nat} {p : PyData} (e : ps.reverse[i]? = some p) : ps[ps.length - 1 - i]? = some p := by
  have h := (List.getElem?_eq_some_iff.mp e).1
  rw [List.length_reverse] at h
  rw [List.getElem?_reverse h] at e
  exact e
theorem wk_rvL (f : F a) (e : H a = some (.lst xs)) (l : RpL G.K F H xs ps) : WkD G (Itv G.K a xs.length) ps.reverse F H := by
  have st : ∀ (F1 : Addr → Prop) (H1 : Hp), (∀ a o, F a → H a = some o → H1 a = some o) → SqL G.K H1 a xs := fun F1 H1 kp => .inl (.inl (kp a _ f e))
  refine ⟨fun i F1 loc S H1 _ sub kp hi => ?_, fun F1 loc S H1 _ sub kp => ?_, fun i F1 loc S H1 x H' p hS sub kp e1 y => ?_⟩
  · rw [List.length_reverse] at hi
    have h1 : i < xs.length := by rw [l.length]; exact hi
    have h2 : xs.length - 1 - i < xs.length := by omega
    exact ⟨h1, xs, xs[xs.length - 1 - i], st F1 H1 kp, by simp [h2]⟩
  · show xs.length ≤ ps.reverse.length
    rw [List.length_reverse, l.length]
    exact Nat.le_refl _
  · have h1 := rv_get e1
    obtain ⟨rfl, k1⟩ := y
    obtain ⟨w1, g1, g2⟩ := l.get h1
    have k1 := k1 xs (st F1 _ kp)
    rw [l.length, g1] at k1
    cases k1
    exact ⟨F1, .refl hS, Rp.mono sub kp g2⟩
theorem wk_rvT (r : Rp G.K F H (.ref a) (.tuple ps)) : ∃ xs, SqT G.K H a xs ∧ WkD G (RT.ItvT G.K a xs.length) ps.reverse F H := by
  obtain ⟨xs, st, l⟩ := tup_st r
  refine ⟨xs, st F H (fun _ h => h) (fun _ _ _ h => h), fun i F1 loc S H1 _ sub kp hi => ?_, fun F1 loc S H1 _ sub kp => ?_, fun i F1 loc S H1 x H' p hS sub kp e1 y => ?_⟩
  · rw [List.length_reverse] at hi
    have h1 : i < xs.length := by rw [l.length]; exact hi
    have h2 : xs.length - 1 - i < xs.length := by omega
    exact ⟨h1, xs, xs[xs.length - 1 - i], st F1 H1 sub kp, by simp [h2]⟩
  · show xs.length ≤ ps.reverse.length
    rw [List.length_reverse, l.length]
    exact Nat.le_refl _
  · have h1 := rv_get e1
    obtain ⟨rfl, k1⟩ := y
    obtain ⟨w1, g1, g2⟩ := l.get h1
    have k1 := k1 xs (st F1 _ sub kp)
    rw [l.length, g1] at k1
    cases k1
    exact ⟨F1, .refl hS, Rp.mono sub kp g2⟩
end
section
variable {X : Cx} {G : GC} {W : WX} {cf : CallF} {a : Expr} {ia : IE} {pos p1 : Pos} {tg : Expr}
theorem I_rvd (hK : G.K = X.K) (hg : Gl X "reversed") (hm : X.mg "reversed" = none) (ha : PE X a (rdE G W cf ia)) (hs : starEach [a] X.env = (false, eval a X.env) :: starEach [] X.env) :
    PI X tg (.Call (.Name "reversed" p1) [a] [] pos) (rdI G W cf (.rvd ia)) := by
  refine PImon (RT.pi_revA hg hm ha hs) ?_
  rintro t H Q ⟨F, loc, s, S, hS, hE, p⟩
  simp only [evE] at p
  unfold itO at p
  refine ⟨F, loc, s, S, hS, hE, ?_⟩
  cases q : evE cf ia s S with
  | err => rw [q] at p; exact False.elim p
  | exc c fs S1 => rw [q] at p; exact p
  | ok v S1 =>
    rw [q] at p
    simp only [Out.bind_ok] at p
    intro w F1 loc1 H1 n r
    cases v with
    | ref l => exact False.elim p
    | exn c fs => exact False.elim p
    | dat d =>
      cases d with
      | list ps =>
        have r : Rp G.K F1 H1 w (.list ps) := r
        cases r with
        | lst f e l => exact ⟨_, _, rfl, .inl ⟨.inl (.inl e), hK ▸ p _ F1 loc1 H1 n (wk_rvL f e l)⟩⟩
      | tuple ps =>
        have r : Rp G.K F1 H1 w (.tuple ps) := r
        obtain ⟨l, us, rfl, h1, _⟩ := look_tup (x := .dat (.tuple ps)) n.sim r rfl
        obtain ⟨xs, h2, wk⟩ := wk_rvT r
        exact ⟨_, xs, rfl, .inr ⟨hK ▸ h2, hK ▸ p _ F1 loc1 H1 n wk⟩⟩
      | _ => exact False.elim p
end

/-! ### targets of names -/
mutual
noncomputable def gOf (K : PySem.W.Frag) : Pt → TG
  | .nm i => gName i
  | .tp ps => gTup K ps.length (gsOf K ps)
noncomputable def gsOf (K : PySem.W.Frag) : List Pt → TGs
  | [] => gNil
  | p :: ps => gCons (gOf K p) (gsOf K ps)
end
mutual
noncomputable def slots : Pt → List Nat
  | .nm i => [i]
  | .tp ps => slotss ps
noncomputable def slotss : List Pt → List Nat
  | [] => []
  | p :: ps => slots p ++ slotss ps
end
theorem wipe_at (t : L2.St) : ∀ (vs : List Nat) (i : Nat), (wipe t vs)[i]? = if i ∈ vs then t[i]?.map (fun _ => none) else t[i]?
  | [], i => by simp [wipe]
  | v :: vs, i => by
    unfold wipe
    have ih := wipe_at t vs i
    by_cases h : v = i
    · subst h
      rw [if_pos (List.mem_cons_self)]
      by_cases hl : v < (wipe t vs).length
      · rw [List.getElem?_set_self hl]
        rw [wipe_length] at hl
        rw [List.getElem?_eq_getElem hl]
        rfl
      · rw [List.getElem?_eq_none (by rw [List.length_set]; omega)]
        rw [wipe_length] at hl
        rw [List.getElem?_eq_none (by omega)]
        rfl
    · rw [List.getElem?_set_ne h, ih]
      have : (i ∈ v :: vs) ↔ i ∈ vs := by
        rw [List.mem_cons]
        exact ⟨fun z => z.elim (fun z => absurd z.symm h) id, .inr⟩
      by_cases hm : i ∈ vs
      · rw [if_pos hm, if_pos (this.mpr hm)]
      · rw [if_neg hm, if_neg fun z => hm (this.mp z)]
theorem wipe_same {t t' : L2.St} {vs : List Nat} (hl : t'.length = t.length) (h : ∀ i, i ∉ vs → t'[i]? = t[i]?) : wipe t' vs = wipe t vs := by
  apply List.ext_getElem?
  intro i
  rw [wipe_at, wipe_at]
  by_cases hm : i ∈ vs
  · rw [if_pos hm, if_pos hm]
    by_cases hi : i < t.length
    · rw [List.getElem?_eq_getElem hi, List.getElem?_eq_getElem (by omega : i < t'.length)]
      rfl
    · rw [List.getElem?_eq_none (by omega), List.getElem?_eq_none (by omega)]
  · rw [if_neg hm, if_neg hm]
    exact h i hm
theorem wipe_wipe {t : L2.St} {vs : List Nat} : wipe (wipe t vs) vs = wipe t vs := by
  apply wipe_same (wipe_length t vs)
  intro i hi
  rw [wipe_at, if_neg hi]
section
variable {G : GC} {F : Addr → Prop} {loc : Nat → Addr} {S : Store} {H : Hp}
theorem SimE.set {s : Env} {t : L2.St} (e : SimE G F loc S H s t) {i : Nat} {v : Val} {w : V} (r : RV G F loc S H v w) : SimE G F loc S H (s.set i (some v)) (t.set i (some w)) := by
  refine ⟨by rw [List.length_set, List.length_set]; exact e.len, fun j u h => ?_⟩
  by_cases q : i = j
  · subst q
    by_cases hl : i < s.length
    · rw [List.getElem?_set_self hl] at h
      cases h
      exact ⟨w, by rw [List.getElem?_set_self (by rw [← e.len]; exact hl)], r⟩
    · rw [List.getElem?_eq_none (by rw [List.length_set]; omega)] at h
      cases h
  · rw [List.getElem?_set_ne q] at h ⊢
    exact e.at_ j u h
theorem SimE.unset {s : Env} {t : L2.St} (e : SimE G F loc S H s t) {i : Nat} : SimE G F loc S H (s.set i none) (t.set i none) := by
  refine ⟨by rw [List.length_set, List.length_set]; exact e.len, fun j u h => ?_⟩
  by_cases q : i = j
  · subst q
    by_cases hl : i < s.length
    · rw [List.getElem?_set_self hl] at h
      cases h
    · rw [List.getElem?_eq_none (by rw [List.length_set]; omega)] at h
      cases h
  · rw [List.getElem?_set_ne q] at h ⊢
    exact e.at_ j u h
theorem SimE.wipe {s : Env} {t : L2.St} (e : SimE G F loc S H s t) : ∀ vs : List Nat, SimE G F loc S H (wipeE s vs) (L2.wipe t vs)
  | [] => e
  | v :: vs => (SimE.wipe e vs).unset
mutual
theorem gOf_ok {W : WX} {Q : L2.St → Hp → Prop} : ∀ (p : Pt) {v : Val} {w : V} {s s' : Env} {t : L2.St}, SimE G F loc S H s t → SimS G F loc S H → RV G F loc S H v w → bindPt p v s = some s' →
    (∀ t', SimE G F loc S H s' t' → t'.length = t.length → (∀ i, i ∉ slots p → t'[i]? = t[i]?) → Q t' H) → gOf G.K p w t H Q
  | .nm i, v, w, s, s', t, hE, hS, r, e, k => by
    simp only [bindPt] at e
    split at e
    · cases e
      refine k _ (hE.set r) List.length_set fun j hj => ?_
      have : i ≠ j := fun z => hj (by unfold slots; rw [z]; exact List.mem_singleton.mpr rfl)
      rw [List.getElem?_set_ne this]
    · cases e
  | .tp ps, .dat (.tuple xs), w, s, s', t, hE, hS, r, e, k => by
    simp only [bindPt] at e
    obtain ⟨l, us, rfl, h1, h2⟩ := look_tup (x := .dat (.tuple xs)) hS r rfl
    have len : ps.length = xs.length := bindPts_len e
    exact ⟨l, us, rfl, h1, by rw [h2.length, len], gsOf_ok (W := W) ps hE hS h2 e k⟩
  | .tp ps, .dat .none, w, s, s', t, hE, hS, r, e, k => by simp only [bindPt] at e; cases e
  | .tp ps, .dat (.bool _), w, s, s', t, hE, hS, r, e, k => by simp only [bindPt] at e; cases e
  | .tp ps, .dat (.int _), w, s, s', t, hE, hS, r, e, k => by simp only [bindPt] at e; cases e
  | .tp ps, .dat (.str _), w, s, s', t, hE, hS, r, e, k => by simp only [bindPt] at e; cases e
  | .tp ps, .dat (.list _), w, s, s', t, hE, hS, r, e, k => by simp only [bindPt] at e; cases e
  | .tp ps, .dat (.dict _), w, s, s', t, hE, hS, r, e, k => by simp only [bindPt] at e; cases e
  | .tp ps, .ref _, w, s, s', t, hE, hS, r, e, k => by simp only [bindPt] at e; cases e
  | .tp ps, .exn _ _, w, s, s', t, hE, hS, r, e, k => by simp only [bindPt] at e; cases e
theorem gsOf_ok {W : WX} {Q : L2.St → Hp → Prop} : ∀ (ps : List Pt) {xs : List PyData} {us : List V} {s s' : Env} {t : L2.St}, SimE G F loc S H s t → SimS G F loc S H → RpL G.K F H us xs → bindPt.bindPts ps xs s = some s' →
    (∀ t', SimE G F loc S H s' t' → t'.length = t.length → (∀ i, i ∉ slotss ps → t'[i]? = t[i]?) → Q t' H) → gsOf G.K ps us t H Q
  | [], [], us, s, s', t, hE, hS, r, e, k => by
    cases r
    simp only [bindPt.bindPts] at e
    cases e
    exact ⟨rfl, k t hE rfl fun _ _ => rfl⟩
  | p :: ps, x :: xs, _, s, s', t, hE, hS, .cons (v := u) (vs := us) r l, e, k => by
    simp only [bindPt.bindPts] at e
    cases q : bindPt p (.dat x) s with
    | none => rw [q] at e; cases e
    | some s1 =>
      rw [q] at e
      refine ⟨u, us, rfl, gOf_ok (W := W) p hE hS (show RV G F loc S H (.dat x) u from r) q fun t1 hE1 hl1 h1 => ?_⟩
      refine gsOf_ok (W := W) ps hE1 hS l e fun t2 hE2 hl2 h2 => k t2 hE2 (hl2.trans hl1) fun i hi => ?_
      unfold slotss at hi
      rw [List.mem_append, not_or] at hi
      rw [h2 i hi.2, h1 i hi.1]
  | [], _ :: _, us, s, s', t, hE, hS, r, e, k => by simp only [bindPt.bindPts] at e; cases e
  | _ :: _, [], us, s, s', t, hE, hS, r, e, k => by simp only [bindPt.bindPts] at e; cases e
theorem bindPts_len : ∀ {ps : List Pt} {xs : List PyData} {s s' : Env}, bindPt.bindPts ps xs s = some s' → ps.length = xs.length
  | [], [], _, _, _ => rfl
  | p :: ps, x :: xs, s, s', e => by
    simp only [bindPt.bindPts] at e
    cases q : bindPt p (.dat x) s with
    | none => rw [q] at e; cases e
    | some s1 =>
      rw [q] at e
      rw [List.length_cons, List.length_cons, bindPts_len e]
  | [], _ :: _, _, _, e => by simp only [bindPt.bindPts] at e; cases e
  | _ :: _, [], _, _, e => by simp only [bindPt.bindPts] at e; cases e
end
end
end IP
namespace IP
open PySem PySem.Spec PyProof.Rows L2

noncomputable def W0 : WX := fun _ _ _ _ => False
noncomputable def rdTs (G : GC) (W : WX) (cf : CallF) (es : List IE) : TT := fun t H Q => ∃ F loc s S, SimS G F loc S H ∧ SimE G F loc S H s t ∧ PostB G W t F loc S H (evAll cf es s S) Q
section
variable {X : Cx} {G : GC} {W : WX} {cf : CallF} {a b c e : Expr} {ia ib ic ie : IE} {pos tpos : Pos} {es : List Expr} {ies : List IE} {tg : Expr}
theorem T_nil : PTs X [] (rdTs G W cf []) := by
  refine ⟨fun pins s σ H Q I q => pts_nil.run pins s σ H Q I ?_⟩
  obtain ⟨F, loc, s, S, hS, hE, p⟩ := q
  simp only [evAll] at p
  exact p _ _ _ _ (.refl hS) rfl
theorem T_one (h : PT X c (rdT G W cf ic)) : PTs X [c] (rdTs G W cf [ic]) := by
  refine ⟨fun pins s σ H Q I q => (pts_one h).run pins s σ H Q I ?_⟩
  obtain ⟨F, loc, s, S, hS, hE, p⟩ := q
  refine ⟨F, loc, s, S, hS, hE, ?_⟩
  simp only [evAll] at p
  unfold evT
  cases q : evE cf ic s S with
  | err => rw [q] at p; exact p
  | exc c fs S1 => rw [q] at p; exact p
  | ok v S1 =>
    rw [q] at p
    simp only [Out.bind_ok] at p ⊢
    cases v with
    | dat d =>
      cases d with
      | bool k => cases k <;> exact p
      | _ => exact p
    | ref l => exact p
    | exn c fs => exact p
theorem compL_ok {f : PyData → Store → Out (Option PyData)} {x : PyData} {xs : List PyData} {S S1 : Store} {o : Option PyData} {B : Type} (k : List PyData → Store → Out B) (h : f x S = .ok o S1) :
    (compL f (x :: xs) S).bind k = (compL f xs S1).bind fun r S2 => k (consO o r) S2 := by
  simp only [compL, h, Out.bind_ok]
  cases compL f xs S1 <;> rfl
theorem compL_no {f : PyData → Store → Out (Option PyData)} {x : PyData} {xs : List PyData} {S : Store} {B : Type} (k : List PyData → Store → Out B) (h : f x S = .err) : (compL f (x :: xs) S).bind k = .err := by
  simp only [compL, h, Out.bind_err]
/-- one item of a comprehension -/
noncomputable def compF (cf : CallF) (elt : IE) (pt : Pt) (ifs : List IE) (own : List Nat) (s : Env) (y : PyData) (S2 : Store) : Out (Option PyData) := Out.nox (match bindPt pt (.dat y) (wipeE s own) with
      | some s' => (evAll cf ifs s' S2).bind fun b S3 => if b = true then (evE cf elt s' S3).bind fun v S4 => match v with
        | .dat p => .ok (some p) S4
        | _ => .err else .ok none S3
      | none => .err)
theorem comp_rd {own : List (Str × Nat)} {it ielt : IE} {pt : Pt} {iifs : List IE} (hK : G.K = X.K) (hsl : ∀ i, i ∈ slots pt → i ∈ own.map (·.2)) : ∀ t H Q, rdF G W cf (.comp ielt pt it iifs (own.map (·.2))) t H Q → tLc (rdI G W cf it) (gOf X.K pt) (rdTs G W0 cf iifs) (rdE G W0 cf ielt) (own.map (·.2)) t H Q := by
  rintro t H Q ⟨F, loc, s, S, hS, hE, p⟩
  simp only [evE] at p
  refine ⟨F, loc, s, S, hS, hE, ?_⟩
  cases qi : itO (evE cf it s S) with
  | err => rw [qi] at p; exact p
  | exc c fs S1 => rw [qi] at p; exact p
  | ok xs S1 =>
  rw [qi] at p
  intro J F1 loc1 H1 n0 wk D hD
  simp only [Out.bind_ok] at p
  split at p
  rotate_left
  · exact False.elim p
  rename_i hz
  have p : Post G (fun F' loc' S' H' v w => FrR G H F' loc' S' H' v w) W t F1 loc1 S1 H1 ((compL (compF cf ielt pt iifs (own.map (·.2)) s) xs S1).bind fun ys S5 => .ok (.dat (.list ys)) S5) Q := Post.step n0 p
  have nlD : ∀ l o, S1[l]? = some o → alive o = true → loc1 l ≠ D := fun l o e al q => (n0.sim.ob l o e).there al (by rw [q]; exact hD)
  have nFD : ¬ F1 D := fun f => n0.sim.dom D f hD
  refine ⟨fun i m H' => m = xs.length - i ∧ i ≤ xs.length ∧ ∃ F2 loc2 S2 acc ys, Nxt G F1 loc1 S1 H1 F2 loc2 S2 H' ∧ H' D = some (.lst acc) ∧ RpL G.K F2 H' acc ys ∧ ¬ F2 D ∧ (∀ l o, S2[l]? = some o → alive o = true → loc2 l ≠ D) ∧ acc.length ≤ i ∧
    Post G (fun F' loc' S' H' v w => FrR G H F' loc' S' H' v w) W t F1 loc1 S1 H1 ((compL (compF cf ielt pt iifs (own.map (·.2)) s) (xs.drop i) S2).bind fun r S5 => .ok (.dat (.list (ys ++ r))) S5) Q,
    ⟨xs.length, by omega, Nat.zero_le _, F1, loc1, S1, [], [], Nxt.lay n0.sim hD, upd_same, .nil, nFD, nlD, Nat.le_refl _, p⟩, ?_⟩
  rintro i m H' ⟨rfl, hle, F2, loc2, S2, acc, ys, n1, eD, rl, nF2, nl2, hacc, p1⟩
  by_cases hlt : i < xs.length
  rotate_left
  · have ei : i = xs.length := by omega
    subst ei
    refine .inl ⟨wk.stop F2 loc2 S2 H' n1.sim n1.sub n1.keep, ?_⟩
    rw [List.drop_length] at p1
    simp only [compL, Out.bind_ok, List.append_nil] at p1
    exact p1 _ _ _ _ n1 ⟨ys, acc, D, rfl, rfl, eD, rl, nF2, nl2, n0.dom D (.inl hD)⟩
  refine .inr ⟨wk.go i F2 loc2 S2 H' n1.sim n1.sub n1.keep hlt, fun H'' => ∃ F2 loc2 S2 acc ys, Nxt G F1 loc1 S1 H1 F2 loc2 S2 H'' ∧ H'' D = some (.lst acc) ∧ RpL G.K F2 H'' acc ys ∧ ¬ F2 D ∧ (∀ l o, S2[l]? = some o → alive o = true → loc2 l ≠ D) ∧ acc.length ≤ i + 1 ∧
    Post G (fun F' loc' S' H' v w => FrR G H F' loc' S' H' v w) W t F1 loc1 S1 H1 ((compL (compF cf ielt pt iifs (own.map (·.2)) s) (xs.drop (i + 1)) S2).bind fun r S5 => .ok (.dat (.list (ys ++ r))) S5) Q,
    fun H'' hN => ⟨xs.length - (i + 1), by omega, rfl, hlt, hN⟩, fun x H3 hy => ?_⟩
  have ex : xs[i]? = some xs[i] := List.getElem?_eq_getElem hlt
  rw [List.drop_eq_getElem_cons hlt] at p1
  obtain ⟨F3, n3, r3⟩ := wk.yld i F2 loc2 S2 H' x H3 _ n1.sim n1.sub n1.keep ex hy
  obtain ⟨eD3, nF3, nl3⟩ := n3.apart eD (fun _ z => (by cases z)) nF2 nl2
  generalize xs[i] = y at p1 r3
  -- the target
  cases hb : bindPt pt (.dat y) (wipeE s (own.map (·.2))) with
  | none =>
    rw [compL_no _ (by unfold compF; simp only [hb]; rfl)] at p1
    exact False.elim p1
  | some s' =>
  have hE3 : SimE G F3 loc2 S2 H3 s t := ((hE.next n0).next n1).next n3
  rw [← hK]
  refine gOf_ok (W := W) pt (hE3.wipe (own.map (·.2))) n3.sim (show RV G F3 loc2 S2 H3 (.dat y) x from r3) hb fun t' hE4 hl4 h4 => ?_
  refine ⟨?_, ?_⟩
  · rw [wipe_same (t := wipe t (own.map (·.2))) hl4 fun j hj => h4 j fun hm => hj (hsl j hm), wipe_wipe]
  -- the tests
  refine ⟨F3, loc2, s', S2, n3.sim, hE4, ?_⟩
  cases qt : evAll cf iifs s' S2 with
  | err =>
    rw [compL_no _ (by unfold compF; simp only [hb, qt, Out.bind_err, Out.bind_exc, Out.bind_ok, Bool.false_eq_true, ↓reduceIte]; rfl)] at p1
    exact False.elim p1
  | exc c fs S' =>
    rw [compL_no _ (by unfold compF; simp only [hb, qt, Out.bind_err, Out.bind_exc, Out.bind_ok, Bool.false_eq_true, ↓reduceIte]; rfl)] at p1
    exact False.elim p1
  | ok bt S3 =>
  intro bt' F4 loc4 H4 n4 ebt
  subst ebt
  obtain ⟨eD4, nF4, nl4⟩ := n4.apart eD3 (fun _ z => (by cases z)) nF3 nl3
  have n14 := (n1.trans n3).trans n4
  have rl4 : RpL G.K F4 H4 acc ys := (rl.mono n3.sub n3.keep).mono n4.sub n4.keep
  cases bt with
  | false =>
    rw [if_neg Bool.false_ne_true]
    rw [compL_ok (o := none) _ (by unfold compF; simp only [hb, qt, Out.bind_err, Out.bind_exc, Out.bind_ok, Bool.false_eq_true, ↓reduceIte]; rfl)] at p1
    exact ⟨F4, loc4, S3, acc, ys, n14, eD4, rl4, nF4, nl4, by omega, p1⟩
  | true =>
    rw [if_pos rfl]
    refine ⟨F4, loc4, s', S3, n4.sim, hE4.next n4, ?_⟩
    cases qe : evE cf ielt s' S3 with
    | err =>
      rw [compL_no _ (by unfold compF; simp only [hb, qt, qe, Out.bind_err, Out.bind_exc, Out.bind_ok, ↓reduceIte]; rfl)] at p1
      exact False.elim p1
    | exc c fs S' =>
      rw [compL_no _ (by unfold compF; simp only [hb, qt, qe, Out.bind_err, Out.bind_exc, Out.bind_ok, ↓reduceIte]; rfl)] at p1
      exact False.elim p1
    | ok v S4 =>
    intro w F5 loc5 H5 n5 r5
    obtain ⟨eD5, nF5, nl5⟩ := n5.apart eD4 (fun _ z => (by cases z)) nF4 nl4
    cases v with
    | ref l =>
      rw [compL_no _ (by unfold compF; simp only [hb, qt, qe, Out.bind_err, Out.bind_exc, Out.bind_ok, ↓reduceIte]; rfl)] at p1
      exact False.elim p1
    | exn c fs =>
      rw [compL_no _ (by unfold compF; simp only [hb, qt, qe, Out.bind_err, Out.bind_exc, Out.bind_ok, ↓reduceIte]; rfl)] at p1
      exact False.elim p1
    | dat d =>
    rw [compL_ok (o := some d) _ (by unfold compF; simp only [hb, qt, qe, Out.bind_err, Out.bind_exc, Out.bind_ok, ↓reduceIte]; rfl)] at p1
    have r5 : Rp G.K F5 H5 w d := r5
    have kD : ∀ b u, F5 b → H5 b = some u → upd H5 D (.lst (acc ++ [w])) b = some u := fun b u f e => by
      rw [upd_ne (fun z => nF5 (by rw [← z]; exact f))]
      exact e
    refine ⟨acc, eD5, by omega, F5, loc5, S4, acc ++ [w], ys ++ [d], Nxt.priv (n14.trans n5) (.inl hD) nF5 nl5 eD5 (solidN (fun _ z => (by cases z)) (fun _ z => (by cases z))) (solidN (fun _ z => (by cases z)) (fun _ z => (by cases z))), upd_same, ?_, nF5, nl5, ?_, ?_⟩
    · exact ((rl4.mono n5.sub n5.keep).append (.cons r5 .nil)).mono (fun _ f => f) kD
    · rw [List.length_append, List.length_singleton]
      omega
    · have e : ∀ r : List PyData, (ys ++ [d]) ++ r = ys ++ consO (some d) r := fun r => by rw [List.append_assoc]; rfl
      simp only [e]
      exact p1
theorem F_comp {elt iter : Expr} {ifs : List Expr} {scope : Scope} {own : List (Str × Nat)} {it ielt : IE} {pt : Pt} {iifs : List IE} (hK : G.K = X.K) (hc : X.calm = true) (hN : X.N.Nodup) (hi : PI X tg iter (rdI G W cf it)) (ok : BlkOk X.N X.env.scope scope own)
    (hg : ∀ (s : Shared) (H : Hp) (C : Addr) (cl : List (Str × Addr)) (fp : List Addr), PG (X.blk s H scope (compEnvC scope cl C X.env) fp) tg (gOf X.K pt))
    (ht : ∀ (s : Shared) (H : Hp) (C : Addr) (cl : List (Str × Addr)) (fp : List Addr), PTs (X.blk s H scope (compEnvC scope cl C X.env) fp) ifs (rdTs G W0 cf iifs))
    (he : ∀ (s : Shared) (H : Hp) (C : Addr) (cl : List (Str × Addr)) (fp : List Addr), PE (X.blk s H scope (compEnvC scope cl C X.env) fp) elt (rdE G W0 cf ielt))
    (hs : ∀ x, foldedSetIterable iter X.env x = pure x) (hsl : ∀ i, i ∈ slots pt → i ∈ own.map (·.2)) : PE X (.ListComp elt [⟨tg, iter, ifs, 0⟩] scope pos) (rdF G W cf (.comp ielt pt it iifs (own.map (·.2)))) := by
  exact PEmon (pe_lc hc hN hi ok hg ht he hs) (comp_rd hK hsl)
end
end IP
namespace IP
open PySem PySem.Spec PyProof.Rows L2

/-! ### stores -/
noncomputable abbrev PostA (G : GC) := Post (A := Env) (B := L2.St) G (fun F loc S H s t => SimE G F loc S H s t)
noncomputable def rdG (G : GC) (W : WX) (cf : CallF) (T : Tg) : TG := fun v t H Q => ∃ F loc s S x, SimS G F loc S H ∧ SimE G F loc S H s t ∧ RV G F loc S H x v ∧ PostA G W t F loc S H (asT cf T x s S) Q
noncomputable def rdGs (G : GC) (W : WX) (cf : CallF) (T : List Tg) : TGs := fun v t H Q => ∃ F loc s S x, SimS G F loc S H ∧ SimE G F loc S H s t ∧ RVs G F loc S H x v ∧ PostA G W t F loc S H (asTs cf T x s S) Q
noncomputable def PostS (G : GC) (W : WX) (t : L2.St) (F : Addr → Prop) (loc : Nat → Addr) (S : Store) (H : Hp) (o : Out Fl) (D : Ends) : Prop := match o with
  | .ok (.nx s') S' => ∀ t' F' loc' H', Nxt G F loc S H F' loc' S' H' → SimE G F' loc' S' H' s' t' → D.nx t' H'
  | .ok (.rt v) S' => ∀ w F' loc' H', Nxt G F loc S H F' loc' S' H' → RV G F' loc' S' H' v w → D.rt w H'
  | .exc c fs S' => ∀ cv d F' loc' H', Nxt G F loc S H F' loc' S' H' → G.exr c fs cv d H' → W cv d t H'
  | .err => False
noncomputable def rdS (G : GC) (W : WX) (M : Option Nat) (cf : CallF) (i : IS) : TS := fun D t H => ∃ F loc s S, SimS G F loc S H ∧ SimE G F loc S H s t ∧ PostS G W t F loc S H (evS M cf i s S) D
noncomputable def rdSs (G : GC) (W : WX) (M : Option Nat) (cf : CallF) (i : List IS) : TS := fun D t H => ∃ F loc s S, SimS G F loc S H ∧ SimE G F loc S H s t ∧ PostS G W t F loc S H (evSs M cf i s S) D
section
variable {A B : Type} {G : GC} {R : (Addr → Prop) → (Nat → Addr) → Store → Hp → A → B → Prop} {W : WX} {t t' : L2.St} {F F1 : Addr → Prop} {loc loc1 : Nat → Addr} {S S1 : Store} {H H1 : Hp}
theorem PostS.step {o : Out Fl} {D : Ends} (n : Nxt G F loc S H F1 loc1 S1 H1) (p : PostS G W t F loc S H o D) : PostS G W t F1 loc1 S1 H1 o D := by
  cases o with
  | ok v S' =>
    cases v with
    | nx s' => exact fun t' F' loc' H' m r => p t' F' loc' H' (n.trans m) r
    | rt v => exact fun w F' loc' H' m r => p w F' loc' H' (n.trans m) r
  | exc c fs S' => exact fun cv d F' loc' H' m r => p cv d F' loc' H' (n.trans m) r
  | err => exact p
theorem PostS.wi (hw : ∀ cv d t t' H, W cv d t H → W cv d t' H) {o : Out Fl} {D : Ends} (p : PostS G W t F loc S H o D) : PostS G W t' F loc S H o D := by
  cases o with
  | ok v S' => cases v <;> exact p
  | exc c fs S' => exact fun cv d F' loc' H' m r => hw _ _ _ _ _ (p cv d F' loc' H' m r)
  | err => exact p
/-- the wish behind an outcome, for the outcome -/
theorem PostS.bind {o : Out A} {f : A → Store → Out Fl} {D : Ends} {Q1 : B → Hp → Prop} (p : PostS G W t F loc S H (o.bind f) D)
    (k : ∀ v S1 w F1 loc1 H1, Nxt G F loc S H F1 loc1 S1 H1 → R F1 loc1 S1 H1 v w → PostS G W t F1 loc1 S1 H1 (f v S1) D → Q1 w H1) : Post G R W t F loc S H o Q1 := by
  cases o with
  | ok v S' => exact fun w F' loc' H' m r => k v S' w F' loc' H' m r (PostS.step m p)
  | exc c fs S' => exact p
  | err => exact p
end
section
variable {X : Cx} {G : GC} {W : WX} {M : Option Nat} {cf : CallF} {a b c e o : Expr} {ia ib ic ie io : IE} {pos tpos : Pos} {es : List Expr} {ies : List IE} {tg : Expr} {T : Tg} {Ts : List Tg} {st : Stmt} {sts : List Stmt} {i : IS} {is : List IS}
theorem PGmon {t t' : TG} (h : PG X tg t) (m : ∀ v s H Q, t' v s H Q → t v s H Q) : PG X tg t' := ⟨fun pins s σ H v u Q I r q => h.run pins s σ H v u Q I r (m _ _ _ _ q)⟩
theorem PGsmon {t t' : TGs} (h : PGs X es t) (m : ∀ v s H Q, t' v s H Q → t v s H Q) : PGs X es t' := ⟨fun pins s σ H v u Q I r q => h.run pins s σ H v u Q I r (m _ _ _ _ q)⟩
theorem PSmon {t t' : TS} (h : PS X st t) (m : ∀ D s H, t' D s H → t D s H) : PS X st t' := ⟨fun pins s σ H D I q => h.run pins s σ H D I (m _ _ _ q)⟩
theorem PSsmon {t t' : TS} (h : PSs X sts t) (m : ∀ D s H, t' D s H → t D s H) : PSs X sts t' := ⟨fun pins s σ H D I q => h.run pins s σ H D I (m _ _ _ q)⟩
theorem G_nm {j : Nat} {x : Str} (hN : X.N.Nodup) (hi : X.N[j]? = some x) (hx : Loc X.env.scope x) (hf : X.fn x = true ∨ X.env.scope.names.lookup x = some .local) : PG X (.Name x pos) (rdG G W cf (.nm j)) := by
  refine PGmon (pg_name hN hi hx hf) ?_
  rintro v t H Q ⟨F, loc, s, S, y, hS, hE, r, p⟩
  simp only [asT] at p
  split at p
  · exact p _ _ _ _ (.refl hS) (hE.set r)
  · exact False.elim p
/-- o.f = v, as a target -/
noncomputable def gFld (K : PySem.W.Frag) (ta : TE) (f : Str) : TG := fun v t H Q => ta t H fun x H1 => ∃ a C dx fs, x = .ref a ∧ H1 a = some (.ins C dx fs) ∧ Cls K C ∧ NoAttr K C f ∧ fs.length < 1000 ∧ Q t (upd H1 a (.ins C dx (putF f v fs)))
theorem PG_fld {ta : TE} {f : Str} (ha : PE X o ta) : PG X (.Attribute o f pos) (gFld X.K ta f) := by
  refine ⟨fun pins s t H y u Q I ry h => ?_⟩
  have e : assign (.Attribute o f pos) X.env u = (do
      let ov ← holding [u] (eval o X.env)
      standAt pos.atName
      holding [u, ov] (setAttr ov f u)
      release [u, ov] []) := by rfl
  rw [e]
  refine wpAny_bind (wpAny_holding (thn (ha.run pins s t H _ I h) fun z s1 hz => ?_))
  obtain ⟨x, H1, I1, rx, a, C, dx, fs, rfl, ea, cl, na, hl, q⟩ := hz
  obtain rfl : z = Value.ref a := rx
  refine wpAny_bind (wpAny_standAt (wpAny_bind (wpAny_holding (setattr_ok I1 ea cl na hl ry fun s2 I2 => ?_))))
  exact wpAny_release ⟨t, _, I2, q⟩
theorem G_fld {f : Nat} {nm : Str} (hf : nm = G.fnm f) (inj : ∀ f g, G.fnm f = G.fnm g → f = g) (hc : ∀ c, G.cok c → Cls X.K (G.cls c)) (hn : ∀ c, G.cok c → NoAttr X.K (G.cls c) nm) (ha : PE X o (rdE G W cf io)) : PG X (.Attribute o nm pos) (rdG G W cf (.fld io f)) := by
  refine PGmon (PG_fld ha) ?_
  subst hf
  rintro y t H Q ⟨F, loc, s, S, x, hS, hE, r, p⟩
  simp only [asT] at p
  refine ⟨F, loc, s, S, hS, hE, Post.bind p fun v S1 w F1 loc1 H1 n r1 p1 => ?_⟩
  have r := r.next n
  split at p1
  · rename_i l
    obtain ⟨rfl, hl⟩ := r1
    split at p1
    · rename_i c fs hs
      split at p1
      · rename_i hlen
        obtain ⟨ok, dx, ws, e1, rf⟩ := n.sim.ob l _ hs
        refine ⟨_, _, dx, ws, rfl, e1, hc c ok, hn c ok, by rw [rf.length]; omega, ?_⟩
        have n2 := Nxt.put (u := .ins (G.cls c) dx (putF (G.fnm f) y ws)) n.sim hs rfl (o' := .ins c (putFd f x fs)) fun S' H' kp len e =>
          ⟨ok, dx, _, e, RFs.putF inj (RV.shift (fun _ f => f) kp (fun _ _ => rfl) (Nat.le_of_eq len.symm) r) (RFs.shift (fun _ f => f) kp (fun _ _ => rfl) (Nat.le_of_eq len.symm) rf)⟩
        exact p1 _ _ _ _ n2 ((hE.next n).next n2)
      · exact False.elim p1
    · exact False.elim p1
  · exact False.elim p1
theorem G_sub (ho : PE X o (rdE G W cf io)) (ha : PE X a (rdE G W cf ia)) (hh : ∀ v, assign (.Subscript o a pos) X.env v = (do
      let ov ← holding [v] (eval o X.env)
      let iv ← holding [v, ov] (eval a X.env)
      standAt pos
      holding [v, ov, iv] (setItem ov iv v)
      release [v, ov, iv] [])) : PG X (.Subscript o a pos) (rdG G W cf (.sub io ia)) := by
  refine PGmon (pg_sub ho ha set_list hh) ?_
  rintro y t H Q ⟨F, loc, s, S, x, hS, hE, r, p⟩
  simp only [asT] at p
  refine ⟨F, loc, s, S, hS, hE, Post.bind p fun v S1 w F1 loc1 H1 n r1 p1 => ⟨F1, loc1, s, S1, n.sim, hE.next n, Post.bind p1 fun v2 S2 w2 F2 loc2 H2 n2 r2 p2 => ?_⟩⟩
  split at p2
  · rename_i l k d
    obtain ⟨rfl, hl⟩ := r1.next n2
    have r2 : Rp G.K F2 H2 w2 (.int k) := r2
    cases r2
    have r : Rp G.K F2 H2 y d := RV.next (v := .dat d) (n.trans n2) r
    split at p2
    · rename_i xs hs
      split at p2
      · rename_i j hj
        obtain ⟨vs, e1, rl⟩ := n2.sim.ob l _ hs
        refine ⟨_, vs, k, j, rfl, rfl, e1, by rw [rl.length]; exact hj, ?_⟩
        have n3 := Nxt.put (u := .lst (vs.set j y)) n2.sim hs rfl (o' := .lst (xs.set j d)) fun S' H' kp len e =>
          ⟨_, e, RpL.set (r.mono (fun _ f => f) kp) j (rl.mono (fun _ f => f) kp)⟩
        exact p2 _ _ _ _ n3 (((hE.next n).next n2).next n3)
      · exact False.elim p2
    · exact False.elim p2
  · exact False.elim p2
theorem Gs_nil : PGs X [] (rdGs G W cf []) := by
  refine PGsmon pgs_nil ?_
  rintro v t H Q ⟨F, loc, s, S, x, hS, hE, r, p⟩
  cases r with
  | nil =>
    simp only [asTs] at p
    exact ⟨rfl, p _ _ _ _ (.refl hS) hE⟩
  | cons => simp only [asTs] at p; exact False.elim p
theorem Gs_cons (hw : ∀ cv d t t' H, W cv d t H → W cv d t' H) (h1 : PG X e (rdG G W cf T)) (h2 : PGs X es (rdGs G W cf Ts)) (hs : (assignEach (e :: es) X.env).map (·.2) = assign e X.env :: (assignEach es X.env).map (·.2)) : PGs X (e :: es) (rdGs G W cf (T :: Ts)) := by
  refine PGsmon (pgs_cons h1 h2 hs) ?_
  rintro v t H Q ⟨F, loc, s, S, x, hS, hE, r, p⟩
  cases r with
  | nil => simp only [asTs] at p; exact False.elim p
  | @cons y z ys zs r l =>
    simp only [asTs] at p
    refine ⟨z, zs, rfl, F, loc, s, S, y, hS, hE, r, Post.bind p fun s1 S1 t1 F1 loc1 H1 n hE1 p1 => ⟨F1, loc1, s1, S1, ys, n.sim, hE1, l.next n, ?_⟩⟩
    cases q : asTs cf Ts ys s1 S1 with
    | ok v S' => rw [q] at p1; exact p1
    | err => rw [q] at p1; exact p1
    | exc c fs S' =>
      rw [q] at p1
      exact fun cv d F' loc' H' m e => hw _ _ _ _ _ (p1 cv d F' loc' H' m e)
theorem RVs.of_rp {F : Addr → Prop} {loc : Nat → Addr} {S : Store} {H : Hp} : ∀ {us : List V} {xs : List PyData}, RpL G.K F H us xs → RVs G F loc S H (xs.map .dat) us
  | _, _, .nil => .nil
  | _, _, .cons r l => .cons r (RVs.of_rp l)
theorem asTs_len : ∀ {Ts : List Tg} {vs : List Val} {s s' : Env} {S S' : Store}, asTs cf Ts vs s S = .ok s' S' → Ts.length = vs.length
  | [], [], _, _, _, _, _ => rfl
  | T :: Ts, v :: vs, s, s', S, S', e => by
    simp only [asTs] at e
    cases q : asT cf T v s S with
    | err => rw [q] at e; cases e
    | exc c fs S1 => rw [q] at e; cases e
    | ok s1 S1 =>
      rw [q] at e
      rw [List.length_cons, List.length_cons, asTs_len e]
  | [], _ :: _, _, _, _, _, e => by simp only [asTs] at e; cases e
  | _ :: _, [], _, _, _, _, e => by simp only [asTs] at e; cases e
theorem G_tp {k : Nat} (hK : G.K = X.K) (hc : X.calm = true) (h : PGs X es (rdGs G W cf Ts)) (hl : es.length = Ts.length) (hn : (assignEach es X.env).length = es.length) (hst : (assignEach es X.env).findIdx? (·.1) = none) (hexc : ∀ xs s S c fs S', asTs cf Ts xs s S ≠ .exc c fs S') : PG X (.Tuple es k pos) (rdG G W cf (.tp Ts)) := by
  refine PGmon (pg_tup hc h (n := Ts.length) (hn.trans hl) hst) ?_
  rintro v t H Q ⟨F, loc, s, S, x, hS, hE, r, p⟩
  simp only [asT] at p
  split at p
  · rename_i xs
    obtain ⟨l, us, rfl, h1, h2⟩ := look_tup (x := .dat (.tuple xs)) hS r rfl
    have len : Ts.length = xs.length := by
      cases q : asTs cf Ts (xs.map .dat) s S with
      | err => rw [q] at p; exact False.elim p
      | exc c fs S1 => exact absurd q (hexc _ _ _ _ _ _)
      | ok s1 S1 => rw [asTs_len q, List.length_map]
    exact ⟨l, us, rfl, hK ▸ h1, by rw [h2.length, len], F, loc, s, S, _, hS, hE, RVs.of_rp h2, p⟩
  · exact False.elim p

/-! ### statements -/
theorem S_asg {te : TE} {g : TG} (h : PS X (.Assign [tg] e pos) (tAsg te g)) (hte : ∀ t H Q, rdE G W cf ie t H Q → te t H Q) (hg : ∀ v t H Q, rdG G W cf T v t H Q → g v t H Q) : PS X (.Assign [tg] e pos) (rdS G W M cf (.asg T ie)) := by
  refine PSmon h ?_
  rintro D t H ⟨F, loc, s, S, hS, hE, p⟩
  simp only [evS] at p
  refine hte _ _ _ ⟨F, loc, s, S, hS, hE, PostS.bind p fun v S1 w F1 loc1 H1 n r p1 => hg _ _ _ _ ⟨F1, loc1, s, S1, v, n.sim, hE.next n, r, PostS.bind p1 fun s2 S2 t2 F2 loc2 H2 n2 hE2 p2 => ?_⟩⟩
  exact p2 _ _ _ _ (.refl n2.sim) hE2
theorem S_exp (he : PE X e (rdE G W cf ie)) (hs : swapsWith e none pos.line X.env = pure false) : PS X (.Expr e pos) (rdS G W M cf (.exp ie)) := by
  refine PSmon (ps_expr he hs) ?_
  rintro D t H ⟨F, loc, s, S, hS, hE, p⟩
  simp only [evS] at p
  refine ⟨F, loc, s, S, hS, hE, PostS.bind p fun v S1 w F1 loc1 H1 n r p1 => p1 _ _ _ _ (.refl n.sim) (hE.next n)⟩
theorem S_doc {x j pos'} : PS X (.Expr (.Constant (.str x) j pos) pos') (rdS G W M cf .nop) := by
  refine PSmon ps_doc ?_
  rintro D t H ⟨F, loc, s, S, hS, hE, p⟩
  simp only [evS] at p
  exact p _ _ _ _ (.refl hS) hE
theorem S_pass : PS X (.Pass pos) (rdS G W M cf .nop) := by
  refine PSmon ps_pass ?_
  rintro D t H ⟨F, loc, s, S, hS, hE, p⟩
  simp only [evS] at p
  exact p _ _ _ _ (.refl hS) hE
theorem S_ret (he : PE X e (rdE G W cf ie)) : PS X (.Return (some e) pos) (rdS G W M cf (.ret ie)) := by
  refine PSmon (ps_ret he) ?_
  rintro D t H ⟨F, loc, s, S, hS, hE, p⟩
  simp only [evS] at p
  refine ⟨F, loc, s, S, hS, hE, PostS.bind p fun v S1 w F1 loc1 H1 n r p1 => p1 _ _ _ _ (.refl n.sim) r⟩
theorem S_rtn : PS X (.Return none pos) (rdS G W M cf .rtn) := by
  refine PSmon ps_retN ?_
  rintro D t H ⟨F, loc, s, S, hS, hE, p⟩
  simp only [evS] at p
  exact p _ _ _ _ (.refl hS) (show Rp _ _ _ _ _ from .non)
theorem S_ite {as bs : List Stmt} {ias ibs : List IS} (hc : PT X c (rdT G W cf ic)) (ha : PSs X as (rdSs G W M cf ias)) (hb : PSs X bs (rdSs G W M cf ibs)) : PS X (.If c as bs pos) (rdS G W M cf (.ite ic ias ibs)) := by
  refine PSmon (ps_if hc ha hb) ?_
  rintro D t H ⟨F, loc, s, S, hS, hE, p⟩
  simp only [evS] at p
  refine ⟨F, loc, s, S, hS, hE, PostS.bind p fun v S1 w F1 loc1 H1 n r p1 => ?_⟩
  subst r
  cases v with
  | true => rw [if_pos rfl] at p1 ⊢; exact ⟨F1, loc1, s, S1, n.sim, hE.next n, p1⟩
  | false => rw [if_neg Bool.false_ne_true] at p1 ⊢; exact ⟨F1, loc1, s, S1, n.sim, hE.next n, p1⟩
theorem Ss_nil : PSs X [] (rdSs G W M cf []) := by
  refine PSsmon pss_nil ?_
  rintro D t H ⟨F, loc, s, S, hS, hE, p⟩
  simp only [evSs] at p
  exact p _ _ _ _ (.refl hS) hE
theorem seq_post {o : Out Fl} {f : Fl → Store → Out Fl} {D : Ends} {t : L2.St} {F : Addr → Prop} {loc : Nat → Addr} {S : Store} {H : Hp} {u : TS} (p : PostS G W t F loc S H (o.bind f) D)
    (hr : ∀ v S', f (.rt v) S' = .ok (.rt v) S') (hn : ∀ s' S' t' F' loc' H', Nxt G F loc S H F' loc' S' H' → SimE G F' loc' S' H' s' t' → PostS G W t F' loc' S' H' (f (.nx s') S') D → u D t' H') : PostS G W t F loc S H o { D with nx := u D } := by
  cases o with
  | err => exact p
  | exc c fs S' => exact p
  | ok r S' =>
    rw [Out.bind_ok] at p
    cases r with
    | nx s' => exact fun t' F' loc' H' m e => hn s' S' t' F' loc' H' m e (PostS.step m p)
    | rt v => rw [hr] at p; exact p
theorem Ss_cons (hw : ∀ cv d t t' H, W cv d t H → W cv d t' H) (h1 : PS X st (rdS G W M cf i)) (h2 : PSs X sts (rdSs G W M cf is)) : PSs X (st :: sts) (rdSs G W M cf (i :: is)) := by
  refine PSsmon (pss_cons h1 h2) ?_
  rintro D t H ⟨F, loc, s, S, hS, hE, p⟩
  simp only [evSs] at p
  exact ⟨F, loc, s, S, hS, hE, seq_post p (fun _ _ => rfl) fun s' S' t' F' loc' H' m e p1 => ⟨F', loc', s', S', m.sim, e, PostS.wi hw p1⟩⟩
theorem S_app {j : Nat} {x : Str} {p1 p2 p3 : Pos} (hK : G.K = X.K) (hN : X.N[j]? = some x) (hv : Vis X.env.scope x) (hd : (x == ("__debug__" : Str)) = false) (hcd : (x == ("__classdict__" : Str)) = false)
    (he : PE X e (rdE G W cf ie)) (hst : starEach [e] X.env = (false, eval e X.env) :: starEach [] X.env) (hb : ∀ {te : TE}, PE X e te → PE X (.Call (.Attribute (.Name x p1) "append" p2) [e] [] p3) (tBM X.K "list" rAppend (tVar j) (tCons te tNil))) (hs : swapsWith (.Call (.Attribute (.Name x p1) "append" p2) [e] [] p3) none pos.line X.env = pure false) :
    PS X (.Expr (.Call (.Attribute (.Name x p1) "append" p2) [e] [] p3) pos) (rdS G W M cf (.app j ie)) := by
  refine PSmon (ps_expr (hb he) hs) ?_
  rintro D t H ⟨F, loc, s, S, hS, hE, p⟩
  simp only [evS] at p
  split at p
  · rename_i l hi
    obtain ⟨w, h1, r⟩ := hE.at_ j _ hi
    have r0 := r
    obtain ⟨rfl, hl⟩ := r
    split at p
    · rename_i ys hy
      obtain ⟨vs, e1, _⟩ := hS.ob l _ hy
      refine ⟨_, h1, .inl ⟨rfl, vs, .inl (.inl e1)⟩, F, loc, s, S, hS, hE, PostS.bind p fun v S1 w F1 loc1 H1 n r p1 => ?_⟩
      obtain ⟨q1, _⟩ := r0.next n
      split at p1
      · rename_i d xs hx
        split at p1
        · rename_i hz
          obtain ⟨us, e2, rl⟩ := n.sim.ob l _ hx
          refine ⟨loc1 l, us, w, q1, rfl, e2, by rw [rl.length]; exact hz, ?_⟩
          have n2 := Nxt.put (u := .lst (us ++ [w])) n.sim hx rfl (o' := .lst (xs ++ [d])) fun S' H' kp len e =>
            ⟨_, e, (rl.mono (fun _ f => f) kp).append (.cons (Rp.mono (fun _ f => f) kp (show Rp G.K F1 H1 w d from r)) .nil)⟩
          exact p1 _ _ _ _ n2 ((hE.next n).next n2)
        · exact False.elim p1
      · exact False.elim p1
    · exact False.elim p
  · exact False.elim p
theorem S_ext {j : Nat} {x : Str} {p1 p2 p3 : Pos} (hK : G.K = X.K) (hN : X.N[j]? = some x) (hv : Vis X.env.scope x) (hd : (x == ("__debug__" : Str)) = false) (hcd : (x == ("__classdict__" : Str)) = false)
    (he : PE X e (rdE G W cf ie)) (hst : starEach [e] X.env = (false, eval e X.env) :: starEach [] X.env) (hb : ∀ {te : TE}, PE X e te → PE X (.Call (.Attribute (.Name x p1) "extend" p2) [e] [] p3) (tBM X.K "list" rExtend (tVar j) (tCons te tNil))) (hs : swapsWith (.Call (.Attribute (.Name x p1) "extend" p2) [e] [] p3) none pos.line X.env = pure false) :
    PS X (.Expr (.Call (.Attribute (.Name x p1) "extend" p2) [e] [] p3) pos) (rdS G W M cf (.ext j ie)) := by
  refine PSmon (ps_expr (hb he) hs) ?_
  rintro D t H ⟨F, loc, s, S, hS, hE, p⟩
  simp only [evS] at p
  split at p
  · rename_i l hi
    obtain ⟨w, h1, r⟩ := hE.at_ j _ hi
    have r0 := r
    obtain ⟨rfl, hl⟩ := r
    split at p
    · rename_i ys hy
      obtain ⟨vs, e1, _⟩ := hS.ob l _ hy
      refine ⟨_, h1, .inl ⟨rfl, vs, .inl (.inl e1)⟩, F, loc, s, S, hS, hE, PostS.bind p fun v S1 w F1 loc1 H1 n r p1 => ?_⟩
      obtain ⟨q1, _⟩ := r0.next n
      split at p1
      · rename_i ds xs hx
        split at p1
        · rename_i hz
          obtain ⟨us, e2, rl⟩ := n.sim.ob l _ hx
          have r : Rp G.K F1 H1 w (.list ds) := r
          cases r with
          | lst f e3 l3 =>
            rename_i b zs
            refine ⟨loc1 l, b, us, zs, q1, rfl, e2, e3, by rw [rl.length, l3.length]; exact hz, ?_⟩
            have n2 := Nxt.put (u := .lst (us ++ zs)) n.sim hx rfl (o' := .lst (xs ++ ds)) fun S' H' kp len e =>
              ⟨_, e, (rl.mono (fun _ f => f) kp).append (l3.mono (fun _ f => f) kp)⟩
            exact p1 _ _ _ _ n2 ((hE.next n).next n2)
        · exact False.elim p1
      · exact False.elim p1
    · exact False.elim p
  · exact False.elim p
theorem S_for {iter : Expr} {body : List Stmt} {it : IE} {pt : Pt} {ibody : List IS} (hK : G.K = X.K) (hw : ∀ cv d t t' H, W cv d t H → W cv d t' H) (hp : PassesOwn (model X.prog X.w) X.A X.env X.xe) (hc : X.calm = true) (hi : PI X tg iter (rdI G W cf it)) (hg : PG X tg (gOf X.K pt)) (hb : PSs X body (rdSs G W M cf ibody))
    (hs : ∀ x, foldedSetIterable iter X.env x = pure x) : PS X (.For tg iter body [] pos) (rdS G W M cf (.for_ pt it ibody)) := by
  refine PSmon (ps_for hp hc hi hg hb hs) ?_
  rintro D t H ⟨F, loc, s, S, hS, hE, p⟩
  simp only [evS] at p
  refine ⟨F, loc, s, S, hS, hE, PostS.bind p fun xs S1 J F1 loc1 H1 n0 wk p0 => ?_⟩
  generalize hf : (fun y s1 S2 => match bindPt pt (.dat y) s1 with
    | some s2 => evSs M cf ibody s2 S2
    | none => .err : PyData → Env → Store → Out Fl) = f at p0
  refine ⟨fun i m t' H' => m = xs.length - i ∧ i ≤ xs.length ∧ ∃ F2 loc2 s2 S2, Nxt G F1 loc1 S1 H1 F2 loc2 S2 H' ∧ SimE G F2 loc2 S2 H' s2 t' ∧ PostS G W t F2 loc2 S2 H' (forL f (xs.drop i) s2 S2) D,
    ⟨xs.length, by omega, Nat.zero_le _, F1, loc1, s, S1, .refl n0.sim, hE.next n0, p0⟩, ?_⟩
  rintro i m t' H' ⟨rfl, hle, F2, loc2, s2, S2, n1, hE1, p1⟩
  by_cases hlt : i < xs.length
  rotate_left
  · have ei : i = xs.length := by omega
    subst ei
    refine .inl ⟨wk.stop F2 loc2 S2 H' n1.sim n1.sub n1.keep, ?_⟩
    rw [List.drop_length] at p1
    exact p1 _ _ _ _ (.refl n1.sim) hE1
  refine .inr ⟨wk.go i F2 loc2 S2 H' n1.sim n1.sub n1.keep hlt, fun t' H' => ∃ F2 loc2 s2 S2, Nxt G F1 loc1 S1 H1 F2 loc2 S2 H' ∧ SimE G F2 loc2 S2 H' s2 t' ∧ PostS G W t F2 loc2 S2 H' (forL f (xs.drop (i + 1)) s2 S2) D,
    fun t'' H'' hN => ⟨xs.length - (i + 1), by omega, rfl, hlt, hN⟩, fun x H3 hy => ?_⟩
  have ex : xs[i]? = some xs[i] := List.getElem?_eq_getElem hlt
  rw [List.drop_eq_getElem_cons hlt] at p1
  obtain ⟨F3, n3, r3⟩ := wk.yld i F2 loc2 S2 H' x H3 _ n1.sim n1.sub n1.keep ex hy
  generalize xs[i] = y at p1 r3
  simp only [forL] at p1
  cases hb : bindPt pt (.dat y) s2 with
  | none =>
    rw [show f y s2 S2 = .err from by rw [← hf]; simp only [hb]] at p1
    exact False.elim p1
  | some s' =>
  rw [show f y s2 S2 = evSs M cf ibody s' S2 from by rw [← hf]; simp only [hb]] at p1
  rw [← hK]
  refine gOf_ok (W := W) pt (hE1.next n3) n3.sim (show RV G F3 loc2 S2 H3 (.dat y) x from r3) hb fun t4 hE4 hl4 h4 => ?_
  refine ⟨F3, loc2, s', S2, n3.sim, hE4, ?_⟩
  have p1 := PostS.wi (t' := t4) hw (PostS.step n3 p1)
  cases q : evSs M cf ibody s' S2 with
  | err => rw [q] at p1; exact p1
  | exc c fs S' => rw [q] at p1; exact p1
  | ok r S4 =>
    rw [q, Out.bind_ok] at p1
    cases r with
    | rt v => exact p1
    | nx s5 => exact fun t5 F5 loc5 H5 n5 hE5 => ⟨F5, loc5, s5, S4, (n1.trans n3).trans n5, hE5, PostS.wi hw (PostS.step n5 p1)⟩
theorem whl_n {c : Env → Store → Out Bool} {b : Env → Store → Out Fl} {s : Env} {S : Store} (h : whl M c b s S ≠ .err) : ∃ n, whlN c b n s S = whl M c b s S := by
  cases M with
  | some n => exact ⟨n, rfl⟩
  | none =>
    have h : whlC c b s S ≠ .err := h
    show ∃ n, whlN c b n s S = whlC c b s S
    unfold whlC at h ⊢
    by_cases hh : ∃ n, whlN c b n s S ≠ .err
    · rw [dif_pos hh]
      exact ⟨_, rfl⟩
    · rw [dif_neg hh] at h
      exact absurd rfl h
theorem S_whl {body : List Stmt} {ibody : List IS} (hw : ∀ cv d t t' H, W cv d t H → W cv d t' H) (hp : PassesOwn (model X.prog X.w) X.A X.env X.xe) (hc : PT X c (rdT G W cf ic)) (hb : PSs X body (rdSs G W M cf ibody)) : PS X (.While c body [] pos) (rdS G W M cf (.whl ic ibody)) := by
  refine PSmon (ps_while hp hc hb) ?_
  rintro D t H ⟨F, loc, s, S, hS, hE, p⟩
  simp only [evS] at p
  have hne : whl M (evT cf ic) (evSs M cf ibody) s S ≠ .err := fun e => by rw [e] at p; exact p
  obtain ⟨n, hn⟩ := whl_n hne
  rw [← hn] at p
  refine ⟨fun m t' H' => ∃ F2 loc2 s2 S2, SimS G F2 loc2 S2 H' ∧ SimE G F2 loc2 S2 H' s2 t' ∧ PostS G W t F2 loc2 S2 H' (whlN (evT cf ic) (evSs M cf ibody) m s2 S2) D, ⟨n, F, loc, s, S, hS, hE, p⟩, ?_⟩
  rintro m t' H' ⟨F2, loc2, s2, S2, hS2, hE2, p2⟩
  cases m with
  | zero => exact False.elim p2
  | succ m =>
    simp only [whlN] at p2
    refine ⟨F2, loc2, s2, S2, hS2, hE2, PostS.bind (PostS.wi (t' := t') hw p2) fun k S3 k' F3 loc3 H3 n3 r p3 => ?_⟩
    subst r
    cases k with
    | false => rw [if_neg Bool.false_ne_true] at p3 ⊢; exact p3 _ _ _ _ (.refl n3.sim) (hE2.next n3)
    | true =>
      rw [if_pos rfl] at p3 ⊢
      refine ⟨fun t' H' => ∃ F2 loc2 s2 S2, SimS G F2 loc2 S2 H' ∧ SimE G F2 loc2 S2 H' s2 t' ∧ PostS G W t F2 loc2 S2 H' (whlN (evT cf ic) (evSs M cf ibody) m s2 S2) D, fun t'' H'' hN => ⟨m, Nat.lt_succ_self m, hN⟩, F3, loc3, s2, S3, n3.sim, hE2.next n3, ?_⟩
      cases q : evSs M cf ibody s2 S3 with
      | err => rw [q] at p3; exact p3
      | exc c fs S' => rw [q] at p3; exact p3
      | ok r S4 =>
        rw [q, Out.bind_ok] at p3
        cases r with
        | rt v => exact p3
        | nx s5 => exact fun t5 F5 loc5 H5 n5 hE5 => ⟨F5, loc5, s5, S4, n5.sim, hE5, PostS.wi hw (PostS.step n5 p3)⟩
end
end IP
namespace IP
open PySem PySem.Spec PyProof.Rows L2

/-! ### a def's promise where nothing is being shown around it (repr asks for it) -/
structure FnG (P : Program) (w : World) (K : PySem.W.Frag) (mg : Str → Option Value) (base : Heap) (CX : CXT) (k : Nat) (f : Addr) (fd : FuncData) (n : Nat) (ps : List Str) (sp : Sp) : Prop where
  num : ps.length = n
  len : ∀ vs H Q E, sp vs H Q E → vs.length = n
  go : ∀ (A : Around) (outer : List PySem.Env) (s : Shared) (H : Hp) (ar : Args) (us : List Value) (vs : List V) (Q : VK) (E : XK), A.guards = some [] → Room k A → Env0 P w K mg base A outer s H → BindsTo s fd ar (ps.zip us) → Vals vs us → sp vs H Q E →
    codeAny (model P w) A (.call (.ref f) ar) (CR CX outer P w H s Q E) s
section
variable {X : Cx} {CX : CXT} {k n : Nat} {f C : Addr} {fd : FuncData} {ps ks : List Str} {sp : Sp} {dvs : List V} {ds : List Value} {E : XK} {x m : Str} {p pos apos : Pos} {e o : Expr} {es : List Expr} {ta : TE} {t tk : TA} {kws : List Keyword}
/-- it runs, and this body goes on -/
theorem FnG.from (F : FnG X.prog X.w X.K X.mg X.base CX k f fd n ps sp) (hr : Room k X.A) (hu : X.A.guards = some []) (hx : Passes CX X E) {pins : List (Addr × Obj)} {σ : L2.St} {H : Hp} {s : Shared} (I : Inv X pins σ H s) {Q : VK} {ar : Args} {us : List Value} {vs : List V}
    (hb : BindsTo s fd ar (ps.zip us)) (r : Vals vs us) (h : sp vs H Q E) : codeAny (model X.prog X.w) X.A (.call (.ref f) ar) (fun r s' => match r with | .ok (.ret v) => EP X pins σ Q v s' | .ok _ => False | .error e => X.xe e s') s := by
  refine codeAny_mono (F.go X.A X.stack s H ar us vs Q E hu hr I.env0 hb r h) ?_
  rintro (e | fl) s' hq
  · exact hx pins σ H s e s' I hq
  · cases fl <;> first | exact I.after hq | exact hq.elim
theorem FnG.runs (F : FnG X.prog X.w X.K X.mg X.base CX k f fd n ps sp) (hr : Room k X.A) (hu : X.A.guards = some []) (hb : Binds X.K fd ps ds) (hd : Vals dvs ds) (hx : Passes CX X E) {pins : List (Addr × Obj)} {σ : L2.St} {H : Hp} {s : Shared} {Q : VK} {us : List Value} {vs : List V}
    (I : Inv X pins σ H s) (r : Vals vs us) (h : sp (vs ++ dvs) H Q E) : wpAny (model X.prog X.w) X.A (call (.ref f) us) (EP X pins σ Q) X.xe s := by
  have both := r.append hd
  refine wpAny_call (F.from hr hu hx I (hb s us I.kIn ?_) both h)
  rw [← both.length, F.len _ _ _ _ h, F.num]
theorem call_g (F : FnG X.prog X.w X.K X.mg X.base CX k f fd n ps sp) (hr : Room k X.A) (hu : X.A.guards = some []) (hg : Gl X x) (hm : X.mg x = some (.ref f)) (hk : PySem.W.keepIn X.K (.ref f) = true) (hb : Binds X.K fd ps ds) (hd : Vals dvs ds) (hx : Passes CX X E)
    (ha : PA X (e :: es) t) (hdb : (x == ("__debug__" : Str)) = false) (he : starEach (e :: es) X.env = (false, eval e X.env) :: starEach es X.env) (hpl : (backTo pos (starEach es X.env)).any (·.1) = false) :
    PE X (.Call (.Name x p) (e :: es) [] pos) (tCall sp dvs E t) :=
  ⟨fun pins s σ H Q I h => wpAny_Call_Name_kw (ld_glob I hg hm (PySem.W.callWith_K (h₀ := X.base) I.ok.mod.kin hk (thn (ha.run pos pins s σ H _ I h) fun us s1 ⟨vs, H1, J, r, q⟩ => ⟨J.kIn, F.runs hr hu hb hd hx J r q⟩) he hpl) hdb)⟩
theorem call_g0 (F : FnG X.prog X.w X.K X.mg X.base CX k f fd n ps sp) (hr : Room k X.A) (hu : X.A.guards = some []) (hg : Gl X x) (hm : X.mg x = some (.ref f)) (hk : PySem.W.keepIn X.K (.ref f) = true) (hb : Binds X.K fd ps ds) (hd : Vals dvs ds) (hx : Passes CX X E)
    (hdb : (x == ("__debug__" : Str)) = false) : PE X (.Call (.Name x p) [] [] pos) (tCall sp dvs E tNil) :=
  ⟨fun pins s σ H Q I h => wpAny_Call_Name_kw (ld_glob I hg hm (PySem.W.callWith_K0 I.kIn hk (F.runs (us := []) hr hu hb hd hx I .nil h)) hdb)⟩
theorem meth_g {pl : Sem Bool} (ho : PE X o ta) (c : Cls X.K C) (hm : Meth X.K C m f) (F : FnG X.prog X.w X.K X.mg X.base CX k f fd n ps sp) (hr : Room k X.A) (hu : X.A.guards = some []) (hb : Binds X.K fd ps ds) (hd : Vals dvs ds) (hx : Passes CX X E) (ha : PA X (e :: es) t)
    (hst : starEach (e :: es) X.env = (false, eval e X.env) :: starEach es X.env) (hpl : (backTo pos (starEach es X.env)).any (·.1) = false)
    (ht : eval (.Call (.Attribute o m apos) (e :: es) [] pos) X.env = (do
      let ov ← eval o X.env
      standAt apos.atName
      let (f, first) ← holding [ov] (getMethod ov m pl)
      callWith pos f first (backTo pos (starEach (e :: es) X.env)) (backToKw pos (keywordEach [] X.env)))) :
    PE X (.Call (.Attribute o m apos) (e :: es) [] pos) (tMeth C m sp dvs E ta t) := by
  refine ⟨fun pins s σ H Q I h => PySem.W.methodCall_KW (pl := pl) (thn (ho.run pins s σ H _ I h) ?_) ht⟩
  rintro u s1 ⟨_, H1, J, ru, a, dx, fs, rfl, ea, no, q⟩
  cases show u = Value.ref a from ru
  refine getmeth_ok J ea c hm no (PySem.W.callWith_K (first := [.ref a]) (h₀ := X.base) I.ok.mod.kin hm.kp (thn (ha.run pos pins s1 σ H1 _ J q) fun us s2 ⟨vs, H2, J2, r, q2⟩ => ⟨J2.kIn, ?_⟩) hst hpl)
  exact F.runs (us := .ref a :: us) (vs := .ref a :: vs) hr hu hb hd hx J2 (.cons rfl r) q2
theorem meth_g0 {pl : Sem Bool} (ho : PE X o ta) (c : Cls X.K C) (hm : Meth X.K C m f) (F : FnG X.prog X.w X.K X.mg X.base CX k f fd n ps sp) (hr : Room k X.A) (hu : X.A.guards = some []) (hb : Binds X.K fd ps ds) (hd : Vals dvs ds) (hx : Passes CX X E)
    (ht : eval (.Call (.Attribute o m apos) [] [] pos) X.env = (do
      let ov ← eval o X.env
      standAt apos.atName
      let (f, first) ← holding [ov] (getMethod ov m pl)
      callWith pos f first (backTo pos (starEach [] X.env)) (backToKw pos (keywordEach [] X.env)))) :
    PE X (.Call (.Attribute o m apos) [] [] pos) (tMeth C m sp dvs E ta tNil) := by
  refine ⟨fun pins s σ H Q I h => PySem.W.methodCall_KW (pl := pl) (thn (ho.run pins s σ H _ I h) ?_) ht⟩
  rintro u s1 ⟨_, H1, J, ru, a, dx, fs, rfl, ea, no, q⟩
  cases show u = Value.ref a from ru
  exact getmeth_ok J ea c hm no (PySem.W.callWith_K0 (first := [.ref a]) J.kIn hm.kp (F.runs (us := [.ref a]) (vs := [.ref a]) hr hu hb hd hx J (.cons rfl .nil) q))
theorem make_hush {A : Around} (h : A.guards = some []) (us : List Value) (kw : List (Str × Value)) : (A.under (.builtin "type.__call__" ⟨.ref C :: us, kw⟩)).guards = some [] := by
  simp [Around.under, pushGuards, h, Code.guards, Code.isGuard, guardIds]
theorem FnG.made (M : Mk X.K C f) (F : FnG X.prog X.w X.K X.mg X.base CX k f fd n ps sp) (hr : Room (k + 1) X.A) (hu : X.A.guards = some []) (hb : Binds X.K fd ps ds) (hd : Vals dvs ds)
    (hx : Passes CX X E) {pins : List (Addr × Obj)} {σ : L2.St} {H : Hp} {s : Shared} {Q : VK} {us : List Value} {vs : List V} (I : Inv X pins σ H s) (r : Vals vs us)
    (h : ∀ y d, H y = none → H d = none → d ≠ y → sp (.ref y :: (vs ++ dvs)) (upd (upd H d (.own y)) y (.ins C d [])) (fun v H2 => v = .non ∧ Q (.ref y) H2) E) :
    wpAny (model X.prog X.w) X.A (call (.ref C) us) (EP X pins σ Q) X.xe s := by
  have wish := h _ _ (I.hok.fresh (Nat.le_succ s.heap.objs.size)) (I.hok.fresh (Nat.le_refl s.heap.objs.size)) (Nat.ne_of_lt (Nat.lt_succ_self _))
  have J := Inv.made (C := C) I
  have all : Vals (V.ref (s.heap.objs.size + 1) :: (vs ++ dvs)) (Value.ref (s.heap.objs.size + 1) :: (us ++ ds)) := .cons rfl (r.append hd)
  refine wpAny_call (make_map (f := f) I.kIn M.makes M.init (beq_iff_eq.mp M.fn) (codeAny_mono (F.go _ X.stack _ _ ⟨Value.ref (s.heap.objs.size + 1) :: us, []⟩ _ _ _ E (make_hush hu us []) (hr.make C us []) (J.env0.make C us []) (hb _ (Value.ref (s.heap.objs.size + 1) :: us) J.kIn ?_) all wish) ?_))
  · have e := all.length
    rw [F.len _ _ _ _ wish] at e
    exact (F.num.trans e).symm
  · rintro (e | fl) s' hq
    · exact hx pins σ _ _ e s' J hq
    · cases fl with
      | ret u =>
        obtain ⟨v, H', J', rv, rfl, q⟩ := J.after hq
        exact ⟨rv, V.ref (s.heap.objs.size + 1), H', J', rfl, q⟩
      | next => exact hq.elim
      | brk => exact hq.elim
      | cont => exact hq.elim
theorem mk_g (M : Mk X.K C f) (F : FnG X.prog X.w X.K X.mg X.base CX k f fd n ps sp) (hr : Room (k + 1) X.A) (hu : X.A.guards = some []) (hg : Gl X x) (hm : X.mg x = some (.ref C)) (hb : Binds X.K fd ps ds) (hd : Vals dvs ds) (hx : Passes CX X E)
    (ha : PA X (e :: es) t) (hdb : (x == ("__debug__" : Str)) = false) (he : starEach (e :: es) X.env = (false, eval e X.env) :: starEach es X.env) (hpl : (backTo pos (starEach es X.env)).any (·.1) = false) :
    PE X (.Call (.Name x p) (e :: es) [] pos) (tMake C sp dvs E t) :=
  ⟨fun pins s σ H Q I h => wpAny_Call_Name_kw (ld_glob I hg hm (PySem.W.callWith_K (h₀ := X.base) I.ok.mod.kin M.kp (thn (ha.run pos pins s σ H _ I h) fun us s1 ⟨vs, H1, J, r, q⟩ => ⟨J.kIn, F.made M hr hu hb hd hx J r q⟩) he hpl) hdb)⟩
theorem mk_g0 (M : Mk X.K C f) (F : FnG X.prog X.w X.K X.mg X.base CX k f fd n ps sp) (hr : Room (k + 1) X.A) (hu : X.A.guards = some []) (hg : Gl X x) (hm : X.mg x = some (.ref C)) (hb : Binds X.K fd ps ds) (hd : Vals dvs ds) (hx : Passes CX X E)
    (hdb : (x == ("__debug__" : Str)) = false) : PE X (.Call (.Name x p) [] [] pos) (tMake C sp dvs E tNil) :=
  ⟨fun pins s σ H Q I h => wpAny_Call_Name_kw (ld_glob I hg hm (PySem.W.callWith_K0 I.kIn M.kp (F.made (us := []) M hr hu hb hd hx I .nil h)) hdb)⟩
end
/-- a def of the text by its body -/
theorem FnG.of {CX : CXT} {P : Program} {w : World} {K : PySem.W.Frag} {mg : Str → Option Value} {base : Heap} {k n : Nat} {f : Addr} {name qual : Str} {pa : Arguments} {body : List Stmt} {sc : Scope} {dV kV doc pm cdv ct oc : Value} {an od : Option Addr}
    {osl : Array (Option Value)} {N ps : List Str} {sp : Sp} (lk : K.lookup f = some ⟨oc, od, .func (PySem.W.fnOf name qual pa body sc dV kV doc pm an cdv ct), osl⟩) (hcd : PySem.W.codeIn K cdv qual = true) (S : FnScope N ps sc) (num : ps.length = n)
    (len : ∀ vs H Q E, sp vs H Q E → vs.length = n)
    (hbody : ∀ (A : Around) (outer : List PySem.Env) (s : Shared) (H : Hp) (vs : List V) (Q : VK) (E : XK), A.guards = some [] → Room k (A.deeper (envOfC qual sc s.heap.objs.size f cdv)) → sp vs H Q E →
      ∃ t, PSs (cxOf CX P w K mg base N qual sc f cdv A outer s H E) body t ∧ t { nx := fun _ H' => Q .non H', rt := Q } (start N vs) H) :
    FnG P w K mg base CX (k + 1) f (PySem.W.fnOf name qual pa body sc dV kV doc pm an cdv ct) n ps sp := by
  refine ⟨num, len, fun A outer s H ar us vs Q E hu hr e0 hb r wish => ?_⟩
  have stays := fun b o e => (e0.bs b o e).1
  have inH : K.In s.heap := e0.mod.kin.keeps stays
  have free : s.heap.NoLimit := e0.mod.nolimit.keeps stays
  refine codeAny_call_function hr.depth (inH _ _ lk) rfl S.co S.gen rfl (PySem.W.codeRec_of inH hcd) (hb _ _ _ _ (wpAny_newFunctionEnv_cells S.kind ?_ fun env he s1 x => ?_))
  · rintro ⟨y, v⟩ hy
    exact (S.par y (List.of_mem_zip hy).1).elim .inl fun q => .inr ⟨q, PySem.W.cellsFrom_some _ _ _ (.inl q)⟩
  subst he
  refine ⟨free.keeps x.toInCall.keep, codeAny_func ?_⟩
  obtain ⟨t, ht, hq⟩ := hbody A outer s H vs Q E hu (hr.deeper _) wish
  have I := inv_start (CX := CX) (E := E) S hr.hd e0 ((len _ _ _ _ wish).trans num.symm) r x
  refine wpAny_mono (ht.run [] s1 (start N vs) H _ I hq) ?_ fun e s' hs => hs
  rintro fl s' hs
  cases fl with
  | ret u =>
    obtain ⟨v, _, H', J, rv, q⟩ := hs
    exact ⟨v, H', J.os, J.bare, J.base, J.hok, rv, q⟩
  | next =>
    obtain ⟨_, H', J, q⟩ := hs
    exact ⟨V.non, H', J.os, J.bare, J.base, J.hok, rfl, q⟩
  | brk =>
    obtain ⟨_, _, _, q⟩ := hs
    exact q.elim
  | cont =>
    obtain ⟨_, _, _, q⟩ := hs
    exact q.elim
end IP
namespace IP
open PySem PySem.Spec PyProof.Rows L2

/-! ### built-in functions -/
noncomputable def bfO (b : BF) (vs : List Val) (S : Store) : Out Val := match vs with
    | [x] => match lookF S x with
      | some p => optD (bfP b [p]) S
      | none => .err
    | [.dat p, .dat q] => optD (bfP b [p, q]) S
    | _ => .err
theorem evE_bf {cf : CallF} {b : BF} {es : List IE} {s : Env} {S : Store} : evE cf (.bf b es) s S = (evL cf es s S).bind (bfO b) := by
  simp only [evE]
  rfl
theorem CRmon {X : Cx} {f : Value} {r r' : List V → Hp → VK → Prop} (h : CallR X f r) (m : ∀ vs H Q, r' vs H Q → r vs H Q) : CallR X f r' := fun pins s σ H xs us Q I r q => h pins s σ H xs us Q I r (m _ _ _ q)
theorem CRor {X : Cx} {f : Value} {r r' : List V → Hp → VK → Prop} (h : CallR X f r) (h' : CallR X f r') : CallR X f (fun vs H Q => r vs H Q ∨ r' vs H Q) := fun pins s σ H xs us Q I rv q => q.elim (fun q => h pins s σ H xs us Q I rv q) fun q => h' pins s σ H xs us Q I rv q
/-- what a built-in function computes -/
noncomputable def rB (G : GC) (b : BF) : List V → Hp → VK → Prop := fun vs H Q => ∃ F loc S args, SimS G F loc S H ∧ RVs G F loc S H args vs ∧ PostV G W0 [] F loc S H (bfO b args S) Q
theorem rB_of {G : GC} {b : BF} {r : List V → Hp → VK → Prop} (two : ∀ p q, bfP b [p, q] = none)
    (one : ∀ F loc S H x w p d Q, SimS G F loc S H → RV G F loc S H x w → lookF S x = some p → bfP b [p] = some d → (∀ w' F' loc' H', Nxt G F loc S H F' loc' S H' → Rp G.K F' H' w' d → Q w' H') → r [w] H Q) : ∀ vs H Q, rB G b vs H Q → r vs H Q := by
  rintro vs H Q ⟨F, loc, S, args, hS, rv, p⟩
  unfold bfO at p
  split at p
  · rename_i x
    cases rv with
    | cons r0 l =>
      cases l
      split at p
      · rename_i d hd
        cases q : bfP b [d] with
        | none => rw [q] at p; exact False.elim p
        | some e =>
          rw [q] at p
          exact one F loc S H x _ d e Q hS r0 hd q fun w' F' loc' H' n rr => p w' F' loc' H' n (show RV G F' loc' S H' (.dat e) w' from rr)
      · exact False.elim p
  · rw [two] at p
    exact False.elim p
  · exact False.elim p
section
variable {X : Cx} {G : GC} {W : WX} {cf : CallF} {b : BF} {e : Expr} {es : List Expr} {ie : IE} {ies : List IE} {pos p : Pos} {x : Str} {id T : String}
theorem bfO_nox {vs : List Val} {S : Store} {c : Nat} {fs : List PyData} {S' : Store} : bfO b vs S ≠ .exc c fs S' := by
  unfold bfO
  split
  · split
    · rename_i q _
      cases bfP b [q] <;> exact fun z => by cases z
    · exact fun z => by cases z
  · rename_i p q
    cases bfP b [p, q] <;> exact fun z => by cases z
  · exact fun z => by cases z
theorem bf_rd {ies : List IE} : ∀ t H Q, rdE G W cf (.bf b ies) t H Q → tCB (rB G b) (rdL G W cf ies) t H Q := by
  rintro t H Q ⟨F, loc, s, S, hS, hE, p⟩
  rw [evE_bf] at p
  refine ⟨F, loc, s, S, hS, hE, Post.bind p fun vs S1 ws F1 loc1 H1 n r p1 => ⟨F1, loc1, S1, vs, n.sim, r, ?_⟩⟩
  cases q : bfO b vs S1 with
  | ok v S' => rw [q] at p1; exact p1
  | err => rw [q] at p1; exact p1
  | exc c fs S' => exact absurd q bfO_nox
theorem E_bf (hc : CallR X (.builtin id) (rB G b)) (hg : Gl X x) (hm : X.mg x = none) (hv : bootBuiltins x = some (.builtin id)) (ha : PA X (e :: es) (rdL G W cf ies)) (hn : x ≠ "__name__") (hdb : (x == ("__debug__" : Str)) = false)
    (he : starEach (e :: es) X.env = (false, eval e X.env) :: starEach es X.env) (hpl : (backTo pos (starEach es X.env)).any (·.1) = false) : PE X (.Call (.Name x p) (e :: es) [] pos) (rdE G W cf (.bf b ies)) :=
  PEmon (pe_callB hc hg hm hv ha hn hdb he hpl) bf_rd
theorem E_bfT (hc : CallR X (.type T) (rB G b)) (hg : Gl X x) (hm : X.mg x = none) (hv : bootBuiltins x = some (.type T)) (ha : PA X (e :: es) (rdL G W cf ies)) (hn : x ≠ "__name__") (hdb : (x == ("__debug__" : Str)) = false)
    (he : starEach (e :: es) X.env = (false, eval e X.env) :: starEach es X.env) (hpl : (backTo pos (starEach es X.env)).any (·.1) = false) : PE X (.Call (.Name x p) (e :: es) [] pos) (rdE G W cf (.bf b ies)) :=
  PEmon (pe_callTy hc hg hm hv ha hn hdb he hpl) bf_rd
/-- a new list of one argument -/
noncomputable def rN (G : GC) (b : BF) : List V → Hp → VK → Prop := fun vs H Q => ∃ F loc S x w p ps, vs = [w] ∧ SimS G F loc S H ∧ RV G F loc S H x w ∧ lookF S x = some p ∧ bfP b [p] = some (.list ps) ∧
  ∀ xs y, RpL G.K F H xs ps → H y = none → Q (.ref y) (upd H y (.lst xs))
theorem nw_rd (hl : ∀ p d, bfP b [p] = some d → ∃ ps, d = .list ps) : ∀ t H Q, rdF G W cf (.bf b [ie]) t H Q → tCB (rN G b) (rdL G W cf [ie]) t H Q := by
  rintro t H Q ⟨F, loc, s, S, hS, hE, p⟩
  rw [evE_bf] at p
  refine ⟨F, loc, s, S, hS, hE, ?_⟩
  cases q0 : evL cf [ie] s S with
  | err => rw [q0] at p; exact p
  | exc c fs S' => rw [q0] at p; exact p
  | ok vs S1 =>
  have ln := evL_len _ _ _ _ _ q0
  rw [q0, Out.bind_ok] at p
  intro ws F1 loc1 H1 n r
  have p1 := Post.step n p
  cases r with
  | nil => cases ln
  | @cons x w us zs r0 l =>
  cases l with
  | cons => cases ln
  | nil =>
  unfold bfO at p
  dsimp only at p
  split at p
  · rename_i d hd
    cases q : bfP b [d] with
    | none => rw [q] at p; exact False.elim p
    | some e =>
      obtain ⟨ps, rfl⟩ := hl _ _ q
      rw [q] at p
      exact ⟨F1, loc1, S1, _, _, d, ps, rfl, n.sim, r0, hd, q, fun xs y rl hy => p _ _ _ _ (n.trans (Nxt.lay n.sim hy)) (FrR.new n.sim rl hy (n.dom _ (.inl hy)))⟩
  · exact False.elim p
theorem F_bf (hl : ∀ p d, bfP b [p] = some d → ∃ ps, d = .list ps) (hc : CallR X (.builtin id) (rN G b)) (hg : Gl X x) (hm : X.mg x = none) (hv : bootBuiltins x = some (.builtin id)) (ha : PA X [e] (rdL G W cf [ie])) (hn : x ≠ "__name__") (hdb : (x == ("__debug__" : Str)) = false)
    (he : starEach [e] X.env = (false, eval e X.env) :: starEach [] X.env) (hpl : (backTo pos (starEach [] X.env)).any (·.1) = false) : PE X (.Call (.Name x p) [e] [] pos) (rdF G W cf (.bf b [ie])) :=
  PEmon (pe_callB hc hg hm hv ha hn hdb he hpl) (nw_rd hl)
theorem F_bfT (hl : ∀ p d, bfP b [p] = some d → ∃ ps, d = .list ps) (hc : CallR X (.type T) (rN G b)) (hg : Gl X x) (hm : X.mg x = none) (hv : bootBuiltins x = some (.type T)) (ha : PA X [e] (rdL G W cf [ie])) (hn : x ≠ "__name__") (hdb : (x == ("__debug__" : Str)) = false)
    (he : starEach [e] X.env = (false, eval e X.env) :: starEach [] X.env) (hpl : (backTo pos (starEach [] X.env)).any (·.1) = false) : PE X (.Call (.Name x p) [e] [] pos) (rdF G W cf (.bf b [ie])) :=
  PEmon (pe_callTy hc hg hm hv ha hn hdb he hpl) (nw_rd hl)
/-! the functions -/
theorem rd_sql {K : PySem.W.Frag} {H : Hp} {a : Addr} {xs : List V} (h : Rd H a (.lst xs)) : SqL K H a xs := .inl h
theorem b_len (hK : G.K = X.K) : CallR X (.builtin "len") (rB G .len) := by
  refine CRmon (CRor call_len_seq call_len_str) (rB_of (fun p q => by cases p <;> rfl) fun F loc S H x w p d Q hS r hp hd k => ?_)
  cases p with
  | list xs =>
    cases hd
    obtain ⟨a, vs, rfl, h1, h2⟩ := look_list hS r hp
    exact .inl ⟨a, vs, rfl, .inl (rd_sql h1), k _ _ _ _ (.refl hS) (by rw [h2.length]; exact .int _)⟩
  | tuple xs =>
    cases hd
    obtain ⟨a, vs, rfl, h1, h2⟩ := look_tup hS r hp
    exact .inl ⟨a, vs, rfl, .inr (hK ▸ h1), k _ _ _ _ (.refl hS) (by rw [h2.length]; exact .int _)⟩
  | str s =>
    simp only [bfP] at hd
    split at hd
    · rename_i hz
      cases hd
      cases look_str r hp
      exact .inr ⟨s, rfl, hz, k _ _ _ _ (.refl hS) (.int _)⟩
    · cases hd
  | _ => cases hd
theorem b_abs : CallR X (.builtin "abs") (rB G .abs) := by
  refine CRmon call_abs (rB_of (fun p q => by cases p <;> rfl) fun F loc S H x w p d Q hS r hp hd k => ?_)
  cases p with
  | int i =>
    cases hd
    cases look_int r hp
    exact ⟨i, rfl, k _ _ _ _ (.refl hS) (.int _)⟩
  | _ => cases hd
theorem b_int : CallR X (.type "int") (rB G .int) := by
  refine CRmon call_int1 (rB_of (fun p q => by cases p <;> rfl) fun F loc S H x w p d Q hS r hp hd k => ?_)
  cases p with
  | int i =>
    cases hd
    cases look_int r hp
    exact .inl ⟨i, rfl, k _ _ _ _ (.refl hS) (.int _)⟩
  | bool i =>
    cases hd
    cases look_bool r hp
    exact .inr ⟨i, rfl, k _ _ _ _ (.refl hS) (.int _)⟩
  | _ => cases hd
theorem b_str : CallR X (.type "str") (rB G .str) := by
  refine CRmon (CRor call_str_int SkE.call_str_str) (rB_of (fun p q => by cases p <;> rfl) fun F loc S H x w p d Q hS r hp hd k => ?_)
  cases p with
  | int i =>
    simp only [bfP] at hd
    split at hd
    · rename_i hz
      cases hd
      cases look_int r hp
      exact .inl ⟨i, rfl, hz, k _ _ _ _ (.refl hS) (.str _)⟩
    · cases hd
  | str i =>
    cases hd
    cases look_str r hp
    exact .inr ⟨i, rfl, k _ _ _ _ (.refl hS) (.str _)⟩
  | _ => cases hd
theorem b_tuple (hK : G.K = X.K) : CallR X (.type "tuple") (rB G .tuple) := by
  refine CRmon call_tuple_of (rB_of (fun p q => by cases p <;> rfl) fun F loc S H x w p d Q hS r hp hd k => ?_)
  cases p with
  | list xs =>
    cases hd
    obtain ⟨a, vs, rfl, h1, h2⟩ := look_list hS r hp
    exact ⟨a, vs, rfl, .inl ⟨rd_sql h1, fun l hl => new_tup hS h2 k hl⟩⟩
  | tuple xs =>
    cases hd
    have whole := look_tupR hS r hp
    obtain ⟨a, vs, rfl, h1, h2⟩ := look_tup hS r hp
    exact ⟨a, vs, rfl, .inr ⟨hK ▸ h1, k _ _ _ _ (.refl hS) whole⟩⟩
  | _ => cases hd
theorem b_list (hK : G.K = X.K) : CallR X (.type "list") (rN G .list) := by
  refine CRmon call_list_of ?_
  rintro vs H Q ⟨F, loc, S, x, w, p, ps, rfl, hS, r, hp, hd, k⟩
  cases p with
  | list xs =>
    cases hd
    obtain ⟨a, vs, rfl, h1, h2⟩ := look_list hS r hp
    exact ⟨a, vs, rfl, .inl (rd_sql h1), fun l hl => k _ _ h2 hl⟩
  | tuple xs =>
    cases hd
    obtain ⟨a, vs, rfl, h1, h2⟩ := look_tup hS r hp
    exact ⟨a, vs, rfl, .inr (hK ▸ h1), fun l hl => k _ _ h2 hl⟩
  | _ => cases hd
theorem bools_rp {K : PySem.W.Frag} {F : Addr → Prop} {H : Hp} : ∀ {ps : List PyData} {vs : List V} {bs : List Bool}, RpL K F H vs ps → boolsOf ps = some bs → vs = bs.map V.bl
  | [], _, _, .nil, e => by cases e; rfl
  | .bool b :: r, _, _, .cons h l, e => by
    simp only [boolsOf, Option.map_eq_some_iff] at e
    obtain ⟨bs, e, rfl⟩ := e
    cases h
    rw [bools_rp l e]
    rfl
  | .none :: _, _, _, _, e => by cases e
  | .int _ :: _, _, _, _, e => by cases e
  | .str _ :: _, _, _, _, e => by cases e
  | .list _ :: _, _, _, _, e => by cases e
  | .tuple _ :: _, _, _, _, e => by cases e
  | .dict _ :: _, _, _, _, e => by cases e
theorem intsOf_eq : ∀ {ps : List PyData} {ns : List Int}, intsOf ps = some ns → ps = ns.map PyData.int
  | [], _, e => by cases e; rfl
  | .int b :: r, _, e => by
    simp only [intsOf, Option.map_eq_some_iff] at e
    obtain ⟨bs, e, rfl⟩ := e
    rw [intsOf_eq e]
    rfl
  | .none :: _, _, e => by cases e
  | .bool _ :: _, _, e => by cases e
  | .str _ :: _, _, e => by cases e
  | .list _ :: _, _, e => by cases e
  | .tuple _ :: _, _, e => by cases e
  | .dict _ :: _, _, e => by cases e
theorem ints_rp {K : PySem.W.Frag} {F : Addr → Prop} {H : Hp} {ps : List PyData} {vs : List V} {ns : List Int} (r : RpL K F H vs ps) (e : intsOf ps = some ns) : vs = ns.map V.int := by
  rw [intsOf_eq e] at r
  exact r.of_ints
theorem b_all (hc : X.calm = true) : CallR X (.builtin "all") (rB G .all) := by
  refine CRmon (cr_all hc) (rB_of (fun p q => by cases p <;> rfl) fun F loc S H x w p d Q hS r hp hd k => ?_)
  cases p with
  | list xs =>
    simp only [bfP, Option.map_eq_some_iff] at hd
    obtain ⟨bs, hb, rfl⟩ := hd
    obtain ⟨a, vs, rfl, h1, h2⟩ := look_list hS r hp
    cases bools_rp h2 hb
    exact ⟨a, bs, rfl, rd_sql h1, k _ _ _ _ (.refl hS) (.bl _)⟩
  | _ => cases hd
theorem b_any (hc : X.calm = true) : CallR X (.builtin "any") (rB G .any) := by
  refine CRmon (cr_any hc) (rB_of (fun p q => by cases p <;> rfl) fun F loc S H x w p d Q hS r hp hd k => ?_)
  cases p with
  | list xs =>
    simp only [bfP, Option.map_eq_some_iff] at hd
    obtain ⟨bs, hb, rfl⟩ := hd
    obtain ⟨a, vs, rfl, h1, h2⟩ := look_list hS r hp
    cases bools_rp h2 hb
    exact ⟨a, bs, rfl, rd_sql h1, k _ _ _ _ (.refl hS) (.bl _)⟩
  | _ => cases hd
/-- the same of a tuple -/
noncomputable def rSumT (K : PySem.W.Frag) : List V → Hp → VK → Prop := fun vs H Q => ∃ (a : Addr) (ns : List Int), vs = [V.ref a] ∧ SqT K H a (ns.map V.int) ∧ Q (.int ns.sum) H
theorem cr_sumT (hc : X.calm = true) : CallR X (.builtin "sum") (rSumT X.K) := by
  intro pins s σ H vs us Q I r h
  obtain ⟨a, ns, rfl, hs, q⟩ := h
  obtain ⟨its, rv, pl, hz⟩ := I.tuple hs
  rw [Vals.ref1 r]
  have hi := rv.ints
  have hl : s.heap.IsTuple a its.toArray := pl
  obtain ⟨xs, hx⟩ := hi.allInts.items
  have hn : numsOf its.toArray.toList = ns := by rw [show its.toArray.toList = its from rfl, hi.numsOf]
  rw [hx] at hl hn
  rw [nums_intItems] at hn
  refine PySem.W.ktm_sumG (I.ok.hd hc) hl fun h' tk t' hk => ?_
  rw [preSum_eq, List.take_of_length_le (by simp), hn]
  exact ⟨.int _, H, I.kept hk, ⟨_, rfl⟩, q⟩
theorem b_sum (hK : G.K = X.K) (hc : X.calm = true) : CallR X (.builtin "sum") (rB G .sum) := by
  refine CRmon (CRor (cr_sum hc) (cr_sumT hc)) (rB_of (fun p q => by cases p <;> rfl) fun F loc S H x w p d Q hS r hp hd k => ?_)
  cases p with
  | list xs =>
    simp only [bfP, Option.map_eq_some_iff] at hd
    obtain ⟨bs, hb, rfl⟩ := hd
    obtain ⟨a, vs, rfl, h1, h2⟩ := look_list hS r hp
    cases ints_rp h2 hb
    exact .inl ⟨a, bs, rfl, rd_sql h1, k _ _ _ _ (.refl hS) (.int _)⟩
  | tuple xs =>
    simp only [bfP, Option.map_eq_some_iff] at hd
    obtain ⟨bs, hb, rfl⟩ := hd
    obtain ⟨a, vs, rfl, h1, h2⟩ := look_tup hS r hp
    cases ints_rp h2 hb
    exact .inr ⟨a, bs, rfl, hK ▸ h1, k _ _ _ _ (.refl hS) (.int _)⟩
  | _ => cases hd
theorem rB_two {b : BF} {r : List V → Hp → VK → Prop} (one : ∀ p, bfP b [p] = none)
    (two : ∀ F loc S H w w' p q d Q, SimS G F loc S H → Rp G.K F H w p → Rp G.K F H w' q → bfP b [p, q] = some d → (∀ w' F' loc' H', Nxt G F loc S H F' loc' S H' → Rp G.K F' H' w' d → Q w' H') → r [w, w'] H Q) : ∀ vs H Q, rB G b vs H Q → r vs H Q := by
  rintro vs H Q ⟨F, loc, S, args, hS, rv, p⟩
  unfold bfO at p
  split at p
  · split at p
    · rw [one] at p; exact False.elim p
    · exact False.elim p
  · rename_i p1 p2
    cases rv with
    | cons r0 l => cases l with
    | cons r1 l =>
      cases l
      cases q : bfP b [p1, p2] with
      | none => rw [q] at p; exact False.elim p
      | some e =>
        rw [q] at p
        exact two F loc S H _ _ p1 p2 e Q hS r0 r1 q fun w' F' loc' H' n rr => p w' F' loc' H' n (show RV G F' loc' S H' (.dat e) w' from rr)
  · exact False.elim p
theorem b_min2 (hc : X.calm = true) : CallR X (.builtin "min") (rB G .min2) := by
  refine CRmon (call_min2 hc) (rB_two (fun p => by cases p <;> rfl) fun F loc S H w w' p q d Q hS r r' hd k => ?_)
  cases p <;> try (cases hd)
  cases q <;> try (cases hd)
  cases r
  cases r'
  exact ⟨_, _, rfl, k _ _ _ _ (.refl hS) (.int _)⟩
theorem b_max2 (hc : X.calm = true) : CallR X (.builtin "max") (rB G .max2) := by
  refine CRmon (call_max2 hc) (rB_two (fun p => by cases p <;> rfl) fun F loc S H w w' p q d Q hS r r' hd k => ?_)
  cases p <;> try (cases hd)
  cases q <;> try (cases hd)
  cases r
  cases r'
  exact ⟨_, _, rfl, k _ _ _ _ (.refl hS) (.int _)⟩
end
end IP
namespace IP
open PySem PySem.Spec PyProof.Rows L2

/-! ### isinstance -/
noncomputable def tyN : PyData → String
  | .none => "NoneType"
  | .bool _ => "bool"
  | .int _ => "int"
  | .str _ => "str"
  | .list _ => "list"
  | .tuple _ => "tuple"
  | .dict _ => "dict"
noncomputable def tkN : TK → String
  | .int => "int"
  | .bool => "bool"
  | .tuple => "tuple"
  | .str => "str"
theorem ty_of {G : GC} {F : Addr → Prop} {loc : Nat → Addr} {S : Store} {H : Hp} {x : Val} {w : V} {p : PyData} (hS : SimS G F loc S H) (r : RV G F loc S H x w) (e : lookF S x = some p) : TyX G.K H w (.type (tyN p)) := by
  cases x with
  | exn c fs => cases e
  | dat q =>
    cases e
    have r : Rp G.K F H w p := r
    cases r with
    | non => exact .base .non
    | bl b => exact .base (.bl b)
    | int i => exact .base (.int i)
    | str i => exact .base (.str i)
    | lst f e l => exact .base (.lst e)
    | tup f e l => exact .base (.tup e)
    | dic f e l => exact .base (.dK e)
    | dit f e l => exact .base (.dT e)
  | ref l =>
    obtain ⟨rfl, hl⟩ := r
    rcases look_ref e with ⟨xs, h, rfl⟩ | ⟨xs, h, rfl⟩ | ⟨xs, h, rfl⟩
    · obtain ⟨vs, e1, _⟩ := hS.ob l _ h
      exact .base (.lst e1)
    · obtain ⟨vs, e1, _⟩ := hS.ob l _ h
      exact .base (.dT e1)
    · obtain ⟨o, vs, e1, _⟩ := hS.ob l _ h
      exact .base (.frz e1)
theorem isTy_kit {K : PySem.W.Frag} (t : TK) (p : PyData) : PySem.W.kitOne K (.type (tyN p)) (.type (tkN t)) = some (isTy t p) := by
  refine kit_ty ?_
  cases p <;> cases t <;> (dsimp only [tyN, tkN, isTy]; decide +kernel)
section
variable {X : Cx} {G : GC} {W : WX} {cf : CallF} {b : BF} {e : Expr} {es : List Expr} {ie : IE} {ies : List IE} {pos p p2 : Pos} {x : Str} {id T : String}
theorem E_isi {t : TK} {nm : Str} (hK : G.K = X.K) (hg : Gl X "isinstance") (hm : X.mg "isinstance" = none) (hgT : Gl X nm) (hmT : X.mg nm = none) (hvT : bootBuiltins nm = some (.type (tkN t))) (hnT : nm ≠ "__name__") (hdT : (nm == ("__debug__" : Str)) = false) (ha : PE X e (rdE G W cf ie))
    (he : starEach [e, .Name nm p2] X.env = (false, eval e X.env) :: starEach [.Name nm p2] X.env) (he2 : starEach [.Name nm p2] X.env = (false, eval (.Name nm p2) X.env) :: starEach [] X.env) (hpl : (backTo pos (starEach [.Name nm p2] X.env)).any (·.1) = false) :
    PE X (.Call (.Name "isinstance" p) [e, .Name nm p2] [] pos) (rdE G W cf (.bf (.isi t) [ie])) := by
  refine PEmon (pe_callB call_isi hg hm (by rfl) (pa_cons ha (pa_cons (pe_bltn (v := .ty (tkN t)) hgT hmT hvT rfl hnT hdT) pa_nil he2) he) (by decide) (by decide) he hpl) ?_
  rintro t' H Q ⟨F, loc, s, S, hS, hE, p⟩
  rw [evE_bf] at p
  simp only [evL] at p
  refine ⟨F, loc, s, S, hS, hE, ?_⟩
  cases q : evE cf ie s S with
  | err => rw [q] at p; exact p
  | exc c fs S' => rw [q] at p; exact p
  | ok v S1 =>
    rw [q] at p
    simp only [Out.bind_ok, bfO] at p
    intro w F1 loc1 H1 n r
    split at p
    · rename_i d hd
      have p : PostV G W t' F loc S H (.ok (.dat (.bool (isTy t d))) S1) Q := p
      exact ⟨w, .ty (tkN t), _, _, _, rfl, .ty _, hK ▸ ty_of n.sim r hd, isTy_kit t d, p _ _ _ _ n (show Rp _ _ _ _ _ from .bl _)⟩
    · exact False.elim p
end
/-! ### what is read, dicts too -/
noncomputable def Sys (h : Heap) : Prop := ∃ o, h.get? sysModules = some o
theorem no_sys {X : Cx} {pins : List (Addr × Obj)} {σ : L2.St} {H : Hp} {s : Shared} (hs : Sys X.base) (I : Inv X pins σ H s) : ∀ a o, H a = some o → a ≠ sysModules := fun a o e z => by
  obtain ⟨o1, h1⟩ := hs
  have := (I.bs _ _ h1).2
  rw [z, this] at e
  cases e
section
variable {X : Cx} {pins : List (Addr × Obj)} {σ : L2.St} {H : Hp} {s : Shared} {F : Addr → Prop}
theorem rd_key {k : Key} {v : Value} (h : keyIs k v = true) : Reads s.heap v (keyD k) [] := by
  rcases keyIs_shape h with ⟨i, t, rfl, rfl⟩ | ⟨x, t, rfl, rfl⟩
  · exact .int i t
  · exact .str x t
theorem rd_keys : ∀ {es : List DictEntry} {kvs : List (Key × Value)} {prog : Program} {w : World}, Pairs (mixKind prog w) es kvs → ReadsAll s.heap (es.map (·.key)) (kvs.map fun kv => keyD kv.1) [] ∧ es.map (·.val) = kvs.map (·.2)
  | _, _, _, _, .nil => ⟨.nil, rfl⟩
  | _, _, _, _, .cons h1 h2 r => by
    obtain ⟨q1, q2⟩ := rd_keys r
    exact ⟨.cons (as := []) (bs := []) (rd_key h1) q1, by rw [List.map_cons, List.map_cons, h2, q2]⟩
theorem rd_tkeys (I : Inv X pins σ H s) {k : List Key} {a : Addr} (h : H a = some (.tup (k.map kV))) : Reads s.heap (.ref a) (.tuple (k.map keyD)) [] := by
  obtain ⟨its, rv, ⟨o, ho, hc, n, hd⟩, _⟩ := I.tuple (.inl (.inl h))
  have : ∀ {k : List Key} {us : List Value}, Vals (k.map kV) us → ReadsAll s.heap us (k.map keyD) [] := by
    intro k
    induction k with
    | nil => intro us r; cases r; exact .nil
    | cons x k ih =>
      intro us r
      cases r with
      | cons r1 r2 =>
        refine .cons (as := []) (bs := []) ?_ (ih r2)
        cases x with
        | inl i => obtain ⟨t, rfl⟩ := r1; exact .int i t
        | inr i => obtain ⟨t, rfl⟩ := r1; exact .str i t
  exact Reads.tuple ho hc hd (this rv)
mutual
theorem Rp.reads (Z : ∀ a o, H a = some o → a ≠ sysModules) (I : Inv X pins σ H s) : ∀ {d : PyData} {v : V} {u : Value}, Rp X.K F H v d → RelV v u → ∃ as, Reads s.heap u d as ∧ sysModules ∉ as
  | _, _, _, .non, r => by cases r; exact ⟨_, Reads.none, by simp⟩
  | _, _, _, .bl b, r => by cases r; exact ⟨_, Reads.bool b, by simp⟩
  | _, _, _, .int i, r => by obtain ⟨t, rfl⟩ := r; exact ⟨_, Reads.int i t, by simp⟩
  | _, _, _, .str x, r => by obtain ⟨t, rfl⟩ := r; exact ⟨_, Reads.str x t, by simp⟩
  | _, _, _, .lst f e l, r => by
    cases r
    obtain ⟨its, rv, ⟨o, n, ho, hc, _, hd⟩, _⟩ := I.list (.inl (.inl e))
    obtain ⟨as, hr, hn⟩ := RpL.reads Z I l rv
    exact ⟨_, Reads.list ho hc hd hr, by rw [List.mem_cons, not_or]; exact ⟨Ne.symm (Z _ _ e), hn⟩⟩
  | _, _, _, .tup f e l, r => by
    cases r
    obtain ⟨its, rv, ⟨o, ho, hc, n, hd⟩, _⟩ := I.tuple (.inl (.inl e))
    obtain ⟨as, hr, hn⟩ := RpL.reads Z I l rv
    exact ⟨_, Reads.tuple ho hc hd hr, hn⟩
  | _, _, _, .dic (kvs := kvs) f e l, r => by
    cases r
    obtain ⟨_, hs, vs, hv, o, es, ep, ho, hx, hd, _, hp, _⟩ := I.hok _ _ e
    obtain ⟨k1, k2⟩ := rd_keys (s := s) hp
    obtain ⟨bs, hr, hn, hk⟩ := RpD.reads Z I l hv
    rw [← hk] at k1
    rw [← k2] at hr
    refine ⟨_, Reads.dict ho hx.1 hd k1 hr, ?_⟩
    simp only [List.append_nil, List.cons_append, List.nil_append, List.mem_cons, not_or]
    exact ⟨Ne.symm (Z _ _ e), hn⟩
  | _, _, _, .dit (kvs := kvs) f e l, r => by
    cases r
    obtain ⟨_, hs, xs, hv, o, es, ep, ho, hx, hd, he, _⟩ := I.hok _ _ e
    obtain ⟨bs, hr, hn, hk⟩ := RpT.reads Z I l hv
    have e1 : es.toList.map (·.key) = xs.map fun x => .ref x.2.1 := by rw [he, List.map_map]; rfl
    have e2 : es.toList.map (·.val) = xs.map fun x => x.2.2 := by rw [he, List.map_map]; rfl
    rw [← e1] at hk
    rw [← e2] at hr
    refine ⟨_, Reads.dict ho hx.1 hd hk hr, ?_⟩
    simp only [List.append_nil, List.cons_append, List.nil_append, List.mem_cons, not_or]
    exact ⟨Ne.symm (Z _ _ e), hn⟩
theorem RpL.reads (Z : ∀ a o, H a = some o → a ≠ sysModules) (I : Inv X pins σ H s) : ∀ {ds : List PyData} {vs : List V} {us : List Value}, RpL X.K F H vs ds → Vals vs us → ∃ as, ReadsAll s.heap us ds as ∧ sysModules ∉ as
  | _, _, _, .nil, r => by cases r; exact ⟨_, ReadsAll.nil, by simp⟩
  | _, _, _, .cons r1 l, r => by
    cases r with
    | cons q1 q2 =>
      obtain ⟨as, h1, n1⟩ := Rp.reads Z I r1 q1
      obtain ⟨bs, h2, n2⟩ := RpL.reads Z I l q2
      exact ⟨_, ReadsAll.cons h1 h2, by rw [List.mem_append, not_or]; exact ⟨n1, n2⟩⟩
theorem RpD.reads (Z : ∀ a o, H a = some o → a ≠ sysModules) (I : Inv X pins σ H s) : ∀ {ds : List (PyData × PyData)} {kvs : List (Key × V)} {vs : List (Key × Value)}, RpD X.K F H kvs ds → KV kvs vs → ∃ as, ReadsAll s.heap (vs.map (·.2)) (ds.map (·.2)) as ∧ sysModules ∉ as ∧ ds.map (·.1) = vs.map fun kv => keyD kv.1
  | _, _, _, .nil, r => by cases r; exact ⟨_, ReadsAll.nil, by simp, rfl⟩
  | _, _, _, .cons r1 l, r => by
    cases r with
    | cons q1 q2 =>
      obtain ⟨as, h1, n1⟩ := Rp.reads Z I r1 q1.2
      obtain ⟨bs, h2, n2, e2⟩ := RpD.reads Z I l q2
      exact ⟨_, ReadsAll.cons h1 h2, by rw [List.mem_append, not_or]; exact ⟨n1, n2⟩, by rw [List.map_cons, List.map_cons, e2, ← q1.1]⟩
theorem RpT.reads (Z : ∀ a o, H a = some o → a ≠ sysModules) (I : Inv X pins σ H s) : ∀ {ds : List (PyData × PyData)} {kvs : List (List Key × V)} {xs : List (List Key × Addr × Value)}, RpT X.K F H kvs ds → Paired (fun (p : List Key × V) (q : List Key × Addr × Value) => p.1 = q.1 ∧ H q.2.1 = some (.tup (p.1.map kV)) ∧ RelV p.2 q.2.2) kvs xs →
    ∃ as, ReadsAll s.heap (xs.map fun x => x.2.2) (ds.map (·.2)) as ∧ sysModules ∉ as ∧ ReadsAll s.heap (xs.map fun x => Value.ref x.2.1) (ds.map (·.1)) []
  | _, _, _, .nil, r => by cases r; exact ⟨_, ReadsAll.nil, by simp, ReadsAll.nil⟩
  | _, _, _, .cons r1 l, r => by
    cases r with
    | cons q1 q2 =>
      obtain ⟨as, h1, n1⟩ := Rp.reads Z I r1 q1.2.2
      obtain ⟨bs, h2, n2, e2⟩ := RpT.reads Z I l q2
      exact ⟨_, ReadsAll.cons h1 h2, by rw [List.mem_append, not_or]; exact ⟨n1, n2⟩, ReadsAll.cons (as := []) (bs := []) (rd_tkeys I q1.2.1) e2⟩
end
theorem look_reads (Z : ∀ a o, H a = some o → a ≠ sysModules) {G : GC} {loc : Nat → Addr} {S : Store} {x : Val} {v : V} {u : Value} {p : PyData} (hK : G.K = X.K) (hS : SimS G F loc S H) (r : RV G F loc S H x v) (e : lookF S x = some p) (I : Inv X pins σ H s) (ru : RelV v u) : ∃ as, Reads s.heap u p as ∧ sysModules ∉ as := by
  cases x with
  | dat q =>
    cases e
    exact Rp.reads Z I (hK ▸ show Rp G.K F H v p from r) ru
  | ref l =>
    obtain ⟨rfl, hl⟩ := r
    cases ru
    rcases look_ref e with ⟨xs, h1, h2⟩ | ⟨xs, h1, h2⟩ | ⟨xs, h1, h2⟩
    · subst h2
      obtain ⟨vs, h3, h4⟩ := hS.ob l _ h1
      rw [hK] at h4
      obtain ⟨its, rv, ⟨o, n, ho, hc, _, hd⟩, _⟩ := I.list (.inl (.inl h3))
      obtain ⟨as, hr, hn⟩ := RpL.reads Z I h4 rv
      exact ⟨_, Reads.list ho hc hd hr, by rw [List.mem_cons, not_or]; exact ⟨Ne.symm (Z _ _ h3), hn⟩⟩
    · subst h2
      obtain ⟨kvs, h3, h4⟩ := hS.ob l _ h1
      rw [hK] at h4
      exact Rp.reads (F := fun b => F b ∨ b = loc l) Z I (.dit (.inr rfl) h3 (RpT.mono (fun _ f => .inl f) (fun _ _ _ e => e) h4)) rfl
    · subst h2
      obtain ⟨o, vs, h3, h4⟩ := hS.ob l _ h1
      rw [hK] at h4
      obtain ⟨its, rv, ⟨o, n, ho, hc, _, hd⟩, _⟩ := I.list (.inl (.inr ⟨_, h3⟩))
      obtain ⟨as, hr, hn⟩ := RpL.reads Z I h4 rv
      exact ⟨_, Reads.list ho hc hd hr, by rw [List.mem_cons, not_or]; exact ⟨Ne.symm (Z _ _ h3), hn⟩⟩
  | exn c fs => cases e
end
section
variable {X : Cx} {G : GC} {W : WX} {cf : CallF} {b : BF} {e : Expr} {es : List Expr} {ie : IE} {ies : List IE} {pos p p2 : Pos} {x : Str} {id T : String}
/-! ### repr -/
theorem b_repr (hsys : Sys X.base) (hK : G.K = X.K) (hu : X.A.guards = some []) (hr : X.A.units + 200 < cLine) : CallR X (.builtin "repr") (rB G .repr) := by
  intro pins s σ H vs us Q I rv h
  refine rB_of (b := .repr) (r := fun vs H Q => Vals vs us → Inv X pins σ H s → wpAny (model X.prog X.w) X.A (call (.builtin "repr") us) (EP X pins σ Q) X.xe s) (fun p q => by cases p <;> rfl) ?_ vs H Q h rv I
  clear h rv I
  intro F loc S H x w p d Q hS r hp hd k rv I
  obtain ⟨u, rfl, ru⟩ := vals1 rv
  simp only [bfP] at hd
  split at hd
  rotate_left
  · cases hd
  rename_i hok
  cases hd
  simp only [repOk, Bool.and_eq_true, decide_eq_true_eq] at hok
  obtain ⟨⟨h1, h3⟩, h4⟩ := hok
  have q := k _ _ _ _ (.refl hS) (.str p.shown)
  obtain ⟨as, rd, hn⟩ := look_reads (no_sys hsys I) hK hS r hp I ru
  have fin : ∀ tk, EP X pins σ Q (.str p.shown tk) { s with toks := tk + 1 } → True := fun _ _ => True.intro
  cases rd with
  | none => exact PySem.P.repr_of_none ⟨.str _, H, I.tok _, ⟨_, rfl⟩, q⟩
  | bool b => exact PySem.P.repr_of_bool ⟨.str _, H, I.tok _, ⟨_, rfl⟩, by cases b <;> exact q⟩
  | int i t => exact PySem.P.repr_of_int (by simpa [PyData.showable] using h1) ⟨.str _, H, I.tok _, ⟨_, rfl⟩, q⟩
  | str y t => exact PySem.P.repr_of_str ⟨.str _, H, I.tok _, ⟨_, rfl⟩, q⟩ h4
  | list a1 a2 a3 a4 => exact repr_of_reads' (.list a1 a2 a3 a4) h1 (fun _ => hn) hu (by omega) (fun _ _ e => e) (fun h' u tk hk => ⟨.str _, H, I.kept hk, ⟨_, rfl⟩, q⟩) h4
  | tuple a1 a2 a3 a4 => exact repr_of_reads' (.tuple a1 a2 a3 a4) h1 (fun _ => hn) hu (by omega) (fun _ _ e => e) (fun h' u tk hk => ⟨.str _, H, I.kept hk, ⟨_, rfl⟩, q⟩) h4
  | dict a1 a2 a3 a4 a5 => exact repr_of_reads' (.dict a1 a2 a3 a4 a5) h1 (fun _ => hn) hu (by omega) (fun _ _ e => e) (fun h' u tk hk => ⟨.str _, H, I.kept hk, ⟨_, rfl⟩, q⟩) h4
end
/-! ### rows of ints in order -/
noncomputable def encR (r : List Int) : PyData := .tuple (r.map .int)
theorem rows_eq : ∀ {ps : List PyData} {rs : List (List Int)}, rowsInt ps = some rs → ps = rs.map encR
  | [], _, e => by cases e; rfl
  | .tuple xs :: r, rs, e => by
    simp only [rowsInt] at e
    split at e
    · rename_i ns rs' h1 h2
      cases e
      rw [rows_eq h2, intsOf_eq h1]
      rfl
    · cases e
  | .none :: _, _, e => by cases e
  | .bool _ :: _, _, e => by cases e
  | .int _ :: _, _, e => by cases e
  | .str _ :: _, _, e => by cases e
  | .list _ :: _, _, e => by cases e
  | .dict _ :: _, _, e => by cases e
theorem lex_iff : ∀ a b : List Int, HT.lexLt a b = decide (a < b)
  | [], [] => by simp [HT.lexLt]
  | [], _ :: _ => by simp [HT.lexLt]
  | _ :: _, [] => by simp [HT.lexLt]
  | x :: xs, y :: ys => by
    rw [HT.lexLt_cons, lex_iff xs ys]
    by_cases h : x = y
    · subst h
      rw [if_pos rfl]
      simp [List.cons_lt_cons_iff]
    · rw [if_neg h]
      simp [List.cons_lt_cons_iff, h]
theorem lt_enc (a b : List Int) : PySem.W.dataLt (encR a) (encR b) = HT.lexLt a b := by
  unfold encR
  rw [PySem.W.dataLt_tuple, lex_iff]
  exact PySem.W.dataLt_ints a b
theorem alike_rows : ∀ a b : List Int, PySem.W.alikeAll (a.map .int) (b.map .int) = true
  | [], _ => by cases ‹List Int› <;> rfl
  | _ :: _, [] => rfl
  | x :: xs, y :: ys => by
    show (PySem.W.alike (.int x) (.int y) && PySem.W.alikeAll (xs.map .int) (ys.map .int)) = true
    rw [alike_rows xs ys]
    rfl
theorem alike_enc (a b : List Int) : PySem.W.alike (encR a) (encR b) = true := by
  unfold encR
  show PySem.W.alikeAll (a.map .int) (b.map .int) = true
  exact alike_rows a b
theorem ins_perm {A : Type} (lt : A → A → Bool) (x : A) : ∀ l : List A, (insBy lt x l).Perm (x :: l)
  | [] => .refl _
  | y :: r => by
    unfold insBy
    split
    · exact .refl _
    · exact ((ins_perm lt x r).cons y).trans (.swap x y r)
theorem sort_perm {A : Type} (lt : A → A → Bool) : ∀ l : List A, (sortBy lt l).Perm l
  | [] => .refl _
  | x :: r => (ins_perm lt x _).trans ((sort_perm lt r).cons x)
noncomputable def leL (a b : List Int) : Prop := HT.lexLt b a = false
theorem leL_trans {a b c : List Int} (h1 : leL a b) (h2 : leL b c) : leL a c := by
  unfold leL at *
  rw [lex_iff, decide_eq_false_iff_not] at *
  exact List.not_lt.mpr (List.le_trans (List.not_lt.mp h1) (List.not_lt.mp h2))
theorem leL_of_lt {a b : List Int} (h : HT.lexLt a b = true) : leL a b := by
  unfold leL
  rw [lex_iff, decide_eq_false_iff_not]
  rw [lex_iff, decide_eq_true_eq] at h
  exact List.not_lt.mpr (List.le_of_lt h)
theorem leL_anti {a b : List Int} (h1 : leL a b) (h2 : leL b a) : a = b := by
  unfold leL at *
  rw [lex_iff, decide_eq_false_iff_not] at *
  exact List.le_antisymm (List.not_lt.mp h1) (List.not_lt.mp h2)
theorem ins_sorted (x : List Int) : ∀ l : List (List Int), l.Pairwise leL → (insBy HT.lexLt x l).Pairwise leL
  | [], _ => List.pairwise_singleton _ _
  | y :: r, h => by
    unfold insBy
    split
    · rename_i hx
      refine List.pairwise_cons.mpr ⟨fun z hz => ?_, h⟩
      rcases List.mem_cons.mp hz with e | hz
      · rw [e]; exact leL_of_lt hx
      · exact leL_trans (leL_of_lt hx) ((List.pairwise_cons.mp h).1 z hz)
    · rename_i hx
      refine List.pairwise_cons.mpr ⟨fun z hz => ?_, ins_sorted x r (List.pairwise_cons.mp h).2⟩
      rcases List.mem_cons.mp ((ins_perm HT.lexLt x r).mem_iff.mp hz) with e | hz
      · rw [e]
        unfold leL
        simpa using hx
      · exact (List.pairwise_cons.mp h).1 z hz
theorem sort_sorted : ∀ l : List (List Int), (sortBy HT.lexLt l).Pairwise leL
  | [] => .nil
  | x :: r => ins_sorted x _ (sort_sorted r)
theorem dle_enc (a b : List Int) : PySem.W.dataLe false encR a b = !HT.lexLt b a := by
  rw [PySem.W.dataLe_eq]
  show (!PySem.W.dataLt (encR b) (encR a)) = _
  rw [lt_enc]
theorem merge_sort (l : List (List Int)) : l.mergeSort (PySem.W.dataLe false encR) = sortBy HT.lexLt l := by
  have h1 := List.pairwise_mergeSort (le := PySem.W.dataLe false encR) (fun a b c h1 h2 => by
    rw [dle_enc] at *
    have h1 : leL a b := by simpa [leL] using h1
    have h2 : leL b c := by simpa [leL] using h2
    have h3 : HT.lexLt c a = false := leL_trans h1 h2
    rw [h3]; rfl) (fun a b => by
    rw [dle_enc, dle_enc]
    cases h : HT.lexLt a b with
    | false => simp
    | true =>
      have h3 : HT.lexLt b a = false := leL_of_lt h
      rw [h3]; rfl) l
  refine List.Perm.eq_of_pairwise (le := leL) (fun a b _ _ h1 h2 => leL_anti h1 h2) (h1.imp fun {a b} h => ?_) (sort_sorted l) ((List.mergeSort_perm l _).trans (sort_perm HT.lexLt l).symm)
  rw [dle_enc] at h
  show HT.lexLt b a = false
  simpa using h
section
variable {X : Cx} {G : GC}
theorem vals_getV : ∀ {xs : List V} {us : List Value} {i : Nat} {u : Value}, Vals xs us → us[i]? = some u → ∃ x, xs[i]? = some x ∧ RelV x u := fun {xs us i u} r e => by
  have hi : i < xs.length := by rw [r.length]; exact (List.getElem?_eq_some_iff.mp e).1
  obtain ⟨u', h1, h2⟩ := r.get (List.getElem?_eq_getElem hi)
  rw [e] at h1
  cases h1
  exact ⟨_, List.getElem?_eq_getElem hi, h2⟩
theorem rows_each {K : PySem.W.Frag} {F : Addr → Prop} {H : Hp} : ∀ {rs : List (List Int)} {vs : List V} {us : List Value}, RpL K F H vs (rs.map encR) → Vals vs us → PySem.W.EachIs (fun u r => ∃ w, RelV w u ∧ Rp K F H w (encR r)) us rs
  | [], _, _, .nil, .nil => .nil
  | _ :: _, _, _, .cons r l, .cons q k => .cons ⟨_, q, r⟩ (rows_each l k)
theorem each_rows {K : PySem.W.Frag} {F : Addr → Prop} {H : Hp} : ∀ {rs : List (List Int)} {us : List Value}, PySem.W.EachIs (fun u r => ∃ w, RelV w u ∧ Rp K F H w (encR r)) us rs → ∃ vs, RpL K F H vs (rs.map encR) ∧ Vals vs us
  | _, _, .nil => ⟨[], .nil, .nil⟩
  | _, _, .cons ⟨w, r, q⟩ k => by
    obtain ⟨vs, h1, h2⟩ := each_rows k
    exact ⟨w :: vs, .cons q h1, .cons r h2⟩
theorem noD : ∀ ns : List Int, PyData.hasDictAll (ns.map .int) = false
  | [] => rfl
  | n :: ns => by
    show (PyData.hasDict (.int n) || PyData.hasDictAll (ns.map .int)) = false
    rw [noD ns]
    rfl
theorem dep0 : ∀ ns : List Int, PyData.depthAll (ns.map .int) ≤ 1
  | [] => by simp [PyData.depthAll]
  | n :: ns => by
    have := dep0 ns
    simp only [List.map_cons, PyData.depthAll, PyData.depth]
    omega
theorem depR (r : List Int) : (encR r).depth ≤ 3 := by
  have := dep0 r
  unfold encR
  simp only [PyData.depth]
  omega
theorem depRs : ∀ rs : List (List Int), PyData.depthAll (rs.map encR) ≤ 3
  | [] => by simp [PyData.depthAll]
  | r :: rs => by
    have := depRs rs
    have := depR r
    simp only [List.map_cons, PyData.depthAll]
    omega
theorem b_sorted (hK : G.K = X.K) (hr : X.A.units + 200 < cLine) : CallR X (.builtin "sorted") (rN G .sorted) := by
  intro pins s σ H vs us Q I rv h
  obtain ⟨F, loc, S, x, w, p, ps, rfl, hS, r, hp, hd, k⟩ := h
  cases p <;> try (cases hd)
  rename_i xs
  simp only [bfP, Option.bind_eq_some_iff] at hd
  obtain ⟨rs, h1, h2⟩ := hd
  split at h2
  rotate_left
  · cases h2
  rename_i hne
  cases h2
  cases rows_eq h1
  obtain ⟨a, vs, rfl, e1, l⟩ := look_list hS r hp
  obtain ⟨u, rfl, ru⟩ := vals1 rv
  cases (show u = Value.ref a from ru)
  obtain ⟨its, rv, hl, hz⟩ := I.list (rd_sql e1)
  have ee := rows_each l rv
  have er : PySem.W.EachIs (fun v b => ∃ as, Reads s.heap v (encR b) as) its rs := ee.mono fun u b ⟨w, q, rr⟩ => Dp.reads I _ _ _ (by rw [← hK]; exact rr.dp (noD b)) q
  have hal : PySem.W.AllAlike (rs.map encR) := by
    intro d hd d' hd'
    obtain ⟨b, _, rfl⟩ := List.mem_map.mp hd
    obtain ⟨b', _, rfl⟩ := List.mem_map.mp hd'
    exact alike_enc b b'
  have hso : PySem.W.Sortable (rs.map encR) := by
    refine .inl fun d hd => ?_
    obtain ⟨b, hb, rfl⟩ := List.mem_map.mp hd
    have := List.all_eq_true.mp hne b hb
    cases b with
    | nil => cases this
    | cons y z => exact ⟨_, _, rfl⟩
  refine PySem.W.sorted_data (enc := encR) hl.isList ee er hal hso (by rw [l.length, List.length_map] at hz; exact hz) (fun b _ => by have := depR b; omega) fun out ho eo => ?_
  · rw [merge_sort] at eo
    obtain ⟨ws, q1, q2⟩ := each_rows eo
    obtain ⟨ep, he'⟩ := PyProof.Rows.sortedAll_at s.heap its out.toArray
    have hlen : ws.length ≤ sizeLine := by
      rw [l.length, List.length_map] at hz
      rw [q1.length, List.length_map, (sort_perm HT.lexLt rs).length_eq]
      exact hz
    exact ⟨.ref _, upd H (s.heap.objs.size + 1) (.lst ws), I.laid (t' := s.toks) (fun _ _ => PyProof.Rows.sortedAll_old) (Nat.le_succ _) ⟨hlen, out, ep, q2, he'⟩, rfl, k _ _ q1 (I.hok.fresh (Nat.le_succ _))⟩
theorem alike_rr : ∀ a b : List (List Int), PySem.W.alikeAll (a.map encR) (b.map encR) = true
  | [], b => by cases b <;> rfl
  | _ :: _, [] => rfl
  | x :: xs, y :: ys => by
    show (PySem.W.alike (encR x) (encR y) && PySem.W.alikeAll (xs.map encR) (ys.map encR)) = true
    rw [alike_rr xs ys, alike_enc]
    rfl
theorem eqv_enc (a b : List Int) : PyData.eqv (encR a) (encR b) = decide (a = b) := by
  unfold encR
  rw [show PyData.eqv (.tuple (a.map .int)) (.tuple (b.map .int)) = PyData.eqvAll (a.map .int) (b.map .int) from by simp only [PyData.eqv]]
  induction a generalizing b with
  | nil => cases b <;> simp [PyData.eqvAll]
  | cons x a ih =>
    cases b with
    | nil => simp [PyData.eqvAll]
    | cons y b =>
      simp only [List.map_cons, PyData.eqvAll, ih]
      by_cases e : x = y
      · subst e
        simp [PyData.eqv]
      · simp [PyData.eqv, e]
theorem lt_rr : ∀ a b : List (List Int), PySem.W.rowLt (a.map encR) (b.map encR) = lexR a b
  | [], [] => rfl
  | [], y :: ys => rfl
  | x :: xs, [] => rfl
  | x :: xs, y :: ys => by
    have ih := lt_rr xs ys
    unfold PySem.W.rowLt at ih ⊢
    rw [List.map_cons, List.map_cons, PySem.W.dataLt_cons (alike_enc x y), eqv_enc, lt_enc, ih]
    simp only [decide_eq_true_eq]
    rfl
noncomputable def encRR (r : List (List Int)) : PyData := .tuple (r.map encR)
theorem rowsRs_eq : ∀ {ps : List PyData} {rs : List (List (List Int))}, rowsRs ps = some rs → ps = rs.map encRR
  | [], _, e => by cases e; rfl
  | .tuple xs :: r, rs, e => by
    simp only [rowsRs] at e
    split at e
    · rename_i ns rs' h1 h2
      cases e
      rw [rowsRs_eq h2, rows_eq h1]
      rfl
    · cases e
  | .none :: _, _, e => by cases e
  | .bool _ :: _, _, e => by cases e
  | .int _ :: _, _, e => by cases e
  | .str _ :: _, _, e => by cases e
  | .list _ :: _, _, e => by cases e
  | .dict _ :: _, _, e => by cases e
theorem lt_rrr (a b : List (List Int)) : PySem.W.dataLt (encRR a) (encRR b) = lexR a b := by
  unfold encRR
  rw [PySem.W.dataLt_tuple]
  exact lt_rr a b
theorem alike_rrr (a b : List (List Int)) : PySem.W.alike (encRR a) (encRR b) = true := alike_rr a b
theorem noDs (rs : List (List Int)) : PyData.hasDictAll (rs.map encR) = false := by
  induction rs with
  | nil => rfl
  | cons y ys ih =>
    show (PyData.hasDict (encR y) || PyData.hasDictAll (ys.map encR)) = false
    rw [ih, show PyData.hasDict (encR y) = false from noD y]
    rfl
theorem noDR (r : List (List Int)) : (encRR r).hasDict = false := noDs r
theorem depRRs (rs : List (List (List Int))) : PyData.depthAll (rs.map encRR) ≤ 4 := by
  induction rs with
  | nil => exact Nat.zero_le _
  | cons y ys ih =>
    have h1 := depRs y
    show max (PyData.depth (encRR y)) (PyData.depthAll (ys.map encRR)) ≤ 4
    have h2 : PyData.depth (encRR y) ≤ 4 := by
      unfold encRR
      simp only [PyData.depth]
      omega
    omega
theorem least_gen {A : Type} {enc : A → PyData} {lt : A → A → Bool} (hlt : ∀ a b, PySem.W.dataLt (enc a) (enc b) = lt a b) (x : A) : ∀ rs : List A, PySem.W.minD (enc x) (rs.map enc) = enc (leastBy lt x rs) := by
  intro rs
  unfold PySem.W.minD
  induction rs generalizing x with
  | nil => rfl
  | cons y r ih =>
    rw [List.map_cons, List.foldl_cons, hlt]
    unfold leastBy
    split
    · exact ih y
    · exact ih x
theorem b_min (hK : G.K = X.K) (hr : X.A.units + 200 < cLine) (hc : X.calm = true) : CallR X (.builtin "min") (rB G .min) := by
  intro pins s σ H vs us Q I rv h
  refine rB_of (b := .min) (r := fun vs H Q => Vals vs us → Inv X pins σ H s → wpAny (model X.prog X.w) X.A (call (.builtin "min") us) (EP X pins σ Q) X.xe s) (fun p q => by cases p <;> rfl) ?_ vs H Q h rv I
  clear h rv I
  intro F loc S H x w p d Q hS r hp hd k rv I
  have gen : ∀ {A : Type} (enc : A → PyData) (lt : A → A → Bool) (b : A) (rs : List A), (∀ a b, PySem.W.dataLt (enc a) (enc b) = lt a b) → (∀ a b, PySem.W.alike (enc a) (enc b) = true) → (∀ a, (enc a).hasDict = false) → (∀ a, enc a ≠ .none) → PyData.depthAll ((b :: rs).map enc) ≤ 100 →
      p = .list ((b :: rs).map enc) → d = enc (leastBy lt b rs) → wpAny (model X.prog X.w) X.A (call (.builtin "min") us) (EP X pins σ Q) X.xe s := by
    intro A enc lt b rs hlt hal hno hnn hdp e1' e2'
    subst e1'
    subst e2'
    obtain ⟨a, vs, rfl, e1, l⟩ := look_list hS r hp
    obtain ⟨u, rfl, ru⟩ := vals1 rv
    cases (show u = Value.ref a from ru)
    obtain ⟨its, rv, hl, hz⟩ := I.list (rd_sql e1)
    have dpA : DpAll X.K H vs ((b :: rs).map enc) := by
      rw [← hK]
      refine RpL.dp l ?_
      generalize (b :: rs) = ys
      induction ys with
      | nil => rfl
      | cons y ys ih =>
        show (PyData.hasDict (enc y) || PyData.hasDictAll (ys.map enc)) = false
        rw [ih, hno y]
        rfl
    obtain ⟨as, rd⟩ := Dp.readsAll I _ _ _ dpA rv
    have rd : ReadsAll s.heap its.toArray.toList (enc b :: rs.map enc) as := rd
    refine PySem.W.min_list_data (I.ok.hd hc) hl.isList rd ⟨fun y hy z hz => ?_, fun y hy => ?_⟩ (by rw [List.map_cons] at hdp; omega) fun i v h' tk bs hi rv' hk => ?_
    · obtain ⟨b1, _, rfl⟩ := List.mem_map.mp (show y ∈ (b :: rs).map enc from hy)
      obtain ⟨b2, _, rfl⟩ := List.mem_map.mp (show z ∈ (b :: rs).map enc from hz)
      exact hal b1 b2
    · obtain ⟨b1, _, rfl⟩ := List.mem_map.mp (show y ∈ (b :: rs).map enc from hy)
      exact hnn b1
    · rw [List.getElem?_toArray] at hi
      obtain ⟨w, hw, rw'⟩ := vals_getV rv hi
      obtain ⟨d, hd, rp⟩ := l.getV hw
      rw [least_gen hlt] at rv'
      rw [List.getElem?_map] at hd
      obtain ⟨row, _, rfl⟩ : ∃ row, (b :: rs)[i]? = some row ∧ enc row = d := by simpa using hd
      have J := I.kept (t' := tk) hk
      obtain ⟨as2, rd2⟩ := Dp.reads J _ _ _ (by rw [← hK]; exact rp.dp (hno row)) rw'
      have e := PySem.W.alike_unique _ _ _ _ _ (hal row _) rd2 rv'
      rw [e] at rp
      exact ⟨w, H, J, rw', k _ _ _ _ (.refl hS) rp⟩
  cases p <;> try (cases hd)
  rename_i xs
  simp only [bfP] at hd
  split at hd
  · rename_i b rs h1
    cases hd
    cases rows_eq h1
    exact gen encR HT.lexLt b rs lt_enc alike_enc noD (fun a z => by cases z) (by have := depRs (b :: rs); omega) rfl rfl
  · cases hd
  · split at hd
    · rename_i b rs h1
      cases hd
      cases rowsRs_eq h1
      exact gen encRR lexR b rs lt_rrr alike_rrr noDR (fun a z => by cases z) (by have := depRRs (b :: rs); omega) rfl rfl
    · cases hd
end
end IP
namespace IP
open PySem PySem.Spec PyProof.Rows L2

section
variable {X : Cx} {G : GC} {W : WX} {cf : CallF} {a b c e : Expr} {ia ib ic ie : IE} {pos : Pos} {es rest : List Expr} {ies : List IE} {op op' : CK} {o o' : CmpOp}
/-! ### what is not run -/
theorem E_bad : PE X e (rdE G W cf .bad) := ⟨fun pins s σ H Q I ⟨F, loc, s', S, _, _, p⟩ => by
  simp only [evE] at p
  exact p.elim⟩
/-! ### tests -/
theorem rd_cmp (hK : G.K = X.K) {t : L2.St} {H : Hp} {Q : VK} (h : rdE G W cf (.cmp op ia ib) t H Q) : tOp (rCmp X.K (cmpP op)) (rdE G W cf ia) (rdE G W cf ib) t H Q := by
  obtain ⟨F, loc, s, S, hS, hE, p⟩ := h
  simp only [evE] at p
  exact ⟨F, loc, s, S, hS, hE, Post.bind p fun v S1 w F1 loc1 H1 n r p1 => ⟨F1, loc1, s, S1, n.sim, hE.next n, Post.bind p1 fun v2 S2 w2 F2 loc2 H2 n2 r2 p2 => cmp_post hK n2.sim (r.next n2) r2 p2⟩⟩
theorem T_cmp (ho : OpR X (compareOp o) (rCmp X.K (cmpP op))) (hK : G.K = X.K) (ha : PE X a (rdE G W cf ia)) (hb : PE X b (rdE G W cf ib)) (hm : behindInMarks o b = false) : PT X (.Compare a [o] [b] pos) (rdT G W cf (.cmp op ia ib)) :=
  PTmon (pt_cmpR ho ha hb hm) fun t H Q h => rd_cmp hK (rdT_of h)
theorem rd_isn {n : Bool} {t : L2.St} {H : Hp} {Q : VK} (h : rdE G W cf (.isc n ia .none) t H Q) : rdE G W cf ia t H fun x H1 => Q (.bl (if n = true then !decide (x = .non) else decide (x = .non))) H1 := by
  obtain ⟨F, loc, s, S, hS, hE, p⟩ := h
  simp only [evE] at p
  refine ⟨F, loc, s, S, hS, hE, Post.bind p fun v S1 w F1 loc1 H1 m r p1 => ?_⟩
  have q : ∀ k : Bool, PostV G W t F1 loc1 S1 H1 (.ok (.dat (.bool k)) S1) Q → Q (.bl k) H1 := fun k p => p _ _ _ _ (.refl m.sim) (show Rp _ _ _ _ _ from .bl k)
  have ne : w ≠ .non → (if n = true then !decide (w = .non) else decide (w = .non)) = n := fun h => by
    cases n <;> simp [h]
  cases v with
  | dat d =>
    have r : Rp G.K F1 H1 w d := r
    cases d with
    | none =>
      cases r
      have := q _ p1
      cases n <;> simpa using this
    | bool k => cases r; rw [ne (fun z => by cases z)]; exact q _ p1
    | int k => cases r; rw [ne (fun z => by cases z)]; exact q _ p1
    | str k => cases r; rw [ne (fun z => by cases z)]; exact q _ p1
    | list k => cases r; rw [ne (fun z => by cases z)]; exact q _ p1
    | tuple k => cases r <;> (rw [ne (fun z => by cases z)]; exact q _ p1)
    | dict k => cases r <;> (rw [ne (fun z => by cases z)]; exact q _ p1)
  | ref l =>
    obtain ⟨rfl, _⟩ := r
    rw [ne (fun z => by cases z)]
    exact q _ p1
  | exn c fs => exact False.elim p1
theorem T_isN {n : Bool} {j pos'} (ho : o = if n = true then .IsNot else .Is) (ha : PE X a (rdE G W cf ia)) : PT X (.Compare a [o] [.Constant .none j pos'] pos) (rdT G W cf (.isc n ia .none)) := by
  cases n with
  | true =>
    rw [if_pos rfl] at ho
    subst ho
    refine PTmon (pt_cmp (pc_notN ha)) fun t H Q h => ?_
    have := rd_isn (rdT_of h)
    simp only [if_pos] at this
    exact this
  | false =>
    rw [if_neg Bool.false_ne_true] at ho
    subst ho
    refine PTmon (pt_cmp (pc_isN ha)) fun t H Q h => ?_
    have := rd_isn (rdT_of h)
    simp only [if_neg Bool.false_ne_true] at this
    exact this
theorem rd_isb {n k : Bool} {t : L2.St} {H : Hp} {Q : VK} (h : rdE G W cf (.isc n ia (.bool k)) t H Q) : rdE G W cf ia t H fun x H1 => ∃ d : Bool, x = .bl d ∧ Q (.bl (if n = true then !decide (d = k) else decide (d = k))) H1 := by
  obtain ⟨F, loc, s, S, hS, hE, p⟩ := h
  simp only [evE] at p
  refine ⟨F, loc, s, S, hS, hE, Post.bind p fun v S1 w F1 loc1 H1 m r p1 => ?_⟩
  cases v with
  | dat d =>
    have r : Rp G.K F1 H1 w d := r
    cases d with
    | bool k' =>
      cases r
      exact ⟨k', rfl, p1 _ _ _ _ (.refl m.sim) (show Rp _ _ _ _ _ from .bl _)⟩
    | _ => exact False.elim p1
  | ref l => exact False.elim p1
  | exn c fs => exact False.elim p1
theorem T_isB {n k : Bool} {j pos'} (ho : o = if n = true then .IsNot else .Is) (ha : PE X a (rdE G W cf ia)) : PT X (.Compare a [o] [.Constant (.bool k) j pos'] pos) (rdT G W cf (.isc n ia (.bool k))) := by
  cases n with
  | true =>
    rw [if_pos rfl] at ho
    subst ho
    refine PTmon (pt_cmpR op_notBl ha pe_bl rfl) fun t H Q h => ?_
    obtain ⟨F, loc, s, S, hS, hE, p⟩ := rd_isb (rdT_of h)
    refine ⟨F, loc, s, S, hS, hE, Post.weak p ?_⟩
    rintro w H1 ⟨d, rfl, q⟩
    exact ⟨d, k, rfl, rfl, q⟩
  | false =>
    rw [if_neg Bool.false_ne_true] at ho
    subst ho
    refine PTmon (pt_cmpR op_isBl ha pe_bl rfl) fun t H Q h => ?_
    obtain ⟨F, loc, s, S, hS, hE, p⟩ := rd_isb (rdT_of h)
    refine ⟨F, loc, s, S, hS, hE, Post.weak p ?_⟩
    rintro w H1 ⟨d, rfl, q⟩
    exact ⟨d, k, rfl, rfl, q⟩
theorem rd_chn (hK : G.K = X.K) {t : L2.St} {H : Hp} {Q : VK} (h : rdE G W cf (.chn op op' ia ib ic) t H Q) : tChain (rCmp X.K (cmpP op)) (rCmp X.K (cmpP op')) (rdE G W cf ia) (rdE G W cf ib) (rdE G W cf ic) t H Q := by
  obtain ⟨F, loc, s, S, hS, hE, p⟩ := h
  simp only [evE] at p
  refine ⟨F, loc, s, S, hS, hE, Post.bind p fun v S1 w F1 loc1 H1 n r p1 => ⟨F1, loc1, s, S1, n.sim, hE.next n, Post.bind p1 fun v2 S2 w2 F2 loc2 H2 n2 r2 p2 => ?_⟩⟩
  split at p2
  · rename_i x y
    have r : Rp G.K F2 H2 w x := RV.next (v := .dat x) n2 r
    have r2 : Rp G.K F2 H2 w2 y := r2
    split at p2
    · rename_i e
      refine rCmp_of hK n2.sim r r2 e ⟨true, rfl, ?_⟩
      rw [if_pos rfl]
      refine ⟨F2, loc2, s, S2, n2.sim, (hE.next n).next n2, Post.bind p2 fun v3 S3 w3 F3 loc3 H3 n3 r3 p3 => ?_⟩
      split at p3
      · rename_i z
        cases q : cmpP op' y z with
        | none => rw [q] at p3; exact False.elim p3
        | some k =>
          rw [q] at p3
          exact rCmp_of hK n3.sim (RV.next (v := .dat y) n3 r2) r3 q (p3 _ _ _ _ (.refl n3.sim) (show Rp _ _ _ _ _ from .bl k))
      · exact False.elim p3
    · rename_i e
      refine rCmp_of hK n2.sim r r2 e ⟨false, rfl, ?_⟩
      rw [if_neg Bool.false_ne_true]
      exact p2 _ _ _ _ (.refl n2.sim) (show Rp _ _ _ _ _ from .bl false)
    · exact False.elim p2
  · exact False.elim p2
theorem T_chn (ho : OpR X (compareOp o) (rCmp X.K (cmpP op))) (ho' : OpR X (compareOp o') (rCmp X.K (cmpP op'))) (hK : G.K = X.K) (ha : PE X a (rdE G W cf ia)) (hb : PE X b (rdE G W cf ib)) (hc : PE X c (rdE G W cf ic))
    (hm : lastMarks [o, o'] [b, c] = false) : PT X (.Compare a [o, o'] [b, c] pos) (rdT G W cf (.chn op op' ia ib ic)) := PTmon (pt_chain ho ho' ha hb hc hm) fun t H Q h => rd_chn hK (rdT_of h)
theorem C_chn (ho : OpR X (compareOp o) (rCmp X.K (cmpP op))) (ho' : OpR X (compareOp o') (rCmp X.K (cmpP op'))) (hK : G.K = X.K) (ha : PE X a (rdE G W cf ia)) (hb : PE X b (rdE G W cf ib)) (hc : PE X c (rdE G W cf ic))
    (hm : lastMarks [o, o'] [b, c] = false) : PE X (.Compare a [o, o'] [b, c] pos) (rdE G W cf (.chn op op' ia ib ic)) := PEmon (pe_chain ho ho' ha hb hc hm) fun t H Q h => rd_chn hK h
theorem T_val (ha : PE X a (rdE G W cf ia)) (he : ∀ whole, isTrue a X.env whole = (do let v ← whole; standAt a.pos; holding [v] (truthy v))) : PT X a (rdT G W cf ia) :=
  PTmon (pt_val ha he) fun t H Q h => rdT_of h
theorem T_not (ha : PT X a (rdT G W cf ia)) : PT X (.UnaryOp .Not a pos) (rdT G W cf (.not ia)) := by
  refine PTmon (L2.pt_not ha) ?_
  rintro t H Q ⟨F, loc, s, S, hS, hE, p⟩
  refine ⟨F, loc, s, S, hS, hE, ?_⟩
  unfold evT at p ⊢
  simp only [evE] at p
  cases q : evE cf ia s S with
  | err => rw [q] at p; exact p
  | exc c fs S' => rw [q] at p; exact p
  | ok v S1 =>
    rw [q] at p
    simp only [Out.bind_ok] at p ⊢
    cases v with
    | dat d =>
      cases d with
      | bool k =>
        intro w F1 loc1 H1 n r
        subst r
        exact p _ _ _ _ n rfl
      | _ => exact p
    | ref l => exact p
    | exn c fs => exact p
theorem T_and (ha : PT X a (rdT G W cf ia)) (hb : PW X (.BoolOp .And (b :: rest) pos) (rdT G W cf ib)) : PW X (.BoolOp .And (a :: b :: rest) pos) (rdT G W cf (.and ia ib)) := by
  refine PWmon (pw_and ha hb) ?_
  rintro t H Q ⟨F, loc, s, S, hS, hE, p⟩
  refine ⟨F, loc, s, S, hS, hE, ?_⟩
  unfold evT at p ⊢
  simp only [evE] at p
  cases q : evE cf ia s S with
  | err => rw [q] at p; exact p
  | exc c fs S' => rw [q] at p; exact p
  | ok v S1 =>
    rw [q] at p
    simp only [Out.bind_ok] at p ⊢
    cases v with
    | dat d =>
      cases d with
      | bool k =>
        intro w F1 loc1 H1 n r
        subst r
        cases k with
        | true =>
          rw [if_pos rfl]
          exact ⟨F1, loc1, s, S1, n.sim, hE.next n, Post.step n p⟩
        | false =>
          rw [if_neg Bool.false_ne_true]
          exact p _ _ _ _ n rfl
      | _ => exact p.elim
    | ref l => exact p.elim
    | exn c fs => exact p.elim
theorem T_or (ha : PT X a (rdT G W cf ia)) (hb : PW X (.BoolOp .Or (b :: rest) pos) (rdT G W cf ib)) : PW X (.BoolOp .Or (a :: b :: rest) pos) (rdT G W cf (.or ia ib)) := by
  refine PWmon (pw_or ha hb) ?_
  rintro t H Q ⟨F, loc, s, S, hS, hE, p⟩
  refine ⟨F, loc, s, S, hS, hE, ?_⟩
  unfold evT at p ⊢
  simp only [evE] at p
  cases q : evE cf ia s S with
  | err => rw [q] at p; exact p
  | exc c fs S' => rw [q] at p; exact p
  | ok v S1 =>
    rw [q] at p
    simp only [Out.bind_ok] at p ⊢
    cases v with
    | dat d =>
      cases d with
      | bool k =>
        intro w F1 loc1 H1 n r
        subst r
        cases k with
        | true =>
          rw [if_pos rfl]
          exact p _ _ _ _ n rfl
        | false =>
          rw [if_neg Bool.false_ne_true]
          exact ⟨F1, loc1, s, S1, n.sim, hE.next n, Post.step n p⟩
      | _ => exact p.elim
    | ref l => exact p.elim
    | exn c fs => exact p.elim
end
end IP
namespace IP
open PySem PySem.Spec PyProof.Rows L2

/-! ### t[::-1] of a tuple -/
section
variable {prog : Program} {w : World} {A : Around} {E : Value → Shared → Prop} {s : Shared}
theorem back_applied {sl : Addr} {vl vu vs : Value} {n : Nat} {Q : Int × Int × Nat → Shared → Prop} (hs : s.heap.IsSliceOf sl vl vu vs) (pl : IsPart vl none) (pu : IsPart vu none) (ps : IsPart vs (some (-1)))
    (h : Q ((n : Int) - 1, -1, n) s) : wpAny (model prog w) A (Builtin.Slice.sliceApplied (.ref sl) (pure (n : Int))) Q E s := by
  obtain ⟨o, ho, hc, hd⟩ := id hs
  unfold Builtin.Slice.sliceApplied Builtin.Slice.sliceFields
  refine wpAny_bind (wpAny_bind (wpAny_field ho hd (x := vl) rfl (wpAny_bind (wpAny_field ho hd (x := vu) rfl (wpAny_bind (wpAny_field ho hd (x := vs) rfl (wpAny_pure ?_)))))))
  refine wpAny_bind (HT.slicePart_ ps ?_)
  show wpAny _ _ (if ((-1 : Int) == 0) = true then _ else _) _ _ s
  rw [if_neg (by decide)]
  refine wpAny_bind (HT.slicePart_ pl (wpAny_bind (HT.slicePart_ pu (wpAny_bind (wpAny_pure ?_)))))
  have e1 : Builtin.Slice.sliceAdjust none none (-1) (n : Int) = ((n : Int) - 1, -1) := by
    unfold Builtin.Slice.sliceAdjust
    simp
  have e2 : Builtin.Slice.slicePlaces ((n : Int) - 1) (-1) (-1) = n := by
    unfold Builtin.Slice.slicePlaces
    simp
    omega
  show wpAny _ _ (match Builtin.Slice.sliceAdjust none none (-1) (n : Int) with | (lo, hi) => pure (lo, (-1 : Int), Builtin.Slice.slicePlaces lo hi (-1))) _ _ s
  rw [e1]
  show wpAny _ _ (pure ((n : Int) - 1, (-1 : Int), Builtin.Slice.slicePlaces ((n : Int) - 1) (-1) (-1))) _ _ s
  rw [e2]
  exact wpAny_pure h
theorem fm_congr {A B : Type} {f g : A → Option B} : ∀ {l : List A}, (∀ x ∈ l, f x = g x) → l.filterMap f = l.filterMap g
  | [], _ => rfl
  | x :: l, h => by
    rw [List.filterMap_cons, List.filterMap_cons, h x List.mem_cons_self, fm_congr fun y hy => h y (List.mem_cons_of_mem _ hy)]
theorem back_pick (xs : Array Value) : ((List.range xs.size).filterMap fun (k : Nat) => xs[(((xs.size : Nat) : Int) - 1 + (k : Int) * (-1)).toNat]?).toArray = xs.toList.reverse.toArray := by
  congr 1
  rw [← PySem.W.krv_all xs, ← List.filterMap_reverse, ← PySem.W.krv_range, List.filterMap_map]
  refine fm_congr fun k hk => ?_
  have hk := List.mem_range.mp hk
  show xs[_]? = xs[xs.size - 1 - k]?
  congr 1
  omega
theorem back_tuple {t sl : Addr} {items : Array Value} {vl vu vs : Value} {Q : Value → Shared → Prop} (ht : IsTup s.heap t items) (hs : s.heap.IsSliceOf sl vl vu vs) (pl : IsPart vl none) (pu : IsPart vu none) (ps : IsPart vs (some (-1))) (hz : items.size ≤ sizeLine)
    (h : Q (.ref s.heap.objs.size) { s with heap := s.heap.push { cls := .type "tuple", data := .seq items.toList.reverse.toArray } }) : wpAny (model prog w) A (getItem (.ref t) (.ref sl)) Q E s := by
  have fits : sizeOk (.seq items.toList.reverse.toArray) := by
    show items.toList.reverse.toArray.size ≤ sizeLine
    simpa using hz
  obtain ⟨o, ho, hc, _⟩ := id hs
  have tys : s.TypeIs (.ref sl) "slice" := ⟨o, ho, hc⟩
  unfold getItem
  try with_reducible refine wpAny_holding ?_
  first | refine wpAny_bind (wpAny_pure ?_) | skip
  refine wpAny_bind (wpAny_sequenceKey ht.typeIs (by decide) (wpAny_bind (wpAny_callSpecial?_slot (name := Str.ofString "__getitem__") ht.typeIs PyProof.Rows.slot_tuple_getitem (wpAny_call_entry PyProof.Rows.slot_tuple_getitem ht.typeIs PyProof.Rows.entry_tuple_getitem ?_ (PyProof.Rows.args_tuple_getitem _ _)))))
  show wpAny _ _ (Builtin.Tuple.tupleItemsOf (.ref t) >>= _) _ _ s
  refine wpAny_bind (PyProof.Rows.tupleItemsOf_ ht (wpAny_bind (wpAny_typeOf tys ?_)))
  rw [if_pos (by decide)]
  refine wpAny_bind (back_applied hs pl pu ps ?_)
  show wpAny _ _ (if (((items.size : Nat) : Int) - 1 == 0 && (-1 : Int) == 1 && items.size == items.size) = true then _ else _) _ _ s
  rw [if_neg (by simp), back_pick]
  first
    | exact wpAny_bind (m := Builtin.Tuple.tupleExact _) (wpAny_newObj_type (wpAny_pure ⟨_, rfl, wpAny_pure h⟩) fits)
    | exact wpAny_bind (m := Builtin.Tuple.tupleExact _) (wpAny_newObj_type (wpAny_bind (wpAny_pure (wpAny_pure ⟨_, rfl, wpAny_pure h⟩))) fits)
    | exact wpAny_bind (wpAny_bind (m := Builtin.Tuple.tupleExact _) (wpAny_newObj_type (wpAny_pure (wpAny_pure ⟨_, rfl, wpAny_pure h⟩)) fits))
    | exact wpAny_bind (wpAny_bind (m := Builtin.Tuple.tupleExact _) (wpAny_newObj_type (wpAny_pure ⟨_, rfl, wpAny_pure h⟩) fits))
end
noncomputable def tRevS (K : PySem.W.Frag) (te : TE) : TE := fun σ H Q => te σ H fun x H1 => ∃ a xs, x = .ref a ∧ ((SqL K H1 a xs ∧ ∀ p, H1 p = none → Q (.ref p) (upd H1 p (.lst xs.reverse))) ∨ (SqT K H1 a xs ∧ ∀ p, H1 p = none → Q (.ref p) (upd H1 p (.tup xs.reverse))))
theorem pe_revS {X : Cx} {e : Expr} {te : TE} {k : Nat} {p1 p2 p3 pos : Pos} (he : PE X e te) : PE X (.Subscript e (.Slice none none (some (.UnaryOp .USub (.Constant (.int 1) k p1) p2)) p3) pos) (tRevS X.K te) := by
  refine ⟨fun pins s σ H Q I h => Subscript_ (thn (he.run pins s σ H _ I h) ?_)⟩
  rintro v s1 ⟨x, H1, I1, r1, a, xs, rfl, q⟩
  cases r1
  have hst : PO X (some (.UnaryOp .USub (.Constant (.int 1) k p1) p2)) (tPart (tUn (rU fun i => .int (-i)) (tC (.int 1)))) := po_some (pe_un un_neg pe_int)
  refine wpAny_Slice (thn (po_none.run pins s1 σ H1 (fun o H2 => o = none ∧ H2 = H1) I1 ⟨rfl, rfl⟩) ?_)
  rintro vl s2 ⟨_, _, I2, pl, rfl, rfl⟩
  refine thn (po_none.run pins s2 σ _ (fun o H3 => o = none ∧ H3 = _) I2 ⟨rfl, rfl⟩) ?_
  rintro vu s3 ⟨_, _, I3, pu, rfl, rfl⟩
  refine thn (hst.run pins s3 σ _ (fun o H4 => o = some (-1) ∧ H4 = _) I3 ⟨1, rfl, -1, rfl, rfl, rfl⟩) ?_
  rintro vs s4 ⟨_, H4, I4, ps, rfl, rfl⟩
  have I5 : Inv X pins σ H4 { s4 with heap := s4.heap.push { cls := .type "slice", data := .fields #[vl, vu, vs] } } := I4.kept (t' := s4.toks) fun b ob q => Heap.get?_push_of_some _ q
  show wpAny (model X.prog X.w) X.A (subscriptTail e (.Slice none none (some (.UnaryOp .USub (.Constant (.int 1) k p1) p2)) p3) (.ref a) (.ref s4.heap.objs.size)) (EP X pins σ Q) X.xe { s4 with heap := s4.heap.push { cls := .type "slice", data := .fields #[vl, vu, vs] } }
  rcases q with ⟨hx, q⟩ | ⟨hx, q⟩
  · obtain ⟨its, r, ht, hz⟩ := I5.list hx
    have hlen := r.length
    refine tail_any (ops := [.ref a, .ref s4.heap.objs.size]) ht.isList.typeIs (PySem.slot_list_getitem.lookup) ?_ (by with_unfolding_all rfl)
    refine wpAny_getItem_list_slice ht.isList (Heap.IsSliceOf.new _ vl vu vs) pl pu ps (by decide) ?_ (by rw [List.size_toArray]; omega)
    rw [PySem.W.krv_pick]
    exact ⟨.ref _, _, I5.laid (t' := s4.toks) (o := .lst xs.reverse) (fun b ob q => Heap.get?_push_of_some _ q) (Nat.le_refl _) ⟨by rw [List.length_reverse]; exact hz, _, 0, r.reverse, Heap.get?_push_size _ rfl⟩, rfl, q _ (I5.hok.fresh (Nat.le_refl _))⟩
  · obtain ⟨its, r, ht, hz⟩ := I5.tuple hx
    have hlen := r.length
    refine tail_any (ops := [.ref a, .ref s4.heap.objs.size]) ht.typeIs (PyProof.Rows.slot_tuple_getitem.lookup) ?_ (by with_unfolding_all rfl)
    refine back_tuple ht (Heap.IsSliceOf.new _ vl vu vs) pl pu ps (by rw [List.size_toArray]; omega) ?_
    exact ⟨.ref _, _, I5.laid (t' := s4.toks) (o := .tup xs.reverse) (fun b ob q => Heap.get?_push_of_some _ q) (Nat.le_refl _) ⟨by rw [List.length_reverse]; exact hz, _, r.reverse, IsTup.new _ _⟩, rfl, q _ (I5.hok.fresh (Nat.le_refl _))⟩
end IP
namespace IP
open PySem PySem.Spec PyProof.Rows L2

section
variable {X : Cx} {G : GC} {W : WX} {cf : CallF} {a b c e o : Expr} {ia ib ic ie io : IE} {pos p apos : Pos} {es rest : List Expr} {ies kies : List IE} {x m : Str} {CXT : CXT} {k f n ci : Nat} {fa : Addr} {fd : FuncData} {ps ks : List Str} {ds : List Int} {us : List Value}
/-! ### constants of the module -/
theorem E_gcs {g : Nat} {d : PyData} {v : V} {u : Value} (hg : Gl X x) (hm : X.mg x = some u) (r : RelV v u) (hd : (x == ("__debug__" : Str)) = false) (rp : ∀ F H, Rp G.K F H v d) : PE X (.Name x pos) (rdE G W cf (.gcs g d)) := by
  refine PEmon (pe_glob hg hm r hd) ?_
  rintro t H Q ⟨F, loc, s, S, hS, hE, p⟩
  simp only [evE] at p
  exact p v F loc H (.refl hS) (rp F H)
/-! ### xs[::-1] -/
theorem E_rev {kk : Nat} {p1 p2 p3 : Pos} (hK : G.K = X.K) (ha : PE X a (rdE G W cf ia)) : PE X (.Subscript a (.Slice none none (some (.UnaryOp .USub (.Constant (.int 1) kk p1) p2)) p3) pos) (rdE G W cf (.rev ia)) := by
  refine PEmon (pe_revS ha) ?_
  rintro t H Q ⟨F, loc, s, S, hS, hE, p⟩
  simp only [evE] at p
  refine ⟨F, loc, s, S, hS, hE, ?_⟩
  cases q : evE cf ia s S with
  | err => rw [q] at p; exact p
  | exc c fs S' => rw [q] at p; exact p
  | ok v S1 =>
  rw [q, Out.bind_ok] at p
  intro w F1 loc1 H1 n r
  split at p
  · rename_i d hd
    have p := Post.step n p
    cases d with
    | list xs =>
      obtain ⟨l, vs, rfl, h1, h2⟩ := look_list n.sim r hd
      exact ⟨l, vs, rfl, .inl ⟨hK ▸ rd_sql h1, fun q hq => new_lst n.sim h2.reverse p hq⟩⟩
    | tuple xs =>
      obtain ⟨l, vs, rfl, h1, h2⟩ := look_tup n.sim r hd
      exact ⟨l, vs, rfl, .inr ⟨hK ▸ h1, fun q hq => new_tup n.sim h2.reverse p hq⟩⟩
    | _ => exact p.elim
  · exact p.elim

/-! ### xs.pop(i) -/
theorem RpL.erase {K : PySem.W.Frag} {F : Addr → Prop} {H : Hp} {v : List V} {p : List PyData} (i : Nat) (r : RpL K F H v p) : RpL K F H (v.eraseIdx i) (p.eraseIdx i) := by
  rw [List.eraseIdx_eq_take_drop_succ, List.eraseIdx_eq_take_drop_succ]
  exact (r.take i).append (r.drop (i + 1))
theorem E_pop {j : Nat} {p1 p2 p3 : Pos} {e : Expr} (hN : X.N[j]? = some x) (he : PE X e (rdE G W cf ie)) (hb : ∀ {te : TE}, PE X e te → PE X (.Call (.Attribute (.Name x p1) "pop" p2) [e] [] p3) (tBM X.K "list" rPopAt (tVar j) (tCons te tNil))) :
    PE X (.Call (.Attribute (.Name x p1) "pop" p2) [e] [] p3) (rdE G W cf (.pop j ie)) := by
  refine PEmon (hb he) ?_
  rintro t H Q ⟨F, loc, s, S, hS, hE, p⟩
  simp only [evE] at p
  split at p
  · rename_i l hi
    obtain ⟨w, h1, r⟩ := hE.at_ j _ hi
    have r0 := r
    obtain ⟨rfl, hl⟩ := r
    split at p
    · rename_i ys hy
      obtain ⟨vs, e1, _⟩ := hS.ob l _ hy
      refine ⟨_, h1, .inl ⟨rfl, vs, .inl (.inl e1)⟩, F, loc, s, S, hS, hE, Post.bind p fun v S1 w F1 loc1 H1 n r p1 => ?_⟩
      obtain ⟨q1, _⟩ := r0.next n
      split at p1
      · rename_i k xs hx
        split at p1
        · rename_i hz
          split at p1
          · rename_i jj hj
            split at p1
            · rename_i d hd
              obtain ⟨us, e2, rl⟩ := n.sim.ob l _ hx
              have r : Rp G.K F1 H1 w (.int k) := r
              cases r
              obtain ⟨y, hy2, ry⟩ := rl.get hd
              obtain ⟨g1, g2, g3, g4⟩ := ixN_seq hj
              rw [← rl.length] at g1
              refine ⟨loc1 l, us, k, jj, y, q1, rfl, e2, by omega, by omega, g1, hy2, ?_⟩
              have n2 := Nxt.put (u := .lst (us.eraseIdx jj)) n.sim hx rfl (o' := .lst (xs.eraseIdx jj)) fun S' H' kp len e =>
                ⟨_, e, RpL.erase jj (rl.mono (fun _ f => f) kp)⟩
              exact p1 _ _ _ _ n2 (Rp.mono n2.sub n2.keep ry)
            · exact False.elim p1
          · exact False.elim p1
        · exact False.elim p1
      · exact False.elim p1
    · exact False.elim p
  · exact False.elim p
/-! ### list(range(..)), tuple(range(..)) -/
theorem rg_ok {i j : Int} (h : rgOk i j = true) : RgOk i j := by
  simp only [rgOk, Bool.and_eq_true, decide_eq_true_eq] at h
  exact ⟨(small_lt h.1.1).2, (small_lt h.1.1).1, (small_lt h.1.2).2, (small_lt h.1.2).1, h.2⟩
theorem rp_rg {K : PySem.W.Frag} {F : Addr → Prop} {H : Hp} (i j : Int) : RpL K F H (rgV i j) (intRange i j) := by
  unfold rgV intRange
  generalize List.range (j - i).toNat = l
  induction l with
  | nil => exact .nil
  | cons n l ih => exact .cons (.int _) ih
theorem F_lr1 {p1 p2 : Pos} (hc : X.calm = true) (hg : Gl X "list") (hm : X.mg "list" = none) (hgr : Gl X "range") (hmr : X.mg "range" = none) (ha : PE X a (rdE G W cf ia)) (na : starEach [a] X.env = (false, eval a X.env) :: starEach [] X.env) :
    PE X (.Call (.Name "list" p) [.Call (.Name "range" p1) [a] [] p2] [] pos) (rdF G W cf (.lr1 false ia)) := by
  refine PEmon (pe_listRg hc hg hm (prg_1 hgr hmr ha na)) ?_
  rintro t H Q ⟨F, loc, s, S, hS, hE, p⟩
  simp only [evE] at p
  refine ⟨F, loc, s, S, hS, hE, ?_⟩
  cases q : evE cf ia s S with
  | err => rw [q] at p; exact p
  | exc c fs S' => rw [q] at p; exact p
  | ok v S1 =>
    rw [q, Out.bind_ok] at p
    intro w F1 loc1 H1 n r
    split at p
    · rename_i j
      split at p
      · rename_i hok
        cases (show Rp G.K F1 H1 w (.int j) from r)
        exact ⟨j, rfl, rg_ok hok, fun q hq => p _ _ _ _ (n.trans (Nxt.lay n.sim hq)) (FrR.new n.sim (rp_rg 0 j) hq (n.dom _ (.inl hq)))⟩
      · exact p.elim
    · exact p.elim
theorem E_lr1 {p1 p2 : Pos} (hc : X.calm = true) (hg : Gl X "tuple") (hm : X.mg "tuple" = none) (hgr : Gl X "range") (hmr : X.mg "range" = none) (ha : PE X a (rdE G W cf ia)) (na : starEach [a] X.env = (false, eval a X.env) :: starEach [] X.env) :
    PE X (.Call (.Name "tuple" p) [.Call (.Name "range" p1) [a] [] p2] [] pos) (rdE G W cf (.lr1 true ia)) := by
  refine PEmon (pe_tupRg hc hg hm (prg_1 hgr hmr ha na)) ?_
  rintro t H Q ⟨F, loc, s, S, hS, hE, p⟩
  simp only [evE] at p
  refine ⟨F, loc, s, S, hS, hE, Post.bind p fun v S1 w F1 loc1 H1 n r p1 => ?_⟩
  split at p1
  · rename_i j
    split at p1
    · rename_i hok
      cases (show Rp G.K F1 H1 w (.int j) from r)
      exact ⟨j, rfl, rg_ok hok, fun q hq => new_tup n.sim (rp_rg 0 j) p1 hq⟩
    · exact p1.elim
  · exact p1.elim
theorem F_lr2 {p1 p2 : Pos} (hc : X.calm = true) (hg : Gl X "list") (hm : X.mg "list" = none) (hgr : Gl X "range") (hmr : X.mg "range" = none) (ha : PE X a (rdE G W cf ia)) (hb : PE X b (rdE G W cf ib)) (na : starEach [a, b] X.env = (false, eval a X.env) :: starEach [b] X.env) (nb : starEach [b] X.env = (false, eval b X.env) :: starEach [] X.env) :
    PE X (.Call (.Name "list" p) [.Call (.Name "range" p1) [a, b] [] p2] [] pos) (rdF G W cf (.lr2 false ia ib)) := by
  refine PEmon (pe_listRg hc hg hm (prg_2 hgr hmr ha hb na nb (by rw [nb]; rfl))) ?_
  rintro t H Q ⟨F, loc, s, S, hS, hE, p⟩
  simp only [evE] at p
  refine ⟨F, loc, s, S, hS, hE, ?_⟩
  cases q : evE cf ia s S with
  | err => rw [q] at p; exact p
  | exc c fs S' => rw [q] at p; exact p
  | ok v S1 =>
  rw [q, Out.bind_ok] at p
  intro w F1 loc1 H1 n r
  refine ⟨F1, loc1, s, S1, n.sim, hE.next n, ?_⟩
  replace p := Post.step n p
  cases q2 : evE cf ib s S1 with
  | err => rw [q2] at p; exact p
  | exc c fs S' => rw [q2] at p; exact p
  | ok v2 S2 =>
  rw [q2, Out.bind_ok] at p
  intro w2 F2 loc2 H2 n2 r2
  split at p
  · rename_i i j
    split at p
    · rename_i hok
      cases (show Rp G.K F1 H1 w (.int i) from r)
      cases (show Rp G.K F2 H2 w2 (.int j) from r2)
      exact ⟨i, j, rfl, rfl, rg_ok hok, fun q hq => p _ _ _ _ (n2.trans (Nxt.lay n2.sim hq)) (let ⟨ps, xs, a, e1, e2, e3, e4, e5, e6, e7⟩ := FrR.new (H0 := H) n2.sim (rp_rg i j) hq (n.dom _ (n2.dom _ (.inl hq))); ⟨ps, xs, a, e1, e2, e3, e4, e5, e6, e7⟩)⟩
    · exact p.elim
  · exact p.elim
theorem E_lr2 {p1 p2 : Pos} (hc : X.calm = true) (hg : Gl X "tuple") (hm : X.mg "tuple" = none) (hgr : Gl X "range") (hmr : X.mg "range" = none) (ha : PE X a (rdE G W cf ia)) (hb : PE X b (rdE G W cf ib)) (na : starEach [a, b] X.env = (false, eval a X.env) :: starEach [b] X.env) (nb : starEach [b] X.env = (false, eval b X.env) :: starEach [] X.env) :
    PE X (.Call (.Name "tuple" p) [.Call (.Name "range" p1) [a, b] [] p2] [] pos) (rdE G W cf (.lr2 true ia ib)) := by
  refine PEmon (pe_tupRg hc hg hm (prg_2 hgr hmr ha hb na nb (by rw [nb]; rfl))) ?_
  rintro t H Q ⟨F, loc, s, S, hS, hE, p⟩
  simp only [evE] at p
  refine ⟨F, loc, s, S, hS, hE, Post.bind p fun v S1 w F1 loc1 H1 n r p1 => ⟨F1, loc1, s, S1, n.sim, hE.next n, Post.bind p1 fun v2 S2 w2 F2 loc2 H2 n2 r2 p2 => ?_⟩⟩
  split at p2
  · rename_i i j
    split at p2
    · rename_i hok
      cases (show Rp G.K F1 H1 w (.int i) from r)
      cases (show Rp G.K F2 H2 w2 (.int j) from r2)
      exact ⟨i, j, rfl, rfl, rg_ok hok, fun q hq => new_tup n2.sim (rp_rg i j) p2 hq⟩
    · exact p2.elim
  · exact p2.elim

/-! ### calls -/
theorem spG_of {t : L2.St} {F : Addr → Prop} {loc : Nat → Addr} {S : Store} {H : Hp} {args : List Val} {vs : List V} {Q : VK} {g : List Val → Store → Out Val} (hw : ∀ cv d t t' H, W cv d t H → W cv d t' H) (hS : SimS G F loc S H) (r : RVs G F loc S H args vs) (hn : args.length = n) (p : PostV G W t F loc S H (g args S) Q) :
    spC G n g vs H Q (WE W []) := spC_of hS r hn (post_w hw p)
theorem dfl_len (ds : List Int) : (dfl ds).length = ds.length := by
  unfold dfl
  rw [List.length_map]
theorem C_call (hF : FnG X.prog X.w X.K X.mg X.base CXT k fa fd n ps (spC G n (cf f))) (hr : Room k X.A) (hu : X.A.guards = some []) (hg : Gl X x) (hm : X.mg x = some (.ref fa)) (hk : PySem.W.keepIn X.K (.ref fa) = true) (hb : Binds X.K fd ps us) (hd : Vals (dflV ds) us)
    (hx : Passes CXT X (WE W [])) (hw : ∀ cv d t t' H, W cv d t H → W cv d t' H) (ha : PA X (e :: es) (rdL G W cf ies)) (hl : ies.length + ds.length = n) (hdb : (x == ("__debug__" : Str)) = false) (he : starEach (e :: es) X.env = (false, eval e X.env) :: starEach es X.env) (hpl : (backTo pos (starEach es X.env)).any (·.1) = false) :
    PE X (.Call (.Name x p) (e :: es) [] pos) (rdE G W cf (.call f ies ds)) := by
  refine PEmon (call_g hF hr hu hg hm hk hb hd hx ha hdb he hpl) ?_
  rintro t H Q ⟨F, loc, s, S, hS, hE, p⟩
  simp only [evE] at p
  refine ⟨F, loc, s, S, hS, hE, ?_⟩
  cases q : evL cf ies s S with
  | err => rw [q] at p; exact p
  | exc c fs S' => rw [q] at p; exact p
  | ok vs S1 =>
    rw [q] at p
    have ln := evL_len _ _ _ _ _ q
    intro w F1 loc1 H1 n1 r
    refine spG_of hw n1.sim (r.app (.dfl ds)) ?_ (Post.step n1 p)
    rw [List.length_append, ln, dfl_len]
    exact hl
theorem C_call0 (hF : FnG X.prog X.w X.K X.mg X.base CXT k fa fd n ps (spC G n (cf f))) (hr : Room k X.A) (hu : X.A.guards = some []) (hg : Gl X x) (hm : X.mg x = some (.ref fa)) (hk : PySem.W.keepIn X.K (.ref fa) = true) (hb : Binds X.K fd ps us) (hd : Vals (dflV ds) us)
    (hx : Passes CXT X (WE W [])) (hw : ∀ cv d t t' H, W cv d t H → W cv d t' H) (hl : ds.length = n) (hdb : (x == ("__debug__" : Str)) = false) : PE X (.Call (.Name x p) [] [] pos) (rdE G W cf (.call f [] ds)) := by
  refine PEmon (call_g0 hF hr hu hg hm hk hb hd hx hdb) ?_
  rintro t H Q ⟨F, loc, s, S, hS, hE, p⟩
  simp only [evE, evL, Out.bind_ok] at p
  refine spG_of hw hS (RVs.app .nil (.dfl ds)) ?_ p
  rw [List.length_append, dfl_len]
  simpa using hl
theorem C_mth {pl : Sem Bool} (ho : PE X o (rdE G W cf io)) (hc : Cls X.K (G.cls ci)) (hM : Meth X.K (G.cls ci) m fa) (hnf : ∀ f, G.fnm f ≠ m) (hF : FnG X.prog X.w X.K X.mg X.base CXT k fa fd n ps (spC G n (cf f))) (hr : Room k X.A) (hu : X.A.guards = some []) (hb : Binds X.K fd ps us) (hd : Vals (dflV ds) us)
    (hx : Passes CXT X (WE W [])) (hw : ∀ cv d t t' H, W cv d t H → W cv d t' H) (ha : PA X (e :: es) (rdL G W cf ies)) (hl : ies.length + ds.length + 1 = n)
    (hst : starEach (e :: es) X.env = (false, eval e X.env) :: starEach es X.env) (hpl : (backTo pos (starEach es X.env)).any (·.1) = false)
    (ht : eval (.Call (.Attribute o m apos) (e :: es) [] pos) X.env = (do
      let ov ← eval o X.env
      standAt apos.atName
      let (f, first) ← holding [ov] (getMethod ov m pl)
      callWith pos f first (backTo pos (starEach (e :: es) X.env)) (backToKw pos (keywordEach [] X.env)))) :
    PE X (.Call (.Attribute o m apos) (e :: es) [] pos) (rdE G W cf (.mth ci f io ies ds)) := by
  refine PEmon (meth_g ho hc hM hF hr hu hb hd hx ha hst hpl ht) ?_
  rintro t H Q ⟨F, loc, s, S, hS, hE, p⟩
  simp only [evE] at p
  refine ⟨F, loc, s, S, hS, hE, Post.bind p fun v S1 w F1 loc1 H1 n1 r p1 => ?_⟩
  split at p1
  · rename_i l
    have r' := r
    obtain ⟨rfl, hll⟩ := r
    split at p1
    · rename_i c' fs hs
      split at p1
      · rename_i hcc
        subst hcc
        obtain ⟨ok, dx, ws, e1, r1⟩ := n1.sim.ob l _ hs
        refine ⟨_, dx, ws, rfl, e1, r1.no hnf, F1, loc1, s, S1, n1.sim, hE.next n1, ?_⟩
        cases q : evL cf ies s S1 with
        | err => rw [q] at p1; exact p1
        | exc c fs S' => rw [q] at p1; exact p1
        | ok vs S2 =>
          rw [q] at p1
          have ln := evL_len _ _ _ _ _ q
          intro w2 F2 loc2 H2 n2 r2
          refine spG_of hw n2.sim (.cons (r'.next n2) (r2.app (.dfl ds))) ?_ (Post.step n2 p1)
          rw [List.length_cons, List.length_append, ln, dfl_len]
          exact hl
      · exact False.elim p1
    · exact False.elim p1
  · exact False.elim p1
theorem C_mth0 {pl : Sem Bool} (ho : PE X o (rdE G W cf io)) (hc : Cls X.K (G.cls ci)) (hM : Meth X.K (G.cls ci) m fa) (hnf : ∀ f, G.fnm f ≠ m) (hF : FnG X.prog X.w X.K X.mg X.base CXT k fa fd n ps (spC G n (cf f))) (hr : Room k X.A) (hu : X.A.guards = some []) (hb : Binds X.K fd ps us) (hd : Vals (dflV ds) us)
    (hx : Passes CXT X (WE W [])) (hw : ∀ cv d t t' H, W cv d t H → W cv d t' H) (hl : ds.length + 1 = n)
    (ht : eval (.Call (.Attribute o m apos) [] [] pos) X.env = (do
      let ov ← eval o X.env
      standAt apos.atName
      let (f, first) ← holding [ov] (getMethod ov m pl)
      callWith pos f first (backTo pos (starEach [] X.env)) (backToKw pos (keywordEach [] X.env)))) :
    PE X (.Call (.Attribute o m apos) [] [] pos) (rdE G W cf (.mth ci f io [] ds)) := by
  refine PEmon (meth_g0 ho hc hM hF hr hu hb hd hx ht) ?_
  rintro t H Q ⟨F, loc, s, S, hS, hE, p⟩
  simp only [evE] at p
  refine ⟨F, loc, s, S, hS, hE, Post.bind p fun v S1 w F1 loc1 H1 n1 r p1 => ?_⟩
  split at p1
  · rename_i l
    have r' := r
    obtain ⟨rfl, hll⟩ := r
    split at p1
    · rename_i c' fs hs
      split at p1
      · rename_i hcc
        subst hcc
        obtain ⟨ok, dx, ws, e1, r1⟩ := n1.sim.ob l _ hs
        refine ⟨_, dx, ws, rfl, e1, r1.no hnf, ?_⟩
        simp only [evL, Out.bind_ok] at p1
        refine spG_of hw n1.sim (.cons r' (RVs.app .nil (.dfl ds))) ?_ p1
        rw [List.length_cons, List.length_append, dfl_len]
        simpa using hl
      · exact False.elim p1
    · exact False.elim p1
  · exact False.elim p1
theorem C_mk (ok : G.cok ci) (M : Mk X.K (G.cls ci) fa) (hF : FnG X.prog X.w X.K X.mg X.base CXT k fa fd n ps (spC G n (cf f))) (hr : Room (k + 1) X.A) (hu : X.A.guards = some []) (hg : Gl X x) (hm : X.mg x = some (.ref (G.cls ci))) (hb : Binds X.K fd ps [])
    (hx : Passes CXT X (WE W [])) (hw : ∀ cv d t t' H, W cv d t H → W cv d t' H) (ha : PA X (e :: es) (rdL G W cf ies)) (hl : ies.length + 1 = n) (hdb : (x == ("__debug__" : Str)) = false) (he : starEach (e :: es) X.env = (false, eval e X.env) :: starEach es X.env) (hpl : (backTo pos (starEach es X.env)).any (·.1) = false) :
    PE X (.Call (.Name x p) (e :: es) [] pos) (rdE G W cf (.mk ci f ies)) := by
  refine PEmon (mk_g M hF hr hu hg hm hb .nil hx ha hdb he hpl) ?_
  rintro t H Q ⟨F, loc, s, S, hS, hE, p⟩
  simp only [evE] at p
  refine ⟨F, loc, s, S, hS, hE, ?_⟩
  cases q : evL cf ies s S with
  | err => rw [q] at p; exact p
  | exc c fs S' => rw [q] at p; exact p
  | ok vs S1 =>
    rw [q] at p
    have ln := evL_len _ _ _ _ _ q
    intro w F1 loc1 H1 n1 r
    have p1 := post_w (t' := []) hw (Post.step n1 p)
    have := mk_of (n := n) (t := []) ok n1.sim r (by rw [ln]; exact hl) p1
    rw [List.append_nil]
    exact this
theorem C_mk0 (ok : G.cok ci) (M : Mk X.K (G.cls ci) fa) (hF : FnG X.prog X.w X.K X.mg X.base CXT k fa fd n ps (spC G n (cf f))) (hr : Room (k + 1) X.A) (hu : X.A.guards = some []) (hg : Gl X x) (hm : X.mg x = some (.ref (G.cls ci))) (hb : Binds X.K fd ps [])
    (hx : Passes CXT X (WE W [])) (hw : ∀ cv d t t' H, W cv d t H → W cv d t' H) (hl : 1 = n) (hdb : (x == ("__debug__" : Str)) = false) : PE X (.Call (.Name x p) [] [] pos) (rdE G W cf (.mk ci f [])) := by
  refine PEmon (mk_g0 M hF hr hu hg hm hb .nil hx hdb) ?_
  rintro t H Q ⟨F, loc, s, S, hS, hE, p⟩
  simp only [evE, evL, Out.bind_ok] at p
  have p1 := post_w (t' := []) hw p
  exact mk_of (t := []) (args := []) (vs := []) ok hS .nil hl p1

/-! ### keywords -/
/-- how a call with keywords binds: the positional values and the keywords' ones, put in the parameters' order -/
noncomputable def KB (K : PySem.W.Frag) (fd : FuncData) (ps : List Str) (np : Nat) (ks : List Str) (perm : List Nat) : Prop :=
  ∀ (s : Shared) (us ws zs : List Value), K.In s.heap → us.length = np → ws.length = ks.length → permute perm (us ++ ws) = some zs → BindsTo s fd ⟨us, ks.zip ws⟩ (ps.zip zs)
theorem permute_vals {vs : List V} {us : List Value} (r : Vals vs us) : ∀ {perm : List Nat} {xs : List V}, permute perm vs = some xs → ∃ ys, permute perm us = some ys ∧ Vals xs ys
  | [], _, e => by cases e; exact ⟨[], rfl, .nil⟩
  | i :: perm, xs, e => by
    simp only [permute] at e
    split at e
    · rename_i v vs' h1 h2
      cases e
      obtain ⟨ys, q1, q2⟩ := permute_vals r h2
      obtain ⟨u, q3, q4⟩ := r.get h1
      exact ⟨u :: ys, by simp only [permute, q3, q1], .cons q4 q2⟩
    · cases e
theorem RVs.getI {F : Addr → Prop} {loc : Nat → Addr} {S : Store} {H : Hp} : ∀ {vs : List Val} {ws : List V} {i : Nat} {v : Val}, RVs G F loc S H vs ws → vs[i]? = some v → ∃ w, ws[i]? = some w ∧ RV G F loc S H v w
  | _, _, _, _, .nil, e => by simp at e
  | _, _, 0, _, .cons r _, e => by
    simp at e
    subst e
    exact ⟨_, rfl, r⟩
  | _, _, i + 1, v, .cons _ l, e => by
    obtain ⟨w, h1, h2⟩ := RVs.getI (i := i) (v := v) l (by simpa using e)
    exact ⟨w, by simpa using h1, h2⟩
theorem permute_rvs {F : Addr → Prop} {loc : Nat → Addr} {S : Store} {H : Hp} {vs : List Val} {us : List V} (r : RVs G F loc S H vs us) : ∀ {perm : List Nat} {xs : List Val}, permute perm vs = some xs → ∃ ys, permute perm us = some ys ∧ RVs G F loc S H xs ys
  | [], _, e => by cases e; exact ⟨[], rfl, .nil⟩
  | i :: perm, xs, e => by
    simp only [permute] at e
    split at e
    · rename_i v vs' h1 h2
      cases e
      obtain ⟨ys, q1, q2⟩ := permute_rvs r h2
      obtain ⟨u, q3, q4⟩ := r.getI h1
      exact ⟨u :: ys, by simp only [permute, q3, q1], .cons q4 q2⟩
    · cases e
theorem permute_len {A : Type} {vs : List A} : ∀ {perm : List Nat} {xs : List A}, permute perm vs = some xs → xs.length = perm.length
  | [], _, e => by cases e; rfl
  | i :: perm, xs, e => by
    simp only [permute] at e
    split at e
    · rename_i v vs' h1 h2
      cases e
      rw [List.length_cons, List.length_cons, permute_len h2]
    · cases e
noncomputable def tCallP (sp : Sp) (np : Nat) (ks : List Str) (perm : List Nat) (E : XK) (t tk : TA) : TE := fun σ H Q => t σ H fun vs H1 => tk σ H1 fun zs H2 => vs.length = np ∧ zs.length = ks.length ∧ ∃ xs, permute perm (vs ++ zs) = some xs ∧ sp xs H2 Q E
theorem FnG.runP {sp : Sp} {E : XK} {np : Nat} {perm : List Nat} (hF : FnG X.prog X.w X.K X.mg X.base CXT k fa fd n ps sp) (hr : Room k X.A) (hu : X.A.guards = some []) (hb : KB X.K fd ps np ks perm) (hx : Passes CXT X E) {pins : List (Addr × Obj)} {σ : L2.St} {H : Hp} {s : Shared} {Q : VK}
    {us ws : List Value} {vs zs xs : List V} (I : Inv X pins σ H s) (r : Vals vs us) (rz : Vals zs ws) (h1 : vs.length = np) (h2 : zs.length = ks.length) (h3 : permute perm (vs ++ zs) = some xs) (h : sp xs H Q E) : wpAny (model X.prog X.w) X.A (call (.ref fa) us (ks.zip ws)) (EP X pins σ Q) X.xe s := by
  obtain ⟨ys, q1, q2⟩ := permute_vals (r.append rz) h3
  exact wpAny_call (hF.from hr hu hx I (hb s us ws ys I.kIn (r.length.symm.trans h1) (rz.length.symm.trans h2) q1) q2 h)
theorem call_p {sp : Sp} {E : XK} {np : Nat} {perm : List Nat} {t tk : TA} {kws : List Keyword} (hF : FnG X.prog X.w X.K X.mg X.base CXT k fa fd n ps sp) (hr : Room k X.A) (hu : X.A.guards = some []) (hg : Gl X x) (hm : X.mg x = some (.ref fa)) (hk : PySem.W.keepIn X.K (.ref fa) = true) (hb : KB X.K fd ps np ks perm) (hx : Passes CXT X E)
    (ha : PA X (e :: es) t) (hkw : PK X kws tk) (hall : (backToKw pos (keywordEach kws X.env)).all (·.1.isSome) = true) (hks : (backToKw pos (keywordEach kws X.env)).filterMap (·.1) = ks)
    (hdb : (x == ("__debug__" : Str)) = false) (he : starEach (e :: es) X.env = (false, eval e X.env) :: starEach es X.env)
    (hpl : ((backTo pos (starEach (e :: es) X.env)).any (·.1) || (backToKw pos (keywordEach kws X.env)).any (·.1.isNone)) = false) :
    PE X (.Call (.Name x p) (e :: es) kws pos) (tCallP sp np ks perm E t tk) := by
  refine ⟨fun pins s σ H Q I h => wpAny_Call_Name_kw (ld_glob I hg hm (PySem.W.callWith_KW (h₀ := X.base) I.ok.mod.kin hk hall (thn (ha.run pos pins s σ H _ I h) fun us s1 ⟨vs, H1, I1, r, q⟩ => ?_) hpl he) hdb)⟩
  refine thn (hkw.run pos pins s1 σ H1 _ I1 q) fun ws s2 ⟨zs, H2, I2, rz, h1, h2, xs, h3, q2⟩ => ⟨I2.kIn, ?_⟩
  rw [hks]
  exact hF.runP hr hu hb hx I2 r rz h1 h2 h3 q2
theorem call_p0 {sp : Sp} {E : XK} {perm : List Nat} {tk : TA} {kws : List Keyword} (hF : FnG X.prog X.w X.K X.mg X.base CXT k fa fd n ps sp) (hr : Room k X.A) (hu : X.A.guards = some []) (hg : Gl X x) (hm : X.mg x = some (.ref fa)) (hk : PySem.W.keepIn X.K (.ref fa) = true) (hb : KB X.K fd ps 0 ks perm) (hx : Passes CXT X E)
    (hkw : PK X kws tk) (hall : (backToKw pos (keywordEach kws X.env)).all (·.1.isSome) = true) (hks : (backToKw pos (keywordEach kws X.env)).filterMap (·.1) = ks)
    (hdb : (x == ("__debug__" : Str)) = false)
    (hpl : ((backTo pos (starEach [] X.env)).any (·.1) || (backToKw pos (keywordEach kws X.env)).any (·.1.isNone)) = false) :
    PE X (.Call (.Name x p) [] kws pos) (tCallP sp 0 ks perm E tNil tk) := by
  refine ⟨fun pins s σ H Q I h => wpAny_Call_Name_kw (ld_glob I hg hm (PySem.W.callWith_KW0 (h₀ := X.base) I.ok.mod.kin hk hall (thn (hkw.run pos pins s σ H _ I h) fun ws s2 ⟨zs, H2, I2, rz, h1, h2, xs, h3, q2⟩ => ⟨I2.kIn, ?_⟩) hpl) hdb)⟩
  rw [hks]
  exact hF.runP (us := []) hr hu hb hx I2 .nil rz h1 h2 h3 q2
theorem K_nil : PK X [] (rdL G W cf []) := ⟨fun _ pins s σ H Q I ⟨F, loc, s', S, hS, hE, p⟩ => by
  simp only [evL] at p
  exact wpAny_evalAll_nil ⟨[], H, I, .nil, p _ _ _ _ (.refl hS) .nil⟩⟩
theorem K_cons {nm : Option Str} {kpos : Pos} {kws : List Keyword} (ha : PE X e (rdE G W cf ie)) (hr : PK X kws (rdL G W cf ies)) : PK X (⟨nm, e, kpos⟩ :: kws) (rdL G W cf (ie :: ies)) := by
  refine ⟨fun ps pins s σ H Q I q => (pk_cons ha hr).run ps pins s σ H Q I ?_⟩
  obtain ⟨F, loc, s, S, hS, hE, p⟩ := q
  simp only [evL] at p
  refine ⟨F, loc, s, S, hS, hE, Post.bind p fun v S1 w F1 loc1 H1 n r p1 => ⟨F1, loc1, s, S1, n.sim, hE.next n, Post.bind p1 fun v2 S2 w2 F2 loc2 H2 n2 r2 p2 => ?_⟩⟩
  exact p2 _ _ _ _ (.refl n2.sim) (.cons (r.next n2) r2)
theorem rd_callk {perm : List Nat} {np : Nat} (hw : ∀ cv d t t' H, W cv d t H → W cv d t' H) (h1 : ies.length = np) (h2 : kies.length = ks.length) (h3 : perm.length = n) {t : L2.St} {H : Hp} {Q : VK} (h : rdE G W cf (.callk f ies kies perm) t H Q) : tCallP (spC G n (cf f)) np ks perm (WE W []) (rdL G W cf ies) (rdL G W cf kies) t H Q := by
  obtain ⟨F, loc, s, S, hS, hE, p⟩ := h
  simp only [evE] at p
  refine ⟨F, loc, s, S, hS, hE, ?_⟩
  cases q : evL cf ies s S with
  | err => rw [q] at p; exact p
  | exc c fs S' => rw [q] at p; exact p
  | ok vs S1 =>
    rw [q, Out.bind_ok] at p
    have ln := evL_len _ _ _ _ _ q
    intro w F1 loc1 H1 n1 r
    have p := Post.step n1 p
    refine ⟨F1, loc1, s, S1, n1.sim, hE.next n1, ?_⟩
    cases q2 : evL cf kies s S1 with
    | err => rw [q2] at p; exact p
    | exc c fs S' => rw [q2] at p; exact p
    | ok ws S2 =>
      rw [q2, Out.bind_ok] at p
      have ln2 := evL_len _ _ _ _ _ q2
      intro w2 F2 loc2 H2 n2 r2
      have p := Post.step n2 p
      split at p
      · rename_i xs hp
        obtain ⟨ys, q3, q4⟩ := permute_rvs ((r.next n2).app r2) hp
        refine ⟨by rw [r.length, ln, h1], by rw [r2.length, ln2, h2], ys, q3, spG_of hw n2.sim q4 ?_ p⟩
        rw [permute_len hp, h3]
      · exact p.elim
end
section
variable {X : Cx} {G : GC} {W : WX} {M : Option Nat} {cf : CallF} {a b c e o : Expr} {ia ib ic ie io : IE} {pos spos tpos p1 p2 p3 : Pos} {es : List Expr} {ies : List IE} {st : Stmt} {x y z : Str} {i j l : Nat}
/-! ### statements -/
theorem S_bad : PS X st (rdS G W M cf .bad) := ⟨fun pins s σ H Q I ⟨F, loc, s', S, _, _, p⟩ => by
  simp only [evS] at p
  exact p.elim⟩
theorem S_par {kt k2 : Nat} {pt2 : Pos} (hc : X.calm = true) (hN : X.N.Nodup) (hi : X.N[i]? = some x) (hj : X.N[j]? = some y) (hij : i ≠ j)
    (hx : X.env.scope.names.lookup x = some .local) (hy : X.env.scope.names.lookup y = some .local) (ha : PA X [a, b] (rdL G W cf ies))
    (hw : swappedStores [.Tuple [.Name x p1, .Name y p2] kt tpos] (.Tuple [a, b] k2 pt2) X.env = pure (some [x, y])) :
    PS X (.Assign [.Tuple [.Name x p1, .Name y p2] kt tpos] (.Tuple [a, b] k2 pt2) pos) (rdS G W M cf (.par [.nm i, .nm j] ies)) := by
  refine PSmon (ps_par hc hN hi hj hij hx hy ha hw) ?_
  rintro D t H ⟨F, loc, s, S, hS, hE, p⟩
  simp only [evS] at p
  refine ⟨F, loc, s, S, hS, hE, PostS.bind p fun vs S1 ws F1 loc1 H1 n r p1 => ?_⟩
  have hE1 := hE.next n
  cases r with
  | nil => exact p1.elim
  | @cons v w vs ws r l =>
  cases l with
  | nil =>
    simp only [asTs] at p1
    cases q : asT cf (.nm i) v s S1 with
    | ok s1 S2 => rw [q] at p1; exact p1.elim
    | err => rw [q] at p1; exact p1.elim
    | exc c fs S2 => simp only [asT] at q; split at q <;> cases q
  | @cons v2 w2 vs ws r2 l =>
  simp only [asTs, asT] at p1
  split at p1
  rotate_left
  · exact p1.elim
  simp only [Out.bind_ok] at p1
  split at p1
  rotate_left
  · exact p1.elim
  simp only [Out.bind_ok] at p1
  cases l with
  | cons => simp only [asTs] at p1; exact p1.elim
  | nil =>
    simp only [asTs, Out.bind_ok] at p1
    exact ⟨w, w2, rfl, p1 _ _ _ _ (.refl n.sim) ((hE1.set r).set r2)⟩
theorem S_par3 {kt k2 : Nat} {pt2 : Pos} (hc : X.calm = true) (hN : X.N.Nodup) (hi : X.N[i]? = some x) (hj : X.N[j]? = some y) (hl : X.N[l]? = some z) (hij : i ≠ j) (hil : i ≠ l) (hjl : j ≠ l)
    (hx : X.env.scope.names.lookup x = some .local) (hy : X.env.scope.names.lookup y = some .local) (hz : X.env.scope.names.lookup z = some .local) (ha : PA X [a, b, c] (rdL G W cf ies))
    (hw : swappedStores [.Tuple [.Name x p1, .Name y p2, .Name z p3] kt tpos] (.Tuple [a, b, c] k2 pt2) X.env = pure (some [x, y, z])) :
    PS X (.Assign [.Tuple [.Name x p1, .Name y p2, .Name z p3] kt tpos] (.Tuple [a, b, c] k2 pt2) pos) (rdS G W M cf (.par [.nm i, .nm j, .nm l] ies)) := by
  refine PSmon (ps_par3 hc hN hi hj hl hij hil hjl hx hy hz ha hw) ?_
  rintro D t H ⟨F, loc, s, S, hS, hE, p⟩
  simp only [evS] at p
  refine ⟨F, loc, s, S, hS, hE, PostS.bind p fun vs S1 ws F1 loc1 H1 n r p1 => ?_⟩
  have hE1 := hE.next n
  have hno : ∀ (j : Nat) (v : Val) (s s' : Env) (S S2 : Store) (c : Nat) (fs : List PyData), asT cf (.nm j) v s S ≠ .exc c fs S2 := fun j v s s' S S2 c fs q => by
    simp only [asT] at q
    split at q <;> cases q
  cases r with
  | nil => exact p1.elim
  | @cons v w vs ws r l =>
  simp only [asTs, asT] at p1
  split at p1
  rotate_left
  · exact p1.elim
  simp only [Out.bind_ok] at p1
  cases l with
  | nil => simp only [asTs] at p1; exact p1.elim
  | @cons v2 w2 vs ws r2 l =>
  simp only [asTs, asT] at p1
  split at p1
  rotate_left
  · exact p1.elim
  simp only [Out.bind_ok] at p1
  cases l with
  | nil => simp only [asTs] at p1; exact p1.elim
  | @cons v3 w3 vs ws r3 l =>
  simp only [asTs, asT] at p1
  split at p1
  rotate_left
  · exact p1.elim
  simp only [Out.bind_ok] at p1
  cases l with
  | cons => simp only [asTs] at p1; exact p1.elim
  | nil =>
    simp only [asTs, Out.bind_ok] at p1
    exact ⟨w, w2, w3, rfl, p1 _ _ _ _ (.refl n.sim) (((hE1.set r).set r2).set r3)⟩
/-- a, b = x, y in the plain order -/
theorem S_parT {ess txs : List Expr} {kt k2 : Nat} {ts : List Tg} {pt1 pt2 : Pos} (hK : G.K = X.K) (hw : ∀ cv d t t' H, W cv d t H → W cv d t' H) (hc : X.calm = true) (ha : PA X ess (rdL G W cf ies)) (hg : PGs X txs (rdGs G W cf ts)) (hl : txs.length = ts.length) (hz : ies.length ≤ sizeLine) (hn : (assignEach txs X.env).length = txs.length)
    (hst : (assignEach txs X.env).findIdx? (·.1) = none) (hexc : ∀ xs s S c fs S', asTs cf ts xs s S ≠ .exc c fs S') (hsw : swappedStores [.Tuple txs kt pt1] (.Tuple ess k2 pt2) X.env = pure none) :
    PS X (.Assign [.Tuple txs kt pt1] (.Tuple ess k2 pt2) pos) (rdS G W M cf (.par ts ies)) := by
  refine PSmon (ps_asg (pe_tup ha) (pg_tup hc hg (n := ts.length) (hn.trans hl) hst) rfl hsw rfl) ?_
  rintro D t H ⟨F, loc, s, S, hS, hE, p⟩
  simp only [evS] at p
  refine ⟨F, loc, s, S, hS, hE, ?_⟩
  cases q : evL cf ies s S with
  | err => rw [q] at p; exact p
  | exc c fs S' => rw [q] at p; exact p
  | ok vs S1 =>
  rw [q, Out.bind_ok] at p
  have ln := evL_len _ _ _ _ _ q
  intro ws F1 loc1 H1 n r
  have len : ts.length = vs.length := by
    cases q2 : asTs cf ts vs s S1 with
    | err => rw [q2] at p; exact p.elim
    | exc c fs S' => exact absurd q2 (hexc _ _ _ _ _ _)
    | ok s2 S2 => exact asTs_len q2
  have lw : ws.length = ts.length := by rw [r.length, len]
  refine ⟨by rw [lw, len, ln]; exact hz, fun b hb => ⟨b, ws, rfl, .inl (.inl upd_same), lw, ?_⟩⟩
  have n2 := Nxt.lay (o := .tup ws) n.sim hb
  exact ⟨F1, loc1, s, S1, vs, n2.sim, (hE.next n).next n2, r.next n2, PostS.bind (PostS.step (n.trans n2) p) fun s3 S3 t3 F3 loc3 H3 n3 hE3 p3 => p3 _ _ _ _ (.refl n3.sim) hE3⟩
end
end IP
namespace IP
open PySem PySem.Spec PyProof.Rows L2

/-! ### what is asked of a written form -/
noncomputable def noStar : Expr → Bool
  | .Starred _ _ => false
  | _ => true
noncomputable def noStars : List Expr → Bool
  | [] => true
  | e :: es => noStar e && noStars es
noncomputable def noCall : Expr → Bool
  | .Call .. => false
  | _ => true
noncomputable def noSlice : Expr → Bool
  | .Slice .. => false
  | _ => true
noncomputable def noSet : Expr → Bool
  | .Set .. => false
  | _ => true
noncomputable def noComp : Expr → Bool
  | .ListComp .. => false
  | .SetComp .. => false
  | .DictComp .. => false
  | _ => true
noncomputable def plainT : Expr → Bool
  | .UnaryOp .. => false
  | .BoolOp .. => false
  | .IfExp .. => false
  | .Compare .. => false
  | _ => true
noncomputable def noTup : Expr → Bool
  | .Tuple .. => false
  | .List .. => false
  | _ => true
section
variable {env : PySem.Env} {e a o : Expr} {es : List Expr} {pos apos : Pos}
theorem star_cons (h : noStar e = true) : starEach (e :: es) env = (false, eval e env) :: starEach es env := by
  cases e <;> first | rfl | cases h
theorem star_any : ∀ {es : List Expr}, noStars es = true → (backTo pos (starEach es env)).any (·.1) = false
  | [], _ => rfl
  | e :: es, h => by
    simp only [noStars, Bool.and_eq_true] at h
    rw [star_cons h.1]
    show (false || (backTo pos (starEach es env)).any (·.1)) = false
    rw [star_any h.2]
    rfl
theorem star_all : ∀ {es : List Expr}, noStars es = true → (backTo pos (starEach es env)).all (!·.1) = true
  | [], _ => rfl
  | e :: es, h => by
    simp only [noStars, Bool.and_eq_true] at h
    rw [star_cons h.1]
    show (true && (backTo pos (starEach es env)).all (!·.1)) = true
    rw [star_all h.2]
    rfl
theorem true_val (h : plainT e = true) (whole : Sem Value) : isTrue e env whole = (do let v ← whole; standAt e.pos; holding [v] (truthy v)) := by
  cases e <;> first | rfl | cases h
theorem ix_plain (h : noSlice e = true) : PlainIx e := fun o i => by
  cases e <;> first | rfl | cases h
theorem base_at {nm : Str} {whole : Sem Value} (h : noCall a = true) : attributeBase a nm env whole = whole := by
  cases a <;> first | rfl | cases h
theorem set_iter (h : noSet e = true) (x : Value) : foldedSetIterable e env x = pure x := by
  cases e <;> first | rfl | cases h
theorem sw_none (h : noComp e = true) {l : Nat} : swapsWith e none l env = pure false := by
  cases e <;> first | rfl | cases h
theorem sw_sub {o i : Expr} {p : Pos} (h : noComp e = true) {l : Nat} : swapsWith e (some (.Subscript o i p)) l env = pure false := by
  cases e <;> first | rfl | cases h
theorem sw_sole {tg : Expr} (h : noComp e = true) {l : Nat} : swapsWithSole [tg] e l env = pure false := by
  cases e <;> first | rfl | cases h
theorem st_none {tg : Expr} (h : noTup tg = true ∨ noTup e = true) : swappedStores [tg] e env = pure none := by
  rcases h with h | h
  · cases tg <;> first | rfl | cases h
  · cases tg <;> first | rfl | (cases e <;> first | rfl | cases h)
noncomputable def plOf (o : Expr) (env : PySem.Env) : Sem Bool := do return (← importBound o env).getD true
theorem meth_eq {m : Str} (h1 : noCall o = true) (h2 : (apos.endLine == pos.line) = true) (h3 : noStars es = true) (h4 : es.length < 30) : eval (.Call (.Attribute o m apos) es [] pos) env = (do
      let ov ← eval o env
      standAt apos.atName
      let (f, first) ← holding [ov] (getMethod ov m (plOf o env))
      callWith pos f first (backTo pos (starEach es env)) (backToKw pos (keywordEach [] env))) := by
  have few : methodCallForm (es.length + ([] : List Keyword).length) (backTo pos (starEach es env)) (backToKw pos (keywordEach [] env)) = true := by
    unfold methodCallForm
    rw [star_all h3]
    show (true && true && decide (es.length + 0 + 0 < 30)) = true
    simpa using h4
  have e1 : eval (.Call (.Attribute o m apos) es [] pos) env = (do
      let ov ← attributeBase o m env (eval o env)
      standAt apos.atName
      methodCall o m apos pos env ov (es.length + ([] : List Keyword).length) (backTo pos (starEach es env)) (backToKw pos (keywordEach [] env))) := by rfl
  rw [e1, base_at h1]
  simp only [methodCall, few, calleeOf, methodCallPos, h2, Bool.not_true, Bool.false_or, if_true, pure_bind]
  rfl
theorem asg_one {tg : Expr} (h : noStar tg = true) : (assignEach [tg] env).map (·.2) = [assign tg env] := by
  cases tg <;> first | rfl | cases h
theorem asg_cons (h : noStar e = true) : (assignEach (e :: es) env).map (·.2) = assign e env :: (assignEach es env).map (·.2) := by
  cases e <;> first | rfl | cases h
theorem asg_len : ∀ {es : List Expr}, (assignEach es env).length = es.length
  | [] => rfl
  | e :: es => by
    have ih := asg_len (es := es)
    cases e <;> (show (assignEach es env).length + 1 = es.length + 1; rw [ih])
theorem asg_idx : ∀ {es : List Expr}, noStars es = true → (assignEach es env).findIdx? (·.1) = none
  | [], _ => rfl
  | e :: es, h => by
    simp only [noStars, Bool.and_eq_true] at h
    have ih := asg_idx (es := es) h.2
    have e1 : ∃ t, assignEach (e :: es) env = (false, t) :: assignEach es env := by
      cases e <;> first | exact ⟨_, rfl⟩ | cases h.1
    obtain ⟨t, e1⟩ := e1
    rw [e1, List.findIdx?_cons, ih]
    rfl
/-- which names a tuple store takes from the right -/
noncomputable def swS (ts vs : List Expr) (sc : Scope) : Option (Option (List Str)) :=
  if !(ts.length == 2 || ts.length == 3) || vs.length != ts.length then some none
  else if vs.any (fun | .Starred .. => true | _ => false) then some none
  else
    let line := (ts.head?.map (·.pos.line)).getD 0
    let names := ts.filterMap fun
      | .Name id pos => if sc.names.lookup id == some .local && pos.line == line then some id else none
      | _ => none
    if names.length != ts.length || names.eraseDups.length != names.length then some none
    else if vs.all (foldedForSure 8) then some none
    else if vs.all (constantsAlone 8) then none
    else some (some names)
theorem swS_ok {ts vs : List Expr} {k k2 : Nat} {p p2 : Pos} {r : Option (List Str)} (hk : env.scope.kind = .function) (h : swS ts vs env.scope = some r) : swappedStores [.Tuple ts k p] (.Tuple vs k2 p2) env = pure r := by
  have hb : env.blockKind = .function := by unfold Env.blockKind; rw [hk]; rfl
  have hb2 : (env.blockKind != .function) = false := by rw [hb]; rfl
  unfold swS at h
  unfold swappedStores
  simp only [hb2, Bool.or_false, Env.kindOf]
  split at h
  · rename_i q
    cases h
    exact if_pos q
  · rename_i q
    refine (if_neg q).trans ?_
    split at h
    · rename_i q2
      cases h
      exact if_pos q2
    · rename_i q2
      refine (if_neg q2).trans ?_
      simp only at h ⊢
      split at h
      · rename_i q3
        cases h
        exact if_pos q3
      · rename_i q3
        refine (if_neg q3).trans ?_
        split at h
        · rename_i q4
          cases h
          exact if_pos q4
        · rename_i q4
          refine (if_neg q4).trans ?_
          split at h
          · cases h
          · rename_i q5
            cases h
            exact if_neg q5
/-- the plain store of a comprehension, or the one that swaps -/
noncomputable def swC (y : Str) (py pos : Pos) (scope sc : Scope) : Bool := sc.names.lookup y == some .local && py.line == pos.line && !(scope.names.any fun (n, k) => n == y && (k == .local || k == .cell))
theorem swC_ok {elt : Expr} {gs : List Comprehension} {scope : Scope} {py : Pos} {y : Str} {l : Nat} (hk : env.scope.kind = .function) : swapsWithSole [.Name y py] (.ListComp elt gs scope pos) l env = pure (swC y py pos scope env.scope) := by
  have hb : env.blockKind = .function := by unfold Env.blockKind; rw [hk]; rfl
  show swapsWith (.ListComp elt gs scope pos) (some (.Name y py)) l env = _
  unfold swapsWith swC
  simp only [hb, Env.kindOf, Expr.pos]
  rfl
/-! keywords -/
noncomputable def kwNames : List Keyword → List Str
  | [] => []
  | ⟨some n, _, _⟩ :: r => n :: kwNames r
  | ⟨none, _, _⟩ :: r => kwNames r
noncomputable def kwAll : List Keyword → Bool
  | [] => true
  | ⟨some _, _, _⟩ :: r => kwAll r
  | ⟨none, _, _⟩ :: _ => false
theorem kw_facts : ∀ {kws : List Keyword}, kwAll kws = true → (backToKw pos (keywordEach kws env)).all (·.1.isSome) = true ∧ (backToKw pos (keywordEach kws env)).filterMap (·.1) = kwNames kws ∧ (backToKw pos (keywordEach kws env)).any (·.1.isNone) = false
  | [], _ => ⟨rfl, rfl, rfl⟩
  | ⟨some n, v, kp⟩ :: r, h => by
    obtain ⟨h1, h2, h3⟩ := kw_facts (kws := r) h
    refine ⟨?_, ?_, ?_⟩
    · show (true && (backToKw pos (keywordEach r env)).all (·.1.isSome)) = true
      rw [h1]; rfl
    · show n :: (backToKw pos (keywordEach r env)).filterMap (·.1) = n :: kwNames r
      rw [h2]
    · show (false || (backToKw pos (keywordEach r env)).any (·.1.isNone)) = false
      rw [h3]; rfl
  | ⟨none, v, kp⟩ :: r, h => by cases h
end
end IP
namespace IP
open PySem PySem.Spec PyProof.Rows L2

/-! ### a list made of two; len(set(..)); small dicts -/
section
variable {X : Cx} {G : GC} {W : WX} {cf : CallF} {a b c e : Expr} {ia ib ic ie : IE} {pos : Pos}
theorem F_cat (ha : PE X a (rdE G W cf ia)) (hb : PE X b (rdE G W cf ib)) : PE X (.BinOp a .Add b pos) (rdF G W cf (.cat ia ib)) := by
  refine PEmon (pe_op op_catR ha hb) ?_
  rintro t H Q ⟨F, loc, s, S, hS, hE, p⟩
  simp only [evE] at p
  refine ⟨F, loc, s, S, hS, hE, Post.bind p fun v S1 w F1 loc1 H1 n r p1 => ⟨F1, loc1, s, S1, n.sim, hE.next n, Post.bind p1 fun v2 S2 w2 F2 loc2 H2 n2 r2 p2 => ?_⟩⟩
  split at p2
  · rename_i xs ys hx hy
    split at p2
    · rename_i hz
      obtain ⟨l, us, rfl, h1, h2⟩ := look_list n2.sim (r.next n2) hx
      obtain ⟨m, vs, rfl, h3, h4⟩ := look_list n2.sim r2 hy
      refine ⟨l, m, us, vs, rfl, rfl, h1, h3, by rw [h2.length, h4.length]; exact hz, fun q hq => ?_⟩
      exact p2 _ _ _ _ (Nxt.lay n2.sim hq) (FrR.new n2.sim (h2.append h4) hq (n.dom _ (n2.dom _ (.inl hq))))
    · exact False.elim p2
  · exact False.elim p2
/-! sets of ints -/
theorem firstMet_all (ns : List Int) : firstMet (fun i => ns.getD i 0) ns.length = ns.foldl step_dedup [] := by
  unfold firstMet
  congr 1
  apply List.ext_getElem?
  intro i
  rw [List.getElem?_map]
  by_cases h : i < ns.length
  · rw [List.getElem?_range h, List.getElem?_eq_getElem h]
    simp [List.getD_eq_getElem?_getD, h]
  · rw [List.getElem?_eq_none (by rw [List.length_range]; omega), List.getElem?_eq_none (by omega)]
    rfl
noncomputable def tLenSet (K : PySem.W.Frag) (ta : TE) : TE := fun σ H Q => ta σ H fun x H1 => ∃ (l : Addr) (ns : List Int), x = .ref l ∧ SqL K H1 l (ns.map V.int) ∧ ns.length ≤ 4000 ∧ Q (.int ((ns.foldl step_dedup []).length : Nat)) H1
theorem pe_lenSet {ta : TE} {p p2 q : Pos} (hg : Gl X "len") (hm : X.mg "len" = none) (hg2 : Gl X "set") (hm2 : X.mg "set" = none) (ha : PE X a ta) (hc : X.calm = true)
    (na : starEach [a] X.env = (false, eval a X.env) :: starEach [] X.env) : PE X (.Call (.Name "len" p) [.Call (.Name "set" p2) [a] [] q] [] pos) (tLenSet X.K ta) := by
  refine ⟨fun pins s σ H Q I h => ?_⟩
  refine Call_ (ld_blt I hg hm boot_len ?_)
  refine PyProof.Rows.callWith_builtin1 (PyProof.Rows.args_cons ?_ rfl) rfl rfl
  refine Call_ (ld_blt I hg2 hm2 boot_set ?_)
  refine PyProof.Rows.callWith_type1 (PyProof.Rows.args_cons (thn (ha.run pins s σ H _ I h) fun v s1 ⟨x, H1, I1, r1, q1⟩ => PyProof.Rows.args_nil ?_) na) na rfl
  obtain ⟨l, ns, rfl, hq, hl, q1⟩ := q1
  cases r1
  obtain ⟨its, r, pl, hz⟩ := I1.list hq
  have hlen : its.toArray.size = ns.length := by rw [List.size_toArray, ← r.length, List.length_map]
  refine call_set_list (I1.ok.hd hc) pl.isList (by simpa using RZ.intsAre_vals r) (by rw [hlen]; unfold scanBound; omega) fun h' tk hS hk => ?_
  refine PyProof.Rows.args_nil ?_
  have le := firstMet_length_le (fun i => ns.getD i 0) ns.length
  rw [hlen] at hS
  rw [firstMet_all] at hS le
  obtain ⟨o, es, ep, t, ho, hex, hd, _, _, _, hf, hn⟩ := hS
  have I2 : Inv X pins σ H1 { s1 with heap := h', toks := tk } := I1.kept fun b o e => hk b o (Heap.lt_size e) e
  exact call_len_set ho hex hd hf (by rw [hn]; omega) ⟨.int (ns.foldl step_dedup []).length, H1, I2.tok _, ⟨_, by rw [hn]⟩, q1⟩
theorem E_lset {p p2 q : Pos} (hK : G.K = X.K) (hc : X.calm = true) (hg : Gl X "len") (hm : X.mg "len" = none) (hg2 : Gl X "set") (hm2 : X.mg "set" = none) (ha : PE X a (rdE G W cf ia))
    (na : starEach [a] X.env = (false, eval a X.env) :: starEach [] X.env) : PE X (.Call (.Name "len" p) [.Call (.Name "set" p2) [a] [] q] [] pos) (rdE G W cf (.lset ia)) := by
  refine PEmon (pe_lenSet hg hm hg2 hm2 ha hc na) ?_
  rintro t H Q ⟨F, loc, s, S, hS, hE, p⟩
  simp only [evE] at p
  refine ⟨F, loc, s, S, hS, hE, Post.bind p fun v S1 w F1 loc1 H1 n r p1 => ?_⟩
  split at p1
  · rename_i xs
    split at p1
    · rename_i ns hns
      split at p1
      · rename_i hz
        have e := intsOf_eq hns
        subst e
        have r : Rp G.K F1 H1 w (.list (ns.map .int)) := r
        cases r with
        | lst f e l =>
          rw [RpL.of_ints l] at e
          refine ⟨_, ns, rfl, hK ▸ .inl (.inl e), hz, ?_⟩
          exact p1 _ _ _ _ (.refl n.sim) (show Rp _ _ _ _ _ from .int _)
      · exact False.elim p1
    · exact False.elim p1
  · exact False.elim p1
/-! dicts that are looked at -/
theorem E_dic0 : PE X (.Dict [] [] pos) (rdE G W cf .dic0) := by
  refine PEmon pe_dnewK ?_
  rintro t H Q ⟨F, loc, s, S, hS, hE, p⟩
  simp only [evE] at p
  intro q hq
  exact p _ _ _ _ (Nxt.new (o := .dK []) hS hq) (show Rp _ _ _ _ _ from .dic (.inr rfl) upd_same .nil)
theorem E_dic1 {ke : Expr} {k : Key} (hk : PE X ke (tC (kV k))) (hv : PE X e (rdE G W cf ie)) : PE X (.Dict [some ke] [e] pos) (rdE G W cf (.dic1 (keyD k) ie)) := by
  refine PEmon (pe_disp (pps_cons hk hv pps_nil) rfl rfl (by simp) (by simp)) ?_
  rintro t H Q ⟨F, loc, s, S, hS, hE, p⟩
  simp only [evE] at p
  intro q hq
  have n0 := Nxt.lay (o := .dK []) hS hq
  have h0 : ¬ F q := fun f => hS.dom q f hq
  have h1 : ∀ l o, S[l]? = some o → alive o = true → loc l ≠ q := fun l o e al z => (hS.ob l o e).there al (by rw [z]; exact hq)
  show rdE G W cf ie t (upd H q (.dK [])) _
  refine ⟨F, loc, s, S, n0.sim, hE.next n0, ?_⟩
  cases qe : evE cf ie s S with
  | err => rw [qe] at p; exact p
  | exc c fs S' => rw [qe] at p; exact fun cv d F' loc' H' m r => p cv d F' loc' H' (n0.trans m) r
  | ok v S1 =>
    rw [qe] at p
    intro w F1 loc1 H1 n1 r
    obtain ⟨a1, a2, a3⟩ := n1.apart (a := q) upd_same (fun _ z => (by cases z)) h0 h1
    refine ⟨a1, [(k, w)], rfl, by simp, ?_⟩
    have n := n0.trans n1
    simp only [Out.bind_ok] at p
    split at p
    · rename_i d
      have r : Rp G.K F1 H1 w d := r
      have n3 := (n.priv (a := q) (o := .dK [(k, w)]) (.inl hq) a2 a3 a1 (solidN (fun _ z => (by cases z)) (fun _ z => (by cases z))) (solidN (fun _ z => (by cases z)) (fun _ z => (by cases z)))).keepsF (a := q) (.inl hq) ⟨_, upd_same, (solidN (fun _ z => (by cases z)) (fun _ z => (by cases z)))⟩ a3
      have kp : ∀ a o, F1 a → H1 a = some o → upd H1 q (.dK [(k, w)]) a = some o := fun a o f e => by
        rw [upd_ne (fun z => a2 (by rw [← z]; exact f))]
        exact e
      exact p _ _ _ _ n3 (show Rp _ _ _ _ _ from .dic (.inr rfl) upd_same (.cons (Rp.mono (fun _ f => .inl f) kp r) .nil))
    · exact False.elim p
end
end IP
namespace IP
open PySem PySem.Calls PySem.Spec PyProof.Rows L2

/-! ### dicts with tuples as keys -/
theorem tkeys_of : ∀ k : List Key, tkeys (k.map keyD) = some k
  | [] => rfl
  | .inl i :: r => by
    show (tkeys (r.map keyD)).map _ = _
    rw [tkeys_of r]
    rfl
  | .inr x :: r => by
    show (tkeys (r.map keyD)).map _ = _
    rw [tkeys_of r]
    rfl
theorem tkeys_eq : ∀ {xs : List PyData} {k : List Key}, tkeys xs = some k → xs = k.map keyD
  | [], k, h => by
    cases h
    rfl
  | .int i :: r, k, h => by
    obtain ⟨k', h1, rfl⟩ := Option.map_eq_some_iff.mp (show (tkeys r).map _ = some k from h)
    rw [tkeys_eq h1]
    rfl
  | .str i :: r, k, h => by
    obtain ⟨k', h1, rfl⟩ := Option.map_eq_some_iff.mp (show (tkeys r).map _ = some k from h)
    rw [tkeys_eq h1]
    rfl
  | .none :: r, k, h => by cases h
  | .bool _ :: r, k, h => by cases h
  | .list _ :: r, k, h => by cases h
  | .tuple _ :: r, k, h => by cases h
  | .dict _ :: r, k, h => by cases h
theorem tkey_of (k : List Key) : tkey (.tuple (k.map keyD)) = some k := tkeys_of k
theorem tkey_eq {p : PyData} {k : List Key} (h : tkey p = some k) : p = .tuple (k.map keyD) := by
  cases p with
  | tuple xs => exact congrArg PyData.tuple (tkeys_eq h)
  | _ => cases h
section
variable {K : PySem.W.Frag} {F : Addr → Prop} {H : Hp}
theorem rp_keyV : ∀ {k : List Key} {us : List V}, RpL K F H us (k.map keyD) → us = k.map kV
  | [], us, h => by
    cases h
    rfl
  | .inl i :: r, _, .cons h l => by
    cases h
    rw [rp_keyV l]
    rfl
  | .inr i :: r, _, .cons h l => by
    cases h
    rw [rp_keyV l]
    rfl
theorem rp_key {k : List Key} {w : V} (r : Rp K F H w (.tuple (k.map keyD))) : ∃ b, w = .ref b ∧ F b ∧ H b = some (.tup (k.map kV)) := by
  cases r with
  | tup f e l =>
    rw [rp_keyV l] at e
    exact ⟨_, rfl, f, e⟩
theorem valT_cons {k k' : List Key} {d : PyData} {ds : List (PyData × PyData)} : valT ((.tuple (k'.map keyD), d) :: ds) k = if k' = k then some d else valT ds k := by
  show (List.find? _ _).map _ = _
  rw [List.find?_cons]
  show Option.map _ (match decide (tkey (.tuple (k'.map keyD)) = some k) with | true => _ | false => _) = _
  rw [tkey_of]
  by_cases h : k' = k
  · rw [if_pos h, h]
    simp
  · rw [if_neg h, decide_eq_false (fun z => h (Option.some.inj z))]
    rfl
theorem valT_rp {z : V} {q : PyData} (k : List Key) (rz : Rp K F H z q) : ∀ {kvs : List (List Key × V)} {ds : List (PyData × PyData)}, RpT K F H kvs ds → Rp K F H ((valV kvs k).getD z) ((valT ds k).getD q)
  | _, _, .nil => rz
  | (k', v) :: kvs, _, .cons (d := d) r l => by
    rw [valT_cons]
    by_cases h : k' = k
    · rw [if_pos h, valV_pos (p := (k', v)) h]
      exact r
    · rw [if_neg h, valV_neg (p := (k', v)) h]
      exact valT_rp k rz l
theorem RpT.anyk (k : List Key) : ∀ {kvs : List (List Key × V)} {ds : List (PyData × PyData)}, RpT K F H kvs ds → (ds.any fun kv => decide (tkey kv.1 = some k)) = kvs.any fun kv => decide (kv.1 = k)
  | _, _, .nil => rfl
  | (k', v) :: kvs, _, .cons r l => by
    rw [List.any_cons, List.any_cons, RpT.anyk k l]
    show (decide (tkey (.tuple (k'.map keyD)) = some k) || _) = _
    rw [tkey_of]
    simp
theorem RpT.snoc {k : List Key} {v : V} {d : PyData} (r : Rp K F H v d) : ∀ {kvs : List (List Key × V)} {ds : List (PyData × PyData)}, RpT K F H kvs ds → RpT K F H (kvs ++ [(k, v)]) (ds ++ [(.tuple (k.map keyD), d)])
  | _, _, .nil => .cons r .nil
  | _, _, .cons h l => .cons h (RpT.snoc r l)
theorem RpT.repl {k : List Key} {v : V} {d : PyData} (r : Rp K F H v d) : ∀ {kvs : List (List Key × V)} {ds : List (PyData × PyData)}, RpT K F H kvs ds →
    RpT K F H (kvs.map fun kv => if kv.1 = k then (kv.1, v) else kv) (ds.map fun kv => if tkey kv.1 = some k then (kv.1, d) else kv)
  | _, _, .nil => .nil
  | (k', u) :: kvs, _, .cons (d := d') h l => by
    rw [List.map_cons, List.map_cons]
    show RpT K F H ((if k' = k then (k', v) else (k', u)) :: _) ((if tkey (.tuple (k'.map keyD)) = some k then (PyData.tuple (k'.map keyD), d) else (.tuple (k'.map keyD), d')) :: _)
    rw [tkey_of]
    by_cases e : k' = k
    · rw [if_pos e, if_pos (congrArg some e)]
      exact .cons r (RpT.repl r l)
    · rw [if_neg e, if_neg (fun z => e (Option.some.inj z))]
      exact .cons h (RpT.repl r l)
theorem putT_rp {k : List Key} {v : V} {d : PyData} {kvs : List (List Key × V)} {ds : List (PyData × PyData)} (l : RpT K F H kvs ds) (r : Rp K F H v d) : RpT K F H (putK kvs k v) (putT ds (.tuple (k.map keyD)) k d) := by
  unfold putK putT
  rw [l.anyk k]
  by_cases h : (kvs.any fun kv => decide (kv.1 = k)) = true
  · rw [if_pos h, if_pos h]
    exact l.repl r
  · rw [if_neg h, if_neg h]
    exact l.snoc r
theorem RpT.length : ∀ {kvs : List (List Key × V)} {ds : List (PyData × PyData)}, RpT K F H kvs ds → kvs.length = ds.length
  | _, _, .nil => rfl
  | _, _, .cons _ l => by rw [List.length_cons, List.length_cons, RpT.length l]
theorem RpT.vals : ∀ {kvs : List (List Key × V)} {ds : List (PyData × PyData)}, RpT K F H kvs ds → RpL K F H (kvs.map (·.2)) (ds.map (·.2))
  | _, _, .nil => .nil
  | _, _, .cons r l => .cons r (RpT.vals l)
end

section
variable {X : Cx} {G : GC} {W : WX} {cf : CallF} {a b c e : Expr} {ia ib ic ie : IE} {pos : Pos} {M : Option Nat}
theorem E_ndc : PE X (.Dict [] [] pos) (rdE G W cf .ndc) := by
  refine PEmon pe_dnewT ?_
  rintro t H Q ⟨F, loc, s, S, hS, hE, p⟩ q hq
  simp only [evE] at p
  have n := Nxt.push (Nxt.lay (o := .dT []) hS hq) (a := q) (o := .dic []) (.inl hq) (fun f => hS.dom q f hq) (fun l o e al z => (hS.ob l o e).there al (by rw [z]; exact hq)) ⟨[], upd_same, .nil⟩
  refine p _ _ _ _ n ⟨?_, by rw [List.length_append]; exact Nat.lt_succ_self _⟩
  show V.ref q = V.ref (if S.length = S.length then q else loc S.length)
  rw [if_pos rfl]
theorem E_dgt {j : Nat} {x : Str} {p1 apos cpos : Pos} (hu : X.A.units + 1 < cLine) (hN : X.N[j]? = some x) (hv : Vis X.env.scope x) (hd : (x == ("__debug__" : Str)) = false) (hcd : (x == ("__classdict__" : Str)) = false)
    (ha : PE X a (rdE G W cf ia)) (hb : PE X b (rdE G W cf ib)) (m : M2 X (.Name x p1) "get" apos a b cpos) : PE X (.Call (.Attribute (.Name x p1) "get" apos) [a, b] [] cpos) (rdE G W cf (.dgt j ia ib)) := by
  refine PEmon (pe_dget2 hu (pe_var hN hv hd hcd) ha hb m) ?_
  rintro t H Q ⟨F, loc, s, S, hS, hE, p⟩
  simp only [evE] at p
  split at p
  · rename_i l hi
    obtain ⟨w, h1, r⟩ := hE.at_ j _ hi
    have r0 := r
    obtain ⟨rfl, hl⟩ := r
    split at p
    · rename_i ys hy
      obtain ⟨vs, e1, _⟩ := hS.ob l _ hy
      refine ⟨_, h1, _, rfl, .inr ⟨vs, .inl e1⟩, F, loc, s, S, hS, hE, Post.bind p fun v S1 w F1 loc1 H1 n r p1 => ⟨F1, loc1, s, S1, n.sim, hE.next n, Post.bind p1 fun v2 S2 w2 F2 loc2 H2 n2 r2 p2 => ?_⟩⟩
      obtain ⟨q1, _⟩ := (r0.next n).next n2
      split at p2
      · rename_i pk pd kvs hx
        split at p2
        · rename_i k hk
          cases tkey_eq hk
          obtain ⟨us, e2, rl⟩ := n2.sim.ob l _ hx
          obtain ⟨bk, rfl, f, eb⟩ := rp_key (show Rp _ _ _ w _ from r)
          refine ⟨valV us k, ?_, ?_⟩
          · rw [V.ref.inj q1]
            exact DGet.t e2 (n2.keep _ _ f eb)
          · exact p2 _ _ _ _ (.refl n2.sim) (show Rp _ _ _ _ _ from valT_rp k r2 rl)
        · exact False.elim p2
      · exact False.elim p2
    · exact False.elim p
  · exact False.elim p
theorem S_dpt {j : Nat} {x : Str} {p1 pos' : Pos} (hu : X.A.units + 1 < cLine) (hN : X.N[j]? = some x) (hv : Vis X.env.scope x) (hd : (x == ("__debug__" : Str)) = false) (hcd : (x == ("__classdict__" : Str)) = false)
    (ha : PE X a (rdE G W cf ia)) (hb : PE X b (rdE G W cf ib)) (hs : swapsWith b (some (.Subscript (.Name x p1) a pos')) pos.line X.env = pure false) :
    PS X (.Assign [.Subscript (.Name x p1) a pos'] b pos) (rdS G W M cf (.dpt j ia ib)) := by
  refine PSmon (ps_dput hu (pe_var hN hv hd hcd) ha hb hs) ?_
  rintro D t H ⟨F, loc, s, S, hS, hE, p⟩
  simp only [evS] at p
  split at p
  · rename_i l hi
    obtain ⟨w0, h1, r⟩ := hE.at_ j _ hi
    have r0 := r
    obtain ⟨rfl, hl⟩ := r
    refine ⟨F, loc, s, S, hS, hE, PostS.bind p fun v S1 w F1 loc1 H1 n r p1 => ⟨_, h1, F1, loc1, s, S1, n.sim, hE.next n, PostS.bind p1 fun v2 S2 w2 F2 loc2 H2 n2 r2 p2 => ?_⟩⟩
    obtain ⟨q1, _⟩ := (r0.next n).next n2
    split at p2
    · rename_i pk pd kvs hx
      split at p2
      · rename_i k hk
        cases tkey_eq hk
        split at p2
        · rename_i hz
          obtain ⟨us, e2, rl⟩ := n2.sim.ob l _ hx
          obtain ⟨bk, rfl, f, eb⟩ := rp_key (show Rp _ _ _ w2 _ from r2)
          refine ⟨loc2 l, _, q1, DPut.t e2 eb (by rw [rl.length]; exact hz), ?_⟩
          have rv := r.next n2
          have n3 := Nxt.put (u := .dT (putK us k w)) n2.sim hx rfl (o' := .dic (putT kvs (.tuple (k.map keyD)) k pd)) fun S' H' kp len e =>
            ⟨_, e, putT_rp (RpT.mono (fun _ f => f) kp rl) (Rp.mono (fun _ f => f) kp (show Rp G.K F2 H2 w pd from rv))⟩
          exact p2 _ _ _ _ n3 (((hE.next n).next n2).next n3)
        · exact False.elim p2
      · exact False.elim p2
    · exact False.elim p2
  · exact False.elim p
end

/-! sorted(d.values()) -/
section
variable {prog : Program} {w : World} {A : Around} {E : Value → Shared → Prop} {s : Shared}
theorem meetsVals {d : Addr} {es : Array DictEntry} {ep : Nat} (hd : (d == sysModules) = false) :
    MeetsIn prog w (Builtin.«dict.values» ⟨[.ref d], []⟩) (fun _ R s => DT.Raw s.heap d es ep ∧
      R (.ok (.ret (.ref s.heap.objs.size))) { s with heap := s.heap.push { cls := .type "dict_values", data := .fields #[.ref d] } }) :=
  .of_wp fun A R s ⟨hm, h⟩ => by
    unfold Builtin.«dict.values»
    refine wpAny_bind ?_
    unfold Builtin.Dict.noArgs
    refine wpAny_bind (wpAny_notOrdered_dict hm.typeIs ?_)
    show wpAny _ _ (pure d) _ _ s
    refine wpAny_pure ?_
    show wpAny _ _ (Builtin.Dict.showsAll d >>= _) _ _ s
    unfold Builtin.Dict.showsAll
    rw [if_neg (by rw [hd]; exact Bool.false_ne_true)]
    refine wpAny_bind (wpAny_pure ?_)
    exact wpAny_bind (wpAny_newObj_type (wpAny_pure ⟨_, rfl, h⟩))
theorem callVals {d : Addr} {es : Array DictEntry} {ep : Nat} {Q : Value → Shared → Prop} (hd : (d == sysModules) = false) (hm : DT.Raw s.heap d es ep)
    (h : Q (.ref s.heap.objs.size) { s with heap := s.heap.push { cls := .type "dict_values", data := .fields #[.ref d] } }) : wpAny (model prog w) A (call (.builtin "dict.values") [.ref d]) Q E s :=
  call_meetsIn PySem.F.slot_dict_values hm.typeIs PySem.F.entry_dict_values (PySem.F.args_dict_values_1 _) (meetsVals (es := es) (ep := ep) hd) ⟨hm, h⟩
theorem kdu_sortedF {T : String} {r d : Addr} {n : Nat} {P : Nat → Value → Prop} {OK : Heap → Prop} {Q : Value → Shared → Prop} (K : PySem.W.KdlSrc prog w T r d n P OK) (hh : A.handled = none) (hok : OK s.heap) (hn : n ≤ sizeLine)
    (h : ∀ (h' : Heap) (tk : Nat) (vs : List Value), (∀ b o, s.heap.get? b = some o → h'.get? b = some o) → vs.length = n → (∀ (j : Nat) (v : Value), vs[j]? = some v → P j v) →
      wpAny (model prog w) A.in1 (call (.builtin "list.sort") [.ref h'.objs.size]) (fun _ s' => Q (.ref h'.objs.size) s') E { s with heap := h'.push { cls := .type "list", data := .seq vs.toArray }, toks := tk }) :
    wpAny (model prog w) A (call (.builtin "sorted") [.ref r]) Q E s := by
  refine call_function_entry PyProof.Rows.kind_sorted PyProof.Rows.plain_sorted PyProof.Rows.entry_sorted (PyProof.Rows.args_sorted1 _) ?_
  unfold Builtin.«sorted»
  refine wpAny_bind (m := checkCount "sorted" 1 1 _) (wpAny_pure ?_)
  refine wpAny_bind (PySem.W.kdu_collect (A := A.in1) K hh hok hn fun h' tk acc hk hacc => ?_)
  have hl : acc.toList.length = n := by rw [Array.length_toList]; exact hacc.1
  refine wpAny_bind (wpAny_newList ?_ (by rw [hl]; exact hn))
  have hg := h h' tk acc.toList hk hl (fun j v e => hacc.2 j v (by rw [← Array.getElem?_toList]; exact e))
  refine wpAny_bind (wpAny_holding (wpAny_mono hg (fun _ s' x => ?_) fun _ _ e => e))
  exact wpAny_pure ⟨_, rfl, x⟩
end

theorem readsAll_ints {h : Heap} : ∀ {ns : List Int} {vs : List Value} {as : List Addr}, ReadsAll h vs (ns.map .int) as → as = []
  | [], _, _, h => by
    cases h
    rfl
  | n :: ns, _, _, h => by
    cases h with
    | cons h1 h2 =>
      cases h1
      rw [readsAll_ints h2]
      rfl
theorem reads_row {h : Heap} {b : List Int} {u : Value} {as : List Addr} (r : Reads h u (encR b) as) : as = [] := by
  cases r with
  | tuple _ _ _ h4 => exact readsAll_ints h4
theorem kt_vals {H : Hp} : ∀ {us : List (List Key × V)} {xs : List (List Key × Addr × Value)}, KT H us xs → Vals (us.map (·.2)) (xs.map (·.2.2))
  | [], _, .nil => .nil
  | _ :: _, _, .cons h l => .cons h.2.2 (kt_vals l)
section
variable {X : Cx} {G : GC} {W : WX} {cf : CallF} {pos : Pos}
theorem F_dvs {j : Nat} {x : Str} {p p1 apos cpos : Pos} (hK : G.K = X.K) (hc : X.calm = true) (hr : X.A.units + 200 < cLine) (hg : Gl X "sorted") (hm : X.mg "sorted" = none)
    (hN : X.N[j]? = some x) (hv : Vis X.env.scope x) (hd : (x == ("__debug__" : Str)) = false) (hcd : (x == ("__classdict__" : Str)) = false)
    (base : attributeBase (.Name x p1) "values" X.env (eval (.Name x p1) X.env) = eval (.Name x p1) X.env) (line : (apos.endLine == cpos.line) = true) :
    PE X (.Call (.Name "sorted" p) [.Call (.Attribute (.Name x p1) "values" apos) [] [] cpos] [] pos) (rdF G W cf (.dvs j)) := by
  refine ⟨fun pins st σ H Q I h => ?_⟩
  obtain ⟨F, loc, s, S, hS, hE, p⟩ := h
  simp only [evE] at p
  split at p
  case h_2 => exact False.elim p
  rename_i l hi
  obtain ⟨w0, h1, rfl, hl⟩ := hE.at_ j _ hi
  split at p
  case h_2 => exact False.elim p
  rename_i kvs hy
  obtain ⟨us, e1, rl⟩ := hS.ob l _ hy
  unfold sortP at p
  cases hrs : rowsInt (kvs.map (·.2)) with
  | none =>
    rw [hrs] at p
    exact False.elim p
  | some rs =>
  rw [hrs] at p
  simp only [Option.bind_some] at p
  split at p
  case isFalse => exact False.elim p
  rename_i hne
  have rv := rl.vals
  rw [rows_eq hrs] at rv
  obtain ⟨hz, hsm, xs, rel, dd⟩ := dt_of I.hok e1
  refine Call_ (ld_blt I hg hm rfl ?_)
  refine PyProof.Rows.callWith_builtin1 (PyProof.Rows.args_cons ?_ rfl) rfl rfl
  refine wpAny_Call_method base rfl line PySem.F.plainAttrs_dict PySem.F.slot_dict_values PySem.F.type_dict_values (thn ((pe_var hN hv hd hcd).run pins st σ H (fun v H' => v = .ref (loc l) ∧ H' = H) I ⟨_, h1, rfl, rfl⟩) fun u s1 ⟨x, H1, I1, rx, ex, eH⟩ => ?_)
  subst ex eH
  obtain rfl : u = Value.ref (loc l) := rx
  obtain ⟨_, _, xs, rel, dd⟩ := dt_of I1.hok e1
  obtain ⟨t1, t2, _⟩ := isD_at I1 (.inr ⟨us, .inl e1⟩)
  refine ⟨t1, t2, ?_⟩
  obtain ⟨es, ep, raw, hsz, hes⟩ := dd.raw
  refine PyProof.Rows.callWith_method0 (first := [.ref (loc l)]) (callVals hsm raw ?_)
  refine PyProof.Rows.args_nil ?_
  have I2 : Inv X pins σ H1 { s1 with heap := s1.heap.push { cls := .type "dict_values", data := .fields #[.ref (loc l)] } } := I1.kept (t' := s1.toks) fun b o e => Heap.get?_push_of_some _ e
  refine kdu_sortedF (PySem.KdlSrc.rawValues (r := s1.heap.objs.size) (d := loc l) (es := es) (ep := ep)) (I2.ok.hd hc) ⟨⟨_, Heap.get?_push_size _ rfl, rfl, rfl⟩, raw.push _⟩ (by rw [hsz, ← rel.length]; exact hz) fun h' tk vs hk hlv hp => ?_
  have hvs : vs = xs.map (·.2.2) := by
    apply List.ext_getElem?
    intro i
    rw [List.getElem?_map]
    cases q : vs[i]? with
    | none =>
      have := List.getElem?_eq_none_iff.mp q
      rw [List.getElem?_eq_none (by omega)]
      rfl
    | some v =>
      obtain ⟨hi2, rfl⟩ := hp i v q
      obtain ⟨y, h3, _, h4, _⟩ := hes i hi2
      rw [h3, h4]
      rfl
  have rvals : Vals (us.map (·.2)) vs := by
    rw [hvs]
    exact kt_vals rel
  have ee := rows_each rv rvals
  have ho : (h'.push { cls := .type "list", data := .seq vs.toArray }).get? h'.objs.size = some (seqObj "list" vs.toArray 0) := Heap.get?_push_size _ rfl
  have kp : ∀ b o, s1.heap.get? b = some o → (h'.push { cls := .type "list", data := .seq vs.toArray }).get? b = some o := fun b o e => Heap.get?_push_of_some _ (hk b o (Heap.get?_push_of_some _ e))
  have I3 : Inv X pins σ H1 { s1 with heap := h'.push { cls := .type "list", data := .seq vs.toArray }, toks := tk } := I1.kept kp
  have er : PySem.W.EachIs (fun u b => ∃ as, Reads (h'.push { cls := .type "list", data := .seq vs.toArray }) u (encR b) as ∧ h'.objs.size ∉ as) vs rs := ee.mono fun u b ⟨w, q, rr⟩ => by
    obtain ⟨as, z⟩ := Dp.reads I3 _ _ _ (by rw [← hK]; exact rr.dp (noD b)) q
    exact ⟨as, z, by rw [reads_row z]; exact List.not_mem_nil⟩
  have hal : PySem.W.AllAlike (rs.map encR) := by
    intro d hd d' hd'
    obtain ⟨b, _, rfl⟩ := List.mem_map.mp hd
    obtain ⟨b', _, rfl⟩ := List.mem_map.mp hd'
    exact alike_enc b b'
  have hso : PySem.W.Sortable (rs.map encR) := by
    refine .inl fun d hd => ?_
    obtain ⟨b, hb, rfl⟩ := List.mem_map.mp hd
    have := List.all_eq_true.mp hne b hb
    cases b with
    | nil => cases this
    | cons y z => exact ⟨_, _, rfl⟩
  have hrl : rs.length ≤ sizeLine := by
    have := rv.length
    rw [List.length_map, List.length_map] at this
    rw [← this]
    exact hz
  refine PySem.W.list_sort_data (enc := encR) ho ee er hal hso hrl (fun b _ => by have := depR b; show X.A.units + 1 + 1 + _ < _; omega) fun out hout eo => ?_
  rw [merge_sort] at eo
  obtain ⟨ws, q1, q2⟩ := each_rows eo
  obtain ⟨c, hc2⟩ := sortedHeap_at (vs := vs) (out := out.toArray) ho
  have hlen : ws.length ≤ sizeLine := by
    rw [q1.length, List.length_map, (sort_perm HT.lexLt rs).length_eq]
    exact hrl
  have le : s1.heap.objs.size ≤ h'.objs.size := Nat.le_of_lt (Heap.lt_size (hk _ _ (Heap.get?_push_size s1.heap rfl)))
  have hH := I1.hok.fresh le
  exact ⟨.ref _, upd H1 h'.objs.size (.lst ws), I1.laid (t' := tk) (fun b o e => (sortedHeap_old (Nat.ne_of_lt (Nat.lt_of_lt_of_le (Heap.lt_size e) le)) (Heap.lt_size (kp b o e))).trans (kp b o e)) le ⟨hlen, out, c, q2, hc2⟩, rfl, p _ _ _ _ (Nxt.lay hS hH) (FrR.new hS q1 hH (.inl hH))⟩
end
end IP
namespace IP
open PySem PySem.Calls PySem.Spec PyProof.Rows L2

/-! ### a dict with one pair whose key is a tuple -/
noncomputable def tDispT (tk tv : TE) : TE := fun σ H Q => ∀ p, H p = none → tPairs [(tk, tv)] σ (upd H p (.dT [])) fun ps H2 => H2 p = some (.dT []) ∧ ∃ (b : Addr) (k : List Key) (y : V), ps = [(.ref b, y)] ∧ H2 b = some (.tup (k.map kV)) ∧ Q (.ref p) (upd H2 p (.dT [(k, y)]))
theorem pe_dispT {X : Cx} {pos : Pos} {ke e : Expr} {tk tv : TE} (hu : X.A.units + 1 < cLine) (hk : PE X ke tk) (hv : PE X e tv) : PE X (.Dict [some ke] [e] pos) (tDispT tk tv) := by
  refine ⟨fun pins s σ H Q I q => ?_⟩
  have hn := I.hok.fresh (Nat.le_refl s.heap.objs.size)
  have I1 := I.laid (a := s.heap.objs.size) (o := .dT []) (h' := s.heap.push { cls := .type "dict", data := .dict #[] }) (t' := s.toks) (fun _ _ q => Heap.get?_push_of_some _ q) (Nat.le_refl _) (dt_empty s.heap I.big)
  have P : PPs X pos [some ke] [e] [(tk, tv)] := pps_cons hk hv pps_nil
  have hl := pairTrees_length [some ke] [e] X.env pos rfl rfl
  have h0 : pairTrees [some ke] [e] X.env pos ≠ [] := by
    intro he
    rw [he] at hl
    cases hl
  have hs := zip_pairTrees [some ke] [e] X.env pos rfl rfl
  rw [arm_eval_Dict, hs, dictDisplay_pairs _ h0 (by rw [hl]; simp)]
  refine wpAny_bind (wpAny_standAt (wpAny_bind (wpAny_subDictH (knd := tupleKind (mixKind X.prog X.w)) (show X.A.units < cLine by omega) (by rw [hl]; simp) (thn (P.run pins _ σ _ _ I1 (q _ hn)) fun ws s2 ⟨ps, H2, I2, rel, e2, b, k, y, ep, eb, q2⟩ => ?_))))
  subst ep
  cases rel with
  | @cons p0 q0 as bs h t =>
    cases t
    obtain ⟨u, r⟩ := q0
    obtain ⟨b1, b2⟩ := h
    cases (show u = Value.ref b from b1)
    obtain ⟨z, hd, xs, r0, dd⟩ := dt_of I2.hok e2
    cases r0
    refine ⟨[(k, b, r)], ⟨rfl, rfl, key_of I2.hok eb, trivial⟩, dd, fun h' tk' dd' hs' => wpAny_pure ⟨.ref s.heap.objs.size, _, ?_, rfl, q2⟩⟩
    have hl1 : (putK ([] : List (List Key × V)) k y).length ≤ sizeLine := by
      show 1 ≤ sizeLine
      rw [sizeLine_eq]
      omega
    have rel1 : KT H2 [] [] := .nil
    obtain ⟨o, es, ep, hq, h2, h3, h4, _, h5⟩ := dd'
    refine d_write I2 (by rw [e2]; exact True.intro) hs' ⟨o, hq⟩ ⟨hl1, hd, _, (rel1.put k eb b2).keeps fun c ys ec => ?_, o, es, ep, hq, h2, h3, h4, h5⟩
    rw [upd_ne (ne_of ec e2 (fun z => nomatch z))]
    exact ec
section
variable {X : Cx} {G : GC} {W : WX} {cf : CallF} {a b c e ke : Expr} {ik ie : IE} {pos : Pos} {k : List Key}
theorem E_dic1T (hu : X.A.units + 1 < cLine) (hk : PE X ke (rdE G W cf ik)) (hik : ∀ s S, evE cf ik s S = .ok (.dat (.tuple (k.map keyD))) S) (hv : PE X e (rdE G W cf ie)) : PE X (.Dict [some ke] [e] pos) (rdE G W cf (.dic1 (.tuple (k.map keyD)) ie)) := by
  refine PEmon (pe_dispT hu hk hv) ?_
  rintro t H Q ⟨F, loc, s, S, hS, hE, p⟩
  simp only [evE] at p
  intro q hq
  have n0 := Nxt.lay (o := .dT []) hS hq
  have h0 : ¬ F q := fun f => hS.dom q f hq
  have h1 : ∀ l o, S[l]? = some o → alive o = true → loc l ≠ q := fun l o e al z => (hS.ob l o e).there al (by rw [z]; exact hq)
  show rdE G W cf ik t (upd H q (.dT [])) _
  refine ⟨F, loc, s, S, n0.sim, hE.next n0, ?_⟩
  rw [hik]
  intro wk F0 loc0 H0 nk rk
  obtain ⟨bk, rfl, fb, hb⟩ := rp_key (show Rp G.K F0 H0 wk _ from rk)
  show rdE G W cf ie t H0 _
  refine ⟨F0, loc0, s, S, nk.sim, (hE.next n0).next nk, ?_⟩
  cases qe : evE cf ie s S with
  | err => rw [qe] at p; exact p
  | exc c fs S' => rw [qe] at p; exact fun cv d F' loc' H' m r => p cv d F' loc' H' ((n0.trans nk).trans m) r
  | ok v S1 =>
    rw [qe] at p
    intro w F1 loc1 H1 n1 r
    have nn := nk.trans n1
    obtain ⟨a1, a2, a3⟩ := nn.apart (a := q) upd_same (fun _ z => (by cases z)) h0 h1
    refine ⟨a1, bk, k, w, rfl, n1.keep _ _ fb hb, ?_⟩
    have n := n0.trans nn
    simp only [Out.bind_ok] at p
    split at p
    · rename_i d
      have r : Rp G.K F1 H1 w d := r
      have n3 := (n.priv (a := q) (o := .dT [(k, w)]) (.inl hq) a2 a3 a1 (solidN (fun _ z => (by cases z)) (fun _ z => (by cases z))) (solidN (fun _ z => (by cases z)) (fun _ z => (by cases z)))).keepsF (a := q) (.inl hq) ⟨_, upd_same, (solidN (fun _ z => (by cases z)) (fun _ z => (by cases z)))⟩ a3
      have kp : ∀ a o, F1 a → H1 a = some o → upd H1 q (.dT [(k, w)]) a = some o := fun a o f e => by
        rw [upd_ne (fun z => a2 (by rw [← z]; exact f))]
        exact e
      exact p _ _ _ _ n3 (show Rp _ _ _ _ _ from .dit (.inr rfl) upd_same (.cons (Rp.mono (fun _ f => .inl f) kp r) .nil))
    · exact False.elim p
/-! ### or of tuples: a test and a value -/
theorem sli_pure {i : Nat} {n : Int} {s : List (Option Val)} {S : Store} : evE cf (.sli (.var i) .non (.neg (.cst (.int n)))) s S = .err ∨ ∃ d, evE cf (.sli (.var i) .non (.neg (.cst (.int n)))) s S = .ok (.dat d) S := by
  simp only [evE, partO, isNon, if_true, Bool.false_eq_true, if_false, Out.bind_ok]
  split
  · simp only [Out.bind_ok]
    split
    · rename_i p hp
      cases sliP p none (some (-n)) with
      | none => exact .inl rfl
      | some d => exact .inr ⟨d, rfl⟩
    · exact .inl rfl
  · exact .inl rfl
theorem ev_orv {s : List (Option Val)} {S : Store} (hp : evE cf ia s S = .err ∨ ∃ d, evE cf ia s S = .ok (.dat d) S) :
    evE cf (.ite (.cmp .gt (.bf .len [.bin .add ia (.tup [])]) (.cst (.int 0))) ia ib) s S = (evE cf ia s S).bind fun v S1 => match v with
      | .dat (.tuple xs) => if xs.length ≤ sizeLine then (if 0 < xs.length then .ok (.dat (.tuple xs)) S1 else evE cf ib s S1) else .err
      | _ => .err := by
  have z0 : (0 : Nat) ≤ sizeLine := Nat.zero_le _
  have b1 : ∀ {a b : IE}, evE cf (.bin .add a b) s S = (evE cf a s S).bind fun x S1 => (evE cf b s S1).bind fun y S2 => match lookO .add S2 x, lookO .add S2 y with
      | some p, some q => optD (binP .add p q) S2
      | _, _ => .err := by
    intro a b
    simp only [evE] <;> rfl
  have b2 : evE cf (.tup []) s S = .ok (.dat (.tuple [])) S := by
    simp only [evE, evL, Out.bind_ok, dats, z0, if_true, List.length_nil]
  have b3 : ∀ {a : IE} {p : PyData}, evE cf a s S = .ok (.dat p) S → evE cf (.bf .len [a]) s S = optD (bfP .len [p]) S := by
    intro a p h
    simp only [evE, evL, h, Out.bind_ok]
    rfl
  have b4 : ∀ {a : IE}, evE cf a s S = .err → evE cf (.bf .len [a]) s S = .err := by
    intro a h
    simp only [evE, evL, h, Out.bind_err]
  have b5 : ∀ {a b : IE} {i : Int}, evE cf a s S = .ok (.dat (.int i)) S → evE cf b s S = .ok (.dat (.int 0)) S → evE cf (.cmp .gt a b) s S = .ok (.dat (.bool (decide (0 < i)))) S := by
    intro a b i h1 h2
    simp only [evE, h1, h2, Out.bind_ok]
    rfl
  have b6 : ∀ {a b : IE}, evE cf a s S = .err → evE cf (.cmp .gt a b) s S = .err := by
    intro a b h
    simp only [evE, h, Out.bind_err]
  have b7 : ∀ {c a b : IE}, evE cf c s S = .err → evE cf (.ite c a b) s S = .err := by
    intro c a b h
    simp only [evE, h, Out.bind_err]
  have b8 : ∀ {c a b : IE} {t : Bool}, evE cf c s S = .ok (.dat (.bool t)) S → evE cf (.ite c a b) s S = if t = true then evE cf a s S else evE cf b s S := by
    intro c a b t h
    simp only [evE, h, Out.bind_ok]
    cases t <;> rfl
  have b9 : evE cf (.cst (.int 0)) s S = .ok (.dat (.int 0)) S := by simp only [evE]
  rcases hp with h | ⟨d, h⟩
  · rw [b7 (b6 (b4 (by rw [b1, h, Out.bind_err]))), h, Out.bind_err]
  · have e1 : evE cf (.bin .add ia (.tup [])) s S = optD (binP .add d (.tuple [])) S := by
      rw [b1, h, Out.bind_ok, b2, Out.bind_ok]
      rfl
    have no : binP .add d (.tuple []) = none → evE cf (.ite (.cmp .gt (.bf .len [.bin .add ia (.tup [])]) (.cst (.int 0))) ia ib) s S = .err := fun n => b7 (b6 (b4 (by rw [e1, n]; rfl)))
    cases d with
    | none => rw [no rfl, h]; rfl
    | bool _ => rw [no rfl, h]; rfl
    | int _ => rw [no rfl, h]; rfl
    | str _ => rw [no rfl, h]; rfl
    | list _ => rw [no rfl, h]; rfl
    | dict _ => rw [no rfl, h]; rfl
    | tuple xs =>
      have e2 : binP .add (.tuple xs) (.tuple []) = if xs.length ≤ sizeLine then some (.tuple xs) else none := by
        have : binP .add (.tuple xs) (.tuple []) = if xs.length + ([] : List PyData).length ≤ sizeLine then some (.tuple (xs ++ [])) else none := rfl
        rw [this, List.append_nil, List.length_nil, Nat.add_zero]
      rw [h, Out.bind_ok]
      by_cases hz : xs.length ≤ sizeLine
      · have e3 : evE cf (.bin .add ia (.tup [])) s S = .ok (.dat (.tuple xs)) S := by
          rw [e1, e2, if_pos hz]
          rfl
        have e4 : evE cf (.bf .len [.bin .add ia (.tup [])]) s S = .ok (.dat (.int (xs.length : Int))) S := by
          rw [b3 e3]
          rfl
        rw [b8 (b5 e4 b9), h]
        show _ = if xs.length ≤ sizeLine then (if 0 < xs.length then Out.ok (Val.dat (.tuple xs)) S else evE cf ib s S) else .err
        rw [if_pos hz]
        by_cases h0 : 0 < xs.length
        · rw [if_pos h0, if_pos (decide_eq_true (by omega))]
        · rw [if_neg h0, if_neg (by rw [decide_eq_false (by omega)]; simp)]
      · rw [b7 (b6 (b4 (by rw [e1, e2, if_neg hz]; rfl)))]
        show _ = if xs.length ≤ sizeLine then (if 0 < xs.length then Out.ok (Val.dat (.tuple xs)) S else evE cf ib s S) else .err
        rw [if_neg hz]
theorem E_orv {x y : Expr} (ha : PE X x (rdE G W cf ia)) (hb : PE X y (rdE G W cf ib)) (hp : ∀ s S, evE cf ia s S = .err ∨ ∃ d, evE cf ia s S = .ok (.dat d) S) :
    PE X (.BoolOp .Or [x, y] pos) (rdE G W cf (.ite (.cmp .gt (.bf .len [.bin .add ia (.tup [])]) (.cst (.int 0))) ia ib)) := by
  refine PEmon (pe_orT ha (pe_one hb)) ?_
  rintro t H Q ⟨F, loc, s, S, hS, hE, p⟩
  rw [ev_orv (hp s S)] at p
  refine ⟨F, loc, s, S, hS, hE, Post.bind p fun v S1 w F1 loc1 H1 n r p1 => ?_⟩
  split at p1
  · rename_i xs
    have r : Rp G.K F1 H1 w (.tuple xs) := r
    cases r with
    | @tup b us _ f e l =>
      have tv : TruV X.K (.ref b) H1 (!us.isEmpty) := .inr (.inl ⟨us, .inl (.inl e), rfl⟩)
      have ll := l.length
      split at p1
      · split at p1
        · rename_i h0
          have hu : us.isEmpty = false := by
            cases us with
            | nil => simp at ll; omega
            | cons u us => rfl
          rw [hu] at tv
          refine ⟨true, tv, ?_⟩
          rw [if_pos rfl]
          exact p1 _ _ _ _ (.refl n.sim) (show Rp _ _ _ _ _ from .tup f e l)
        · rename_i h0
          have hu : us.isEmpty = true := by
            cases us with
            | nil => rfl
            | cons u us => simp at ll; omega
          rw [hu] at tv
          refine ⟨false, tv, ?_⟩
          rw [if_neg (by simp)]
          exact ⟨F1, loc1, s, S1, n.sim, hE.next n, p1⟩
      · exact False.elim p1
  · exact False.elim p1
noncomputable def orvB : IE → IE → Bool
  | .cmp .gt (.bf .len [.bin .add (.sli (.var i) .non (.neg (.cst (.int n)))) (.tup [])]) (.cst (.int z)), .sli (.var j) .non (.neg (.cst (.int m))) => decide (i = j) && decide (n = m) && decide (z = 0)
  | _, _ => false
theorem orvB_is {c a : IE} (h : orvB c a = true) : ∃ (i : Nat) (n : Int), a = .sli (.var i) .non (.neg (.cst (.int n))) ∧ c = .cmp .gt (.bf .len [.bin .add a (.tup [])]) (.cst (.int 0)) := by
  unfold orvB at h
  split at h
  · simp only [Bool.and_eq_true, decide_eq_true_eq] at h
    obtain ⟨⟨rfl, rfl⟩, rfl⟩ := h
    exact ⟨_, _, rfl, rfl⟩
  · cases h
end
end IP
namespace IP
open PySem PySem.Calls PySem.Spec PyProof.Rows L2

/-! ### sorted(set(xs)), xs a list of tuples of ints -/
theorem reads_ints {h : Heap} : ∀ {ns : List Int} {vs : List Value}, IntsAre vs ns → ReadsAll h vs (ns.map .int) []
  | [], _, r => by
    cases r
    exact .nil
  | n :: ns, _, r => by
    cases r with
    | cons r1 r2 r3 => exact ReadsAll.cons (as := []) (bs := []) (Reads.int _ _) (reads_ints (by assumption))
theorem reads_tup {h : Heap} {v : Value} {ns : List Int} (x : TS.TupInts h v ns) : Reads h v (encR ns) [] := by
  obtain ⟨b, xs, rfl, ⟨o, ho, hc, n, hd⟩, i⟩ := x
  exact Reads.tuple ho hc hd (reads_ints i)
theorem each_perm {L1 : List (Addr × List Int)} {L : List (Addr × List Int)} : (∀ q ∈ L1, q ∈ L) → PySem.W.EachIs (fun (u : Value) (r : List Int) => ∃ q ∈ L, u = Value.ref q.1 ∧ q.2 = r) (L1.map fun q => Value.ref q.1) (L1.map (·.2)) := by
  induction L1 with
  | nil => exact fun _ => .nil
  | cons q L1 ih => exact fun h => .cons ⟨q, h q List.mem_cons_self, rfl, rfl⟩ (ih fun r hr => h r (List.mem_cons_of_mem _ hr))
section
variable {P : Program} {w : World} {A : Around} {E : Value → Shared → Prop} {s : Shared}
theorem sorted_setR {a : Addr} {L : List (Addr × List Int)} {es : Array (Int × Value)} {ep : Nat} {t : SetTable} {Q : Value → Shared → Prop} (R : SetTR P w s.heap a L es ep t) (hh : A.handled = none)
    (hne : ∀ p ∈ L, p.2 ≠ []) (hu : A.units + 100 < cLine)
    (hQ : ∀ s' p (out : List Value) (c : Nat) (L1 : List (Addr × List Int)), (∀ b o, s.heap.get? b = some o → s'.heap.get? b = some o) → s'.gens = s.gens → s'.os = s.os → s.heap.objs.size ≤ p →
      s'.heap.get? p = some (seqObj "list" (List.toArray out) c) → L1.Perm L → PySem.W.EachIs (fun (u : Value) (r : List Int) => ∃ q ∈ L, u = Value.ref q.1 ∧ q.2 = r) out (sortBy HT.lexLt (L1.map (·.2))) → Q (.ref p) s') :
    wpAny (model P w) A (call (.builtin "sorted") [.ref a]) Q E s := by
  obtain ⟨o, ho, hex, hd⟩ := R.ob
  have hsz := R.size
  have hfew := R.few
  refine Calls.call_function_entry PyProof.Rows.kind_sorted PyProof.Rows.plain_sorted PyProof.Rows.entry_sorted (PyProof.Rows.args_sorted1 _) ?_
  unfold Builtin.«sorted»
  refine wpAny_bind (m := checkCount "sorted" 1 1 _) (wpAny_pure ?_)
  refine wpAny_bind (collect_set (A := A.in1) hh ⟨o, ho, hex.1, hd⟩ R.fits (by unfold scanBound; omega) R.tab.ris R.led fun s1 vs k1 hz g1 o1 pm => ?_)
  have hes : es.toList.map (·.2) = L.map fun q => Value.ref q.1 := by
    rw [R.rows]
    unfold rowsOf
    rw [List.map_map] <;> rfl
  rw [hes] at pm
  have ord : ∀ vs : List Value, (∀ v ∈ vs, ∃ q ∈ L, v = Value.ref q.1) → ∃ L1 : List (Addr × List Int), vs = L1.map (fun q => Value.ref q.1) ∧ ∀ q ∈ L1, q ∈ L := by
    intro vs
    induction vs with
    | nil => intro _; exact ⟨[], rfl, fun q hq => (by cases hq)⟩
    | cons v vs ih =>
      intro hv
      obtain ⟨q, hq, e⟩ := hv v List.mem_cons_self
      obtain ⟨L1, e1, hs⟩ := ih fun u hu => hv u (List.mem_cons_of_mem _ hu)
      refine ⟨q :: L1, by rw [List.map_cons, e, e1], fun r hr => ?_⟩
      rcases List.mem_cons.mp hr with z | z
      · rw [z]; exact hq
      · exact hs r z
  have one : ∀ q ∈ L, ∀ r ∈ L, q.1 = r.1 → q = r := fun q hq r hr e => by
    have a1 := R.tup q hq
    have a2 := R.tup r hr
    rw [e] at a1
    have e2 : q.2 = r.2 := a1.inj a2
    exact Prod.ext e e2
  have perm_of : ∀ L1 : List (Addr × List Int), (∀ q ∈ L1, q ∈ L) → (L1.map (fun q => Value.ref q.1)).Perm (L.map fun q => Value.ref q.1) → L1.Perm L := by
    intro L1 hs pm1
    have nL : L.Nodup := nodup_of_map R.nd
    have nref : (L.map fun q => Value.ref q.1).Nodup := by
      refine List.pairwise_map.mpr (List.Pairwise.imp_of_mem (fun {q r} hq hr hne e => ?_) nL)
      injection e with e
      exact hne (one q hq r hr e)
    have n1 : L1.Nodup := nodup_of_map (pm1.nodup_iff.mpr nref)
    refine (List.perm_ext_iff_of_nodup n1 nL).mpr fun q => ⟨hs q, fun hq => ?_⟩
    have hm : Value.ref q.1 ∈ L1.map (fun q => Value.ref q.1) := pm1.mem_iff.mpr (List.mem_map.mpr ⟨q, hq, rfl⟩)
    obtain ⟨r, hr, e⟩ := List.mem_map.mp hm
    injection e with e
    rw [← one r (hs r hr) q hq e]
    exact hr
  have hvl : vs.length < 64 := by rw [pm.length_eq, List.length_map]; exact hfew
  obtain ⟨L1, e1, hs1⟩ := ord vs fun v hv => by
    obtain ⟨q, hq, e⟩ := List.mem_map.mp (pm.mem_iff.mp hv)
    exact ⟨q, hq, e.symm⟩
  have pL : L1.Perm L := perm_of L1 hs1 (by rw [← e1]; exact pm)
  refine wpAny_bind (wpAny_newList ?_ (by rw [sizeLine_eq]; omega))
  have hoL : (s1.heap.push (seqObj "list" vs.toArray 0)).get? s1.heap.objs.size = some (seqObj "list" vs.toArray 0) := Heap.get?_push_size _ rfl
  have ee : PySem.W.EachIs (fun (u : Value) (r : List Int) => ∃ q ∈ L, u = Value.ref q.1 ∧ q.2 = r) vs (L1.map (·.2)) := by
    rw [e1]
    exact each_perm hs1
  have er : PySem.W.EachIs (fun u b => ∃ as, Reads (s1.heap.push (seqObj "list" vs.toArray 0)) u (encR b) as ∧ s1.heap.objs.size ∉ as) vs (L1.map (·.2)) := ee.mono fun u b ⟨q, hq, e1, e2⟩ => by
    rw [e1, ← e2]
    exact ⟨[], reads_tup (tupInts_of (P := P) (w := w) (isT_keep (R.tup q hq) fun b u e => Heap.get?_push_of_some _ (k1 b u e))), List.not_mem_nil⟩
  have hal : PySem.W.AllAlike ((L1.map (·.2)).map encR) := by
    intro d hd d' hd'
    obtain ⟨b, _, rfl⟩ := List.mem_map.mp hd
    obtain ⟨b', _, rfl⟩ := List.mem_map.mp hd'
    exact alike_enc b b'
  have hso : PySem.W.Sortable ((L1.map (·.2)).map encR) := by
    refine .inl fun d hd => ?_
    obtain ⟨b, hb, rfl⟩ := List.mem_map.mp hd
    obtain ⟨q, hq, rfl⟩ := List.mem_map.mp hb
    have := hne q (hs1 q hq)
    cases z : q.2 with
    | nil => exact absurd z this
    | cons x y => exact ⟨_, _, rfl⟩
  have hll : (L1.map (·.2)).length ≤ sizeLine := by
    rw [List.length_map, pL.length_eq, sizeLine_eq]
    omega
  refine wpAny_bind (wpAny_holding (PySem.W.list_sort_data (s := { s1 with heap := s1.heap.push (seqObj "list" vs.toArray 0) }) (enc := encR) hoL ee er hal hso hll (fun b _ => by have := depR b; show A.units + 1 + 1 + _ < _; omega) fun out hout eo => ?_))
  rw [merge_sort] at eo
  obtain ⟨c, hc⟩ := sortedHeap_at (vs := vs) (out := List.toArray out) hoL
  refine wpAny_pure ⟨_, rfl, hQ _ s1.heap.objs.size out c L1 (fun b u e => ?_) g1 o1 hz hc pL eo⟩
  have q := k1 b u e
  have hlt := Heap.lt_size q
  show (sortedHeap (s1.heap.push (seqObj "list" vs.toArray 0)) s1.heap.objs.size vs (List.toArray out)).get? b = some u
  rw [sortedHeap_old (Nat.ne_of_lt hlt) (by rw [size_push']; exact Nat.lt_succ_of_lt hlt)]
  exact Heap.get?_push_of_some _ q
end

theorem uniqR_mem {r : List Int} : ∀ {rs : List (List Int)}, r ∈ uniqR rs ↔ r ∈ rs
  | [] => Iff.rfl
  | q :: rs => by
    unfold uniqR
    by_cases h : q ∈ rs
    · rw [if_pos h, uniqR_mem (rs := rs), List.mem_cons]
      constructor
      · exact .inr
      · rintro (rfl | z)
        · exact h
        · exact z
    · rw [if_neg h, List.mem_cons, List.mem_cons, uniqR_mem (rs := rs)]
theorem uniqR_nodup : ∀ rs : List (List Int), (uniqR rs).Nodup
  | [] => List.nodup_nil
  | q :: rs => by
    unfold uniqR
    by_cases h : q ∈ rs
    · rw [if_pos h]
      exact uniqR_nodup rs
    · rw [if_neg h]
      exact List.nodup_cons.mpr ⟨fun z => h (uniqR_mem.mp z), uniqR_nodup rs⟩
theorem sort_eq {a b : List (List Int)} (h : a.Perm b) : sortBy HT.lexLt a = sortBy HT.lexLt b :=
  List.Perm.eq_of_pairwise (fun _ _ _ _ h1 h2 => leL_anti h1 h2) (sort_sorted a) (sort_sorted b) ((sort_perm HT.lexLt a).trans (h.trans (sort_perm HT.lexLt b).symm))
theorem rows_ks {K : PySem.W.Frag} {F : Addr → Prop} {H : Hp} : ∀ {rs : List (List Int)} {vs : List V}, RpL K F H vs (rs.map encR) → ∃ ks : List (Addr × List Int), vs = ks.map (fun p => V.ref p.1) ∧ ks.map (·.2) = rs ∧ ∀ p ∈ ks, F p.1 ∧ H p.1 = some (.tup (p.2.map V.int))
  | [], _, h => by
    cases h
    exact ⟨[], rfl, rfl, fun _ z => by cases z⟩
  | r :: rs, _, h => by
    cases h with
    | cons h1 h2 =>
      obtain ⟨ks, rfl, e, hk⟩ := rows_ks h2
      have h1 : Rp K F H _ (.tuple (r.map .int)) := h1
      cases h1 with
      | tup f e1 l =>
        rw [RpL.of_ints l] at e1
        refine ⟨(_, r) :: ks, rfl, by rw [List.map_cons, e], fun p hp => ?_⟩
        rcases List.mem_cons.mp hp with rfl | hp
        · exact ⟨f, e1⟩
        · exact hk p hp
noncomputable def tSortSet (K : PySem.W.Frag) (ta : TE) : TE := fun σ H Q => ta σ H fun x H1 => ∃ (l : Addr) (vs : List V) (rs : List (List Int)) (F : Addr → Prop), x = .ref l ∧ SqL K H1 l vs ∧ RpL K F H1 vs (rs.map encR) ∧ (∀ r ∈ rs, r ≠ []) ∧ rs.length < 64 ∧
  ∀ ws q, RpL K F H1 ws ((sortBy HT.lexLt (uniqR rs)).map encR) → H1 q = none → Q (.ref q) (upd H1 q (.lst ws))
section
variable {X : Cx} {a : Expr} {pos : Pos}
theorem pe_sortSet {ta : TE} {p p2 q : Pos} (hg : Gl X "sorted") (hm : X.mg "sorted" = none) (hg2 : Gl X "set") (hm2 : X.mg "set" = none) (ha : PE X a ta) (hc : X.calm = true) (hr : X.A.units + 200 < cLine)
    (na : starEach [a] X.env = (false, eval a X.env) :: starEach [] X.env) : PE X (.Call (.Name "sorted" p) [.Call (.Name "set" p2) [a] [] q] [] pos) (tSortSet X.K ta) := by
  refine ⟨fun pins s σ H Q I h => ?_⟩
  refine Call_ (ld_blt I hg hm rfl ?_)
  refine PyProof.Rows.callWith_builtin1 (PyProof.Rows.args_cons ?_ rfl) rfl rfl
  refine Call_ (ld_blt I hg2 hm2 boot_set ?_)
  refine PyProof.Rows.callWith_type1 (PyProof.Rows.args_cons (thn (ha.run pins s σ H _ I h) fun v s1 ⟨x, H1, I1, r1, q1⟩ => PyProof.Rows.args_nil ?_) na) na rfl
  obtain ⟨l, vs, rs, F, rfl, hq, rp, hne, hl, q1⟩ := q1
  cases r1
  obtain ⟨its, rv, pl, hz⟩ := I1.list hq
  obtain ⟨ks, rfl, rfl, hk⟩ := rows_ks rp
  rw [List.length_map] at hl
  refine call_set_tups (P := X.prog) (w := X.w) ks (I1.ok.hd hc) pl.isList (by simpa using refs_of_vals rv) (fun p hp => I1.isT (.inl (.inl (hk p hp).2))) hl (by omega) fun h' tk L es ep t R g k => ?_
  refine PyProof.Rows.args_nil ?_
  have I2 : Inv X pins σ H1 { s1 with heap := h', toks := tk } := I1.kept k
  have sub : ∀ q ∈ L, q ∈ ks := fun q hq => List.mem_of_mem_take (g.sub q hq)
  have all : ∀ q ∈ ks, q.2 ∈ L.map (·.2) := fun q hq => g.all q (by rw [List.take_length]; exact hq)
  refine sorted_setR (P := X.prog) (w := X.w) (s := { s1 with heap := h', toks := tk }) R (I2.ok.hd hc) (fun p hp => hne p.2 (List.mem_map.mpr ⟨p, sub p hp, rfl⟩)) (by omega) fun s' p out c L1 k' g' o' hp hg' pm eo => ?_
  have ep : (L1.map (·.2)).Perm (uniqR (ks.map (·.2))) := by
    have nd : (L1.map (·.2)).Nodup := ((pm.map (·.2)).nodup_iff).mpr R.nd
    refine (List.perm_ext_iff_of_nodup nd (uniqR_nodup _)).mpr fun r => ?_
    rw [uniqR_mem, (pm.map (·.2)).mem_iff]
    constructor
    · intro z
      obtain ⟨q, hq, rfl⟩ := List.mem_map.mp z
      exact List.mem_map.mpr ⟨q, sub q hq, rfl⟩
    · intro z
      obtain ⟨q, hq, rfl⟩ := List.mem_map.mp z
      exact all q hq
  rw [sort_eq ep] at eo
  have ee : PySem.W.EachIs (fun u r => ∃ w, RelV w u ∧ Rp X.K F H1 w (encR r)) out (sortBy HT.lexLt (uniqR (ks.map (·.2)))) := eo.mono fun u r ⟨q, hq, e1, e2⟩ => by
    rw [e1, ← e2]
    exact ⟨.ref q.1, rfl, .tup (hk q (sub q hq)).1 (hk q (sub q hq)).2 (RpL.ints q.2)⟩
  obtain ⟨ws, q2, q3⟩ := each_rows ee
  have hlen : ws.length ≤ sizeLine := by
    rw [q2.length, List.length_map, (sort_perm HT.lexLt _).length_eq, ← ep.length_eq, List.length_map, pm.length_eq, sizeLine_eq]
    have := R.few
    omega
  have hn : H1 p = none := I2.hok.fresh hp
  have J : Inv X pins σ (upd H1 p (.lst ws)) { s1 with heap := s'.heap, gens := s'.gens, drawn := s'.drawn, toks := s'.toks } :=
    Inv.call (s := { s1 with heap := h', toks := tk }) (ch := []) I2 (Un.laid k' hp hn) (I2.hok.laid k' hp ⟨hlen, out, c, q3, hg'⟩) (by rw [g']; exact I2.bare) (fun _ z => nomatch z)
  have e : s' = { s1 with heap := s'.heap, gens := s'.gens, drawn := s'.drawn, toks := s'.toks } := by
    cases s'
    cases s1
    cases o'
    rfl
  rw [e]
  exact ⟨.ref p, _, J, rfl, q1 ws p q2 hn⟩
end

/-! max of four ints -/
theorem args_max4 (a b c d : Value) : argsOk "max" ⟨[a, b, c, d], []⟩ := by unfold argsOk; kernel_rfl
section
variable {prog : Program} {w : World} {A : Around} {E : Value → Shared → Prop} {s : Shared}
theorem call_max_four {a b c d : Value} {Q : Value → Shared → Prop}
    (h : wpAny (model prog w) A.in1 (pyIter (.ref s.heap.objs.size)) (fun it s₂ => ∃ I fp wr n P St bt, it = .ref I ∧ Walks prog w A.in1 I fp wr n P St ∧ St 0 s₂.heap ∧ (∀ b ∈ fp, b < s₂.heap.objs.size) ∧ 0 < n ∧ CmpOf prog w A.in1 .Gt P bt ∧
      ∀ v h' tk, P (argBest bt (n - 1)) v → (∀ b o, b ∉ wr → s₂.heap.get? b = some o → h'.get? b = some o) → Q v { s₂ with heap := h', toks := tk }) E
      { s with heap := s.heap.push { cls := .type "tuple", data := .seq #[a, b, c, d] } }) :
    wpAny (model prog w) A (call (.builtin "max") [a, b, c, d]) Q E s := by
  have hname : (toString "max" ++ toString ".loop" : String) = "max.loop" := by decide
  refine call_function_tree F.kind_max F.plain_max F.entry_max (args_max4 _ _ _ _) ?_
  show wpAny _ A.in1 (Builtin.Builtins.bindParams "max" ["key", "default"] 0 ⟨[], []⟩ >>= _) _ _ s
  refine wpAny_bind (wpAny_of_eq (show Builtin.Builtins.bindParams "max" ["key", "default"] 0 ⟨[], []⟩ = pure [none, none] from rfl) ?_)
  show wpAny _ A.in1 (newTuple [a, b, c, d] >>= _) _ _ s
  refine wpAny_bind (wpAny_newObj_type ?_)
  refine wpAny_bind (wpAny_mono h (fun it s₂ h₂ => ?_) fun _ _ e => e)
  obtain ⟨I, fp, wr, n, P, St, bt, rfl, W, hst, hfp, hn, hcmp, hQ⟩ := h₂
  refine wpAny_bind (wpAny_newObj_type ?_)
  have hSf : s₂.heap.objs.size ∉ fp := fun hm => Nat.lt_irrefl _ (hfp _ hm)
  rw [hname]
  refine wpAny_pure ⟨plainId_quiet F.plain_max_loop _, codeAny_max_loop_first W bt hcmp s₂.heap.objs.size hSf hn (W.frame _ _ _ hst fun b _ o e => Heap.get?_push_of_some _ e) (Heap.get?_push_size _ rfl) fun v h' tk hP hk => ?_⟩
  exact hQ v h' tk hP fun b o hbw e => hk b o hbw (Nat.ne_of_lt (Heap.lt_size e)) (Heap.get?_push_of_some _ e)
end
/-- the best of some: its value is the fold -/
theorem argBest_val (f : Nat → Int) : ∀ n, f (argBest (fun i j => decide (f i > f j)) n) = (List.range n).foldl (fun m i => mx2 m (f (i + 1))) (f 0)
  | 0 => rfl
  | n + 1 => by
    have ih := argBest_val f n
    rw [List.range_succ, List.foldl_append]
    show f (if decide (f (n + 1) > f (argBest (fun i j => decide (f i > f j)) n)) = true then n + 1 else argBest (fun i j => decide (f i > f j)) n) = mx2 _ (f (n + 1))
    rw [← ih]
    unfold mx2
    by_cases h : f (n + 1) > f (argBest (fun i j => decide (f i > f j)) n)
    · rw [if_pos (decide_eq_true h), if_pos h]
    · rw [if_neg (by simpa using h), if_neg h]
section
variable {prog : Program} {w : World} {A : Around} {E : Value → Shared → Prop} {s : Shared}
theorem max_four_ints {a b c d : Int} {t u x y : Tok} {Q : Value → Shared → Prop} (hh : A.handled = none)
    (h : ∀ h' tk t', (∀ d o, s.heap.get? d = some o → h'.get? d = some o) → Q (.int (mx2 (mx2 (mx2 a b) c) d) t') { s with heap := h', toks := tk }) :
    wpAny (model prog w) A (call (.builtin "max") [.int a t, .int b u, .int c x, .int d y]) Q E s := by
  have hT : (s.heap.push { cls := .type "tuple", data := .seq #[.int a t, .int b u, .int c x, .int d y] }).IsTuple s.heap.objs.size (intItems #[(a, t), (b, u), (c, x), (d, y)]) := ⟨_, Heap.get?_push_size _ rfl, rfl, 0, by simp [intItems]⟩
  refine call_max_four (wpAny_pyIter_tuple hT ?_)
  have hsz : (s.heap.push { cls := .type "tuple", data := .seq #[.int a t, .int b u, .int c x, .int d y] }).objs.size = s.heap.objs.size + 1 := Heap.size_push ..
  refine ⟨_, [_, s.heap.objs.size], [_], _, _, _, _, rfl, Walks.tuple (A := A.in1) hh _ s.heap.objs.size (by rw [hsz]; exact Nat.ne_of_lt (Nat.lt_succ_self _)) (intItems #[(a, t), (b, u), (c, x), (d, y)]),
    ⟨⟨_, Heap.get?_push_size _ rfl, rfl, rfl⟩, hT.push _⟩, fun d hd => ?_, by simp [intItems], CmpOf.ints_gt (numAt #[(a, t), (b, u), (c, x), (d, y)]) (fun _ _ => intItems_at), fun v h' tk hP hk => ?_⟩
  · show d < ((s.heap.push _).push _).objs.size
    rw [Heap.size_push, hsz]
    rcases List.mem_cons.mp hd with rfl | hd
    · rw [hsz]; exact Nat.lt_succ_self _
    · rcases List.mem_cons.mp hd with rfl | hd
      · exact Nat.lt_succ_of_lt (Nat.lt_succ_self _)
      · cases hd
  · have hold : ∀ d o, s.heap.get? d = some o → h'.get? d = some o := fun d o e => by
      refine hk d o (fun hm => ?_) (Heap.get?_push_of_some _ (Heap.get?_push_of_some _ e))
      rcases List.mem_cons.mp hm with e1 | hm
      · have := Heap.lt_size e; rw [e1, hsz] at this; exact Nat.lt_irrefl _ (Nat.lt_of_succ_lt this)
      · cases hm
    obtain ⟨t', rfl⟩ := intItems_at hP
    have e := argBest_val (numAt #[(a, t), (b, u), (c, x), (d, y)]) ((intItems #[(a, t), (b, u), (c, x), (d, y)]).size - 1)
    have hsz2 : (intItems #[(a, t), (b, u), (c, x), (d, y)]).size - 1 = 3 := by simp [intItems]
    rw [hsz2] at e
    rw [hsz2, e]
    exact h h' tk t' hold
end
noncomputable def rMax4 : List V → Hp → VK → Prop := fun xs H Q => ∃ a b c d, xs = [.int a, .int b, .int c, .int d] ∧ Q (.int (mx2 (mx2 (mx2 a b) c) d)) H
theorem cr_max4 {X : Cx} (hc : X.calm = true) : CallR X (.builtin "max") rMax4 := by
  intro pins s σ H xs us Q I r h
  obtain ⟨a, b, c, d, rfl, q⟩ := h
  cases r with
  | cons r1 r => cases r with
  | cons r2 r => cases r with
  | cons r3 r => cases r with
  | cons r4 r =>
    cases r
    obtain ⟨t1, rfl⟩ := r1
    obtain ⟨t2, rfl⟩ := r2
    obtain ⟨t3, rfl⟩ := r3
    obtain ⟨t4, rfl⟩ := r4
    exact max_four_ints (I.ok.hd hc) fun h' tk t' k => ⟨.int (mx2 (mx2 (mx2 a b) c) d), H, I.kept k, ⟨_, rfl⟩, q⟩

section
variable {X : Cx} {G : GC} {W : WX} {cf : CallF} {a e : Expr} {es : List Expr} {ia : IE} {ies : List IE} {pos : Pos}
theorem F_sst {p p2 q : Pos} (hK : G.K = X.K) (hc : X.calm = true) (hr : X.A.units + 200 < cLine) (hg : Gl X "sorted") (hm : X.mg "sorted" = none) (hg2 : Gl X "set") (hm2 : X.mg "set" = none) (ha : PE X a (rdE G W cf ia))
    (na : starEach [a] X.env = (false, eval a X.env) :: starEach [] X.env) : PE X (.Call (.Name "sorted" p) [.Call (.Name "set" p2) [a] [] q] [] pos) (rdF G W cf (.sst ia)) := by
  refine PEmon (pe_sortSet hg hm hg2 hm2 ha hc hr na) ?_
  rintro t H Q ⟨F, loc, s, S, hS, hE, p⟩
  simp only [evE] at p
  refine ⟨F, loc, s, S, hS, hE, Post.bind p fun v S1 w F1 loc1 H1 n r p1 => ?_⟩
  split at p1
  · rename_i xs
    unfold sortU at p1
    cases hrs : rowsInt xs with
    | none =>
      rw [hrs] at p1
      exact False.elim p1
    | some rs =>
    rw [hrs] at p1
    simp only [Option.bind_some] at p1
    split at p1
    case isFalse => exact False.elim p1
    rename_i hz
    cases rows_eq hrs
    have r : Rp G.K F1 H1 w (.list (rs.map encR)) := r
    cases r with
    | lst f e l =>
      refine ⟨_, _, rs, F1, rfl, hK ▸ .inl (.inl e), hK ▸ l, fun r hr z => ?_, hz.2, fun ws q rl hq => ?_⟩
      · have := List.all_eq_true.mp hz.1 r hr
        rw [z] at this
        cases this
      · exact p1 _ _ _ _ (Nxt.lay n.sim hq) (FrR.new n.sim (hK ▸ rl) hq (n.dom _ (.inl hq)))
  · exact False.elim p1
theorem E_mx4 {p : Pos} (hc : X.calm = true) (hg : Gl X "max") (hm : X.mg "max" = none) (ha : PA X (e :: es) (rdL G W cf ies))
    (he : starEach (e :: es) X.env = (false, eval e X.env) :: starEach es X.env) (hpl : (backTo pos (starEach es X.env)).any (·.1) = false) : PE X (.Call (.Name "max" p) (e :: es) [] pos) (rdE G W cf (.mx4 ies)) := by
  refine PEmon (pe_callB (cr_max4 hc) hg hm rfl ha (by decide) (by decide) he hpl) ?_
  rintro t H Q ⟨F, loc, s, S, hS, hE, p⟩
  simp only [evE] at p
  refine ⟨F, loc, s, S, hS, hE, Post.bind p fun vs S1 ws F1 loc1 H1 n r p1 => ?_⟩
  split at p1
  · rename_i ps hd
    have rl := dats_rp r hd
    unfold max4 at p1
    split at p1
    · rename_i a b c d
      cases rl with
      | cons r1 rl => cases rl with
      | cons r2 rl => cases rl with
      | cons r3 rl => cases rl with
      | cons r4 rl =>
        cases rl
        cases r1
        cases r2
        cases r3
        cases r4
        exact ⟨a, b, c, d, rfl, p1 _ _ _ _ (.refl n.sim) (show Rp _ _ _ _ _ from .int _)⟩
    · exact False.elim p1
  · exact False.elim p1
end
end IP
/-! dicts whose keys are tuples of any depth -/
namespace IP
open PySem PySem.Calls PySem.Spec PyProof.Rows L2
/-! ### keys -/
section
variable (H : Hp)
mutual
inductive HKey : V → NestedKey → Prop
  | non : HKey .non .none
  | int (i : Int) : HKey (.int i) (.num i)
  | str (x : Str) : HKey (.str x) (.text x)
  | tup {a : Addr} {xs : List V} {ks : List NestedKey} : H a = some (.tup xs) → HKeys xs ks → HKey (.ref a) (.tup ks)
inductive HKeys : List V → List NestedKey → Prop
  | nil : HKeys [] []
  | cons {v : V} {k : NestedKey} {vs : List V} {ks : List NestedKey} : HKey v k → HKeys vs ks → HKeys (v :: vs) (k :: ks)
end
end
noncomputable def HKeyT (H : Hp) (b : Addr) (k : NestedKey) : Prop := HKey H (.ref b) k ∧ k.depth ≤ 8
section
variable {K : PySem.W.Frag} {F : Addr → Prop} {H H' : Hp} {P : Program} {w : World} {h : Heap}
mutual
theorem rp_hk : ∀ {p : PyData} {v : V} {k : NestedKey}, Rp K F H v p → nk p = some k → HKey H v k
  | .none, _, _, .non, e => by simp only [nk] at e; cases e; exact .non
  | .int i, _, _, .int _, e => by simp only [nk] at e; cases e; exact .int i
  | .str x, _, _, .str _, e => by simp only [nk] at e; cases e; exact .str x
  | .bool b, _, _, .bl _, e => by simp only [nk] at e; cases e
  | .list ds, _, _, .lst _ _ _, e => by simp only [nk] at e; cases e
  | .dict ds, _, _, .dic _ _ _, e => by simp only [nk] at e; cases e
  | .dict ds, _, _, .dit _ _ _, e => by simp only [nk] at e; cases e
  | .tuple ds, _, _, .tup f e1 l, e => by
    simp only [nk] at e
    cases q : nks ds with
    | none => rw [q] at e; cases e
    | some ks =>
      rw [q] at e
      cases e
      exact .tup e1 (rpL_hk l q)
theorem rpL_hk : ∀ {ps : List PyData} {vs : List V} {ks : List NestedKey}, RpL K F H vs ps → nks ps = some ks → HKeys H vs ks
  | [], _, _, .nil, e => by simp only [nks] at e; cases e; exact .nil
  | p :: ps, _, _, .cons r l, e => by
    simp only [nks] at e
    cases q : nk p with
    | none => rw [q] at e; cases e
    | some k =>
      cases q2 : nks ps with
      | none => rw [q, q2] at e; cases e
      | some ks =>
        rw [q, q2] at e
        cases e
        exact .cons (rp_hk r q) (rpL_hk l q2)
end
theorem nkT_nk {p : PyData} {k : NestedKey} (e : nkT p = some k) : nk p = some k ∧ k.depth ≤ 8 ∧ ∃ xs, p = .tuple xs := by
  cases p with
  | tuple xs =>
    simp only [nkT] at e
    cases q : nks xs with
    | none => rw [q] at e; cases e
    | some ks =>
      rw [q] at e
      dsimp only at e
      split at e
      · rename_i hd
        cases e
        exact ⟨by simp only [nk, q], hd, _, rfl⟩
      · cases e
  | _ => cases e
theorem rpT_hk {p : PyData} {v : V} {k : NestedKey} (r : Rp K F H v p) (e : nkT p = some k) : ∃ b, v = .ref b ∧ HKeyT H b k := by
  obtain ⟨h1, h2, xs, rfl⟩ := nkT_nk e
  have q := rp_hk r h1
  cases r with
  | tup f e1 l => exact ⟨_, rfl, q, h2⟩
mutual
theorem hk_is (ok : HOk P w H h) : ∀ {v : V} {k : NestedKey} {u : Value}, HKey H v k → RelV v u → NestedIs h k u
  | _, _, _, .non, r => by cases (show _ = Value.none from r); exact .none
  | _, _, _, .int i, r => by obtain ⟨t, rfl⟩ := (show ∃ t, _ = Value.int i t from r); exact .int i t
  | _, _, _, .str x, r => by obtain ⟨t, rfl⟩ := (show ∃ t, _ = Value.str x t from r); exact .text x t
  | .ref a, .tup ks, _, .tup e l, r => by
    cases (show _ = Value.ref a from r)
    obtain ⟨_, its, rv, o, h1, h2, n, h3⟩ := (show ObjOk P w H h a (.tup _) from ok a _ e)
    exact .tup h1 h2 h3 (hks_is ok l rv)
theorem hks_is (ok : HOk P w H h) : ∀ {vs : List V} {ks : List NestedKey} {us : List Value}, HKeys H vs ks → Vals vs us → NestedAll h ks us
  | _, _, _, .nil, .nil => .nil
  | _, _, _, .cons r l, .cons r1 l1 => .cons (hk_is ok r r1) (hks_is ok l l1)
end
theorem hkT_is {b : Addr} {k : NestedKey} (ok : HOk P w H h) (q : HKeyT H b k) : (nestedKind P w).is h k b := ⟨hk_is ok q.1 rfl, q.2⟩
mutual
theorem HKey.mono (hk : ∀ a xs, H a = some (.tup xs) → H' a = some (.tup xs)) : ∀ {v : V} {k : NestedKey}, HKey H v k → HKey H' v k
  | _, _, .non => .non
  | _, _, .int i => .int i
  | _, _, .str i => .str i
  | _, _, .tup e l => .tup (hk _ _ e) (HKeys.mono hk l)
theorem HKeys.mono (hk : ∀ a xs, H a = some (.tup xs) → H' a = some (.tup xs)) : ∀ {v : List V} {k : List NestedKey}, HKeys H v k → HKeys H' v k
  | _, _, .nil => .nil
  | _, _, .cons r l => .cons (HKey.mono hk r) (HKeys.mono hk l)
end
theorem HKeyT.mono {b : Addr} {k : NestedKey} (q : HKeyT H b k) (hk : ∀ a xs, H a = some (.tup xs) → H' a = some (.tup xs)) : HKeyT H' b k := ⟨q.1.mono hk, q.2⟩
end
noncomputable abbrev NX := List (NestedKey × Addr × V)
noncomputable def HKs (H : Hp) (xs : NX) : Prop := ∀ x, x ∈ xs → HKeyT H x.2.1 x.1
noncomputable def getX (xs : NX) (k : NestedKey) : Option V := (xs.find? fun x => decide (x.1 = k)).map (·.2.2)
noncomputable def putX (xs : NX) (k : NestedKey) (b : Addr) (v : V) : NX := if (getX xs k).isSome = true then xs.map (fun x => if x.1 = k then (x.1, x.2.1, v) else x) else xs ++ [(k, b, v)]
section
variable {K : PySem.W.Frag} {F : Addr → Prop} {H H' : Hp} {P : Program} {w : World} {h : Heap} {xs : NX} {vs : List (NestedKey × Addr × Value)} {ds : List (PyData × PyData)} {k : NestedKey} {a b : Addr}
theorem rpN_hk (r : RpN K F H xs ds) : HKs H xs := by
  induction r with
  | nil => exact fun x hx => nomatch hx
  | cons h1 h2 h3 _ ih =>
    intro x hx
    rcases List.mem_cons.mp hx with rfl | hx
    · obtain ⟨b, e, q⟩ := rpT_hk h2 h1
      cases e
      exact q
    · exact ih x hx
theorem NP.keys (r : NP xs vs) : xs.map (·.1) = vs.map (·.1) := by
  induction r with
  | nil => rfl
  | cons h _ ih => rw [List.map_cons, List.map_cons, ih, h.1]
theorem np_hk (ok : HOk P w H h) (hk : HKs H xs) (r : NP xs vs) : ∀ x ∈ vs, (nestedKind P w).is h x.1 x.2.1 := by
  induction r with
  | nil => exact fun x hx => nomatch hx
  | @cons p q _ _ hq _ ih =>
    intro x hx
    rcases List.mem_cons.mp hx with rfl | hx
    · rw [← hq.1, ← hq.2.1]
      exact hkT_is ok (hk _ (List.mem_cons_self ..))
    · exact ih (fun y hy => hk y (List.mem_cons_of_mem _ hy)) x hx
theorem nd_at (ok : HOk P w H h) (e : Rd H a (nT w a xs)) (hk : HKs H xs) : xs.length ≤ sizeLine ∧ (a == sysModules) = false ∧ (xs.map (·.1)).Nodup ∧ ∃ vs, NP xs vs ∧ h.DictOfH (nestedKind P w) a vs := by
  obtain ⟨⟨z, y, nd, vs, np, o, es, ep, h1, h2, h3, h4⟩, _, _⟩ := (show ObjOk P w H h a (.ext (nTo w a xs)) from rd_of ok e)
  exact ⟨z, y, nd, vs, np, o, es, ep, h1, h2, h3, h4, np_hk ok hk np, by rw [← np.keys]; exact nd⟩
theorem get_np (r : NP xs vs) (k : NestedKey) : match getX xs k, atKey vs k with
    | some v, some p => RelV v p.2
    | none, none => True
    | _, _ => False := by
  induction r with
  | nil => exact True.intro
  | @cons p q _ _ hq _ ih =>
    unfold getX atKey at ih ⊢
    rw [List.find?_cons, List.find?_cons, ← hq.1]
    by_cases e : p.1 = k
    · rw [decide_eq_true e]
      exact hq.2.2
    · rw [decide_eq_false e]
      exact ih
theorem get_rp (r : RpN K F H xs ds) (k : NestedKey) : match getX xs k, valN ds k with
    | some v, some d => Rp K F H v d
    | none, none => True
    | _, _ => False := by
  induction r with
  | nil => exact True.intro
  | @cons k' b v xs p d ds h1 h2 h3 _ ih =>
    unfold getX valN at ih ⊢
    rw [List.find?_cons, List.find?_cons]
    dsimp only
    rw [h1]
    by_cases e : k' = k
    · rw [decide_eq_true e, decide_eq_true (congrArg some e)]
      exact h3
    · rw [decide_eq_false e, decide_eq_false (fun z => e (Option.some.inj z))]
      exact ih
theorem get_same (r : RpN K F H xs ds) (k : NestedKey) : (getX xs k).isSome = (valN ds k).isSome := by
  have := get_rp r k
  split at this
  · rename_i h1 h2; rw [h1, h2]; rfl
  · rename_i h1 h2; rw [h1, h2]; rfl
  · exact this.elim
theorem get_some (r : RpN K F H xs ds) {d : PyData} (e : valN ds k = some d) : ∃ v, getX xs k = some v ∧ Rp K F H v d := by
  have := get_rp r k
  rw [e] at this
  cases q : getX xs k with
  | none => rw [q] at this; exact this.elim
  | some v => rw [q] at this; exact ⟨v, rfl, this⟩
theorem getD_rp (r : RpN K F H xs ds) {z : V} {q : PyData} (rz : Rp K F H z q) (k : NestedKey) : Rp K F H ((getX xs k).getD z) ((valN ds k).getD q) := by
  have := get_rp r k
  split at this
  · rename_i h1 h2; rw [h1, h2]; exact this
  · rename_i h1 h2; rw [h1, h2]; exact rz
  · exact this.elim
theorem np_same (r : NP xs vs) (k : NestedKey) : (getX xs k).isSome = (atKey vs k).isSome := by
  have := get_np r k
  split at this
  · rename_i h1 h2; rw [h1, h2]; rfl
  · rename_i h1 h2; rw [h1, h2]; rfl
  · exact this.elim
theorem NP.app {xs' : NX} {vs' : List (NestedKey × Addr × Value)} (r : NP xs vs) (r' : NP xs' vs') : NP (xs ++ xs') (vs ++ vs') := by
  induction r with
  | nil => exact r'
  | cons h _ ih => exact .cons h ih
theorem np_put (r : NP xs vs) {v : V} {u : Value} (rv : RelV v u) : NP (putX xs k b v) (storedH vs k b u) := by
  unfold putX storedH
  rw [np_same r k]
  by_cases e : (atKey vs k).isSome = true
  · rw [if_pos e, if_pos e]
    clear e
    induction r with
    | nil => exact .nil
    | @cons p q _ _ hq _ ih =>
      rw [List.map_cons, List.map_cons]
      refine .cons ?_ ih
      unfold putAt
      rw [← hq.1]
      by_cases e : p.1 = k
      · rw [if_pos e, if_pos e]
        exact ⟨rfl, hq.2.1, rv⟩
      · rw [if_neg e, if_neg e]
        exact hq
  · rw [if_neg e, if_neg e]
    exact r.app (.cons ⟨rfl, rfl, rv⟩ .nil)
theorem rp_put (r : RpN K F H xs ds) {v : V} {p d : PyData} (hk : nkT p = some k) (rp : Rp K F H (.ref b) p) (rv : Rp K F H v d) : RpN K F H (putX xs k b v) (putN ds p k d) := by
  have an : ∀ {xs : NX} {ds : List (PyData × PyData)}, RpN K F H xs ds → (ds.any fun kv => decide (nkT kv.1 = some k)) = (getX xs k).isSome := by
    intro xs ds r
    induction r with
    | nil => rfl
    | @cons k' b v xs p d ds h1 h2 h3 _ ih =>
      unfold getX at ih ⊢
      rw [List.any_cons, List.find?_cons]
      dsimp only
      rw [h1, ih]
      by_cases e : k' = k
      · rw [decide_eq_true e, decide_eq_true (congrArg some e)]; rfl
      · rw [decide_eq_false e, decide_eq_false (fun z => e (Option.some.inj z))]; rfl
  unfold putX putN
  rw [an r]
  by_cases e : (getX xs k).isSome = true
  · rw [if_pos e, if_pos e]
    clear e
    induction r with
    | nil => exact .nil
    | @cons k' b' v' xs p' d' ds h1 h2 h3 _ ih =>
      rw [List.map_cons, List.map_cons]
      dsimp only
      rw [h1]
      by_cases e : k' = k
      · rw [if_pos e, if_pos (congrArg some e)]
        exact .cons h1 h2 rv ih
      · rw [if_neg e, if_neg (fun z => e (Option.some.inj z))]
        exact .cons h1 h2 h3 ih
  · rw [if_neg e, if_neg e]
    clear e
    induction r with
    | nil => exact .cons hk rp rv .nil
    | cons h1 h2 h3 _ ih => exact .cons h1 h2 h3 ih
theorem putX_hk (q : HKs H xs) (hk : HKeyT H b k) {v : V} : HKs H (putX xs k b v) := by
  unfold putX
  split
  · intro x hx
    obtain ⟨y, hy, rfl⟩ := List.mem_map.mp hx
    have := q y hy
    split <;> exact this
  · intro x hx
    rcases List.mem_append.mp hx with hx | hx
    · exact q x hx
    · rw [List.mem_singleton.mp hx]
      exact hk
theorem putX_len {v : V} : (putX xs k b v).length ≤ xs.length + 1 := by
  unfold putX
  split
  · rw [List.length_map]; omega
  · rw [List.length_append]; simp
theorem putX_nd (nd : (xs.map (·.1)).Nodup) {v : V} : ((putX xs k b v).map (·.1)).Nodup := by
  unfold putX
  by_cases e : (getX xs k).isSome = true
  · rw [if_pos e, List.map_map]
    have : (xs.map ((fun x : NestedKey × Addr × V => x.1) ∘ fun x => if x.1 = k then (x.1, x.2.1, v) else x)) = xs.map (·.1) := by
      refine List.map_congr_left fun x _ => ?_
      simp only [Function.comp]
      split <;> rfl
    rw [this]
    exact nd
  · rw [if_neg e, List.map_append, List.nodup_append]
    refine ⟨nd, by simp, fun y hy z hz => ?_⟩
    rw [List.map_cons, List.map_nil, List.mem_singleton] at hz
    subst hz
    obtain ⟨x, hx, rfl⟩ := List.mem_map.mp hy
    intro ek
    apply e
    unfold getX
    rw [Option.isSome_map, List.find?_isSome]
    exact ⟨x, hx, decide_eq_true ek⟩
theorem RpN.length (r : RpN K F H xs ds) : xs.length = ds.length := by
  induction r with
  | nil => rfl
  | cons _ _ _ _ ih => rw [List.length_cons, List.length_cons, ih]
theorem NP.length (r : NP xs vs) : xs.length = vs.length := Paired.length r
/-- such a dict as an object -/
theorem nT_ok {H' : Hp} {h' : Heap} (z : xs.length ≤ sizeLine) (y : (a == sysModules) = false) (nd : (xs.map (·.1)).Nodup) (np : NP xs vs) (dd : h'.DictOfH (nestedKind P w) a vs) : ObjOk P w H' h' a (nT w a xs) := by
  obtain ⟨o, es, ep, h1, h2, h3, h4, _, _⟩ := dd
  refine ⟨⟨z, y, nd, vs, np, o, es, ep, h1, h2, h3, h4⟩, ⟨o, h1⟩, fun g1 g2 q kk => ?_⟩
  obtain ⟨z, y, nd, vs, np, o, es, ep, h1, h2, h3, h4⟩ := q
  exact ⟨z, y, nd, vs, np, o, es, ep, kk _ h1, h2, h3, h4⟩
end
end IP
namespace IP
open PySem PySem.Calls PySem.Spec PyProof.Rows L2
/-! ### rules over values -/
section
variable {X : Cx} {o i e f value : Expr} {pos pos' apos cpos : Pos} {td ty tx tv : TE}
noncomputable def rNin (w : World) (n : Bool) : R2 := fun x y H Q => ∃ (b a : Addr) (xs : NX) (k : NestedKey), x = .ref b ∧ y = .ref a ∧ HKeyT H b k ∧ Rd H a (nT w a xs) ∧ HKs H xs ∧ Q (.bl (n != (getX xs k).isSome)) H
noncomputable def ninOp (n : Bool) : CmpOp := if n = true then .NotIn else .In
theorem op_nin (hu : X.A.units + 9 < cLine) (n : Bool) : OpR X (compareOp (ninOp n)) (rNin X.w n) := by
  intro pins s σ H x y v u Q I rx ry h
  obtain ⟨b, a, xs, k, rfl, rfl, hk, e, hs, q⟩ := h
  cases (show v = Value.ref b from rx)
  cases (show u = Value.ref a from ry)
  obtain ⟨z, y, nd, vs, np, dd⟩ := nd_at I.hok e hs
  have sm := np_same np k
  have room : (nestedKind X.prog X.w).room X.A.in1 := by show X.A.units + 1 + 8 < cLine; omega
  cases n with
  | false =>
    refine wpAny_in_heap room (hkT_is I.hok hk) y dd (fin_bl (I.tok _) q ?_)
    rw [sm]
    cases (atKey vs k).isSome <;> rfl
  | true =>
    refine notIn_keyed (kvs := pairsH vs) room (hkT_is I.hok hk) y ⟨vs, dd, rfl⟩ (fin_bl (I.tok _) q ?_)
    rw [valueAt_pairsH, Option.isSome_map, sm]
    cases (atKey vs k).isSome <;> rfl
noncomputable def tNGet (w : World) (td ty : TE) : TE := fun σ H Q => td σ H fun x H1 => ty σ H1 fun y H2 => ∃ (a b : Addr) (xs : NX) (k : NestedKey) (v : V), x = .ref a ∧ y = .ref b ∧ HKeyT H2 b k ∧ Rd H2 a (nT w a xs) ∧ HKs H2 xs ∧ getX xs k = some v ∧ Q v H2
theorem pe_nget (hu : X.A.units + 9 < cLine) (ho : PE X o td) (hi : PE X i ty) (hs : NoSl i) : PE X (.Subscript o i pos) (tNGet X.w td ty) := by
  refine ⟨fun pins s σ H Q I h => ?_⟩
  refine subD_of PySem.F.slot_dict_getitem.lookup hs (thn (ho.run pins s σ H _ I h) fun u s1 h1 => ?_)
  obtain ⟨x, H1, I1, rx, q1⟩ := h1
  refine thn (hi.run pins s1 σ H1 _ I1 q1) fun iv s2 h2 => ?_
  obtain ⟨y, H2, I2, ry, a, b, xs, k, v, rfl, rfl, hk, e, hks, g, q2⟩ := h2
  cases (show u = Value.ref a from rx)
  cases (show iv = Value.ref b from ry)
  obtain ⟨z, y, nd, vs, np, dd⟩ := nd_at I2.hok e hks
  have gn := get_np np k
  rw [g] at gn
  cases hp : atKey vs k with
  | none => rw [hp] at gn; exact gn.elim
  | some p =>
    rw [hp] at gn
    exact ⟨dd.typeIs, wpAny_getItem_heap (by show X.A.units + 1 + 8 < cLine; omega) (hkT_is I2.hok hk) dd hp ⟨v, H2, I2.tok _, gn, q2⟩⟩
noncomputable def tNGet2 (w : World) (td ty tx : TE) : TE := fun σ H Q => td σ H fun x H1 => (∃ (a : Addr) (xs : NX), x = .ref a ∧ Rd H1 a (nT w a xs) ∧ HKs H1 xs) ∧ ty σ H1 fun y H2 => tx σ H2 fun z H3 =>
  ∃ (a b : Addr) (xs : NX) (k : NestedKey), x = .ref a ∧ y = .ref b ∧ HKeyT H3 b k ∧ Rd H3 a (nT w a xs) ∧ HKs H3 xs ∧ Q ((getX xs k).getD z) H3
theorem dict_here {pins : List (Addr × Obj)} {σ : L2.St} {H : Hp} {s : Shared} {a : Addr} {xs : NX} (I : Inv X pins σ H s) (e : Rd H a (nT X.w a xs)) (hs : HKs H xs) :
    s.TypeIs (.ref a) "dict" ∧ ∀ b, Value.ref a = .ref b → ∃ ob, s.heap.get? b = some ob ∧ ob.dict = none := by
  obtain ⟨_, _, _, vs, _, dd⟩ := nd_at I.hok e hs
  refine ⟨dd.typeIs, fun b q => ?_⟩
  cases q
  obtain ⟨ob, _, _, h1, h2, _⟩ := dd
  exact ⟨ob, h1, h2.2.1⟩
theorem pe_nget2 (hu : X.A.units + 9 < cLine) (ho : PE X o td) (he : PE X e ty) (hf : PE X f tx) (m : M2 X o "get" apos e f cpos) : PE X (.Call (.Attribute o "get" apos) [e, f] [] cpos) (tNGet2 X.w td ty tx) := by
  refine ⟨fun pins s σ H Q I h => ?_⟩
  refine wpAny_Call_method m.base m.few m.line PySem.F.plainAttrs_dict PySem.F.slot_dict_get PySem.F.type_dict_get (thn (ho.run pins s σ H _ I h) fun u s1 h1 => ?_)
  obtain ⟨x, H1, I1, rx, ⟨a, xs, rfl, e1, hs1⟩, q1⟩ := h1
  cases (show u = Value.ref a from rx)
  obtain ⟨t1, t2⟩ := dict_here I1 e1 hs1
  refine ⟨t1, t2, ?_⟩
  rw [m.trees]
  refine Calls.callWith_builtin rfl (Calls.evalArgs_plain (Calls.spliced_cons (thn (he.run pins s1 σ H1 _ I1 q1) fun iv s2 h2 => ?_)))
  obtain ⟨y, H2, I2, ry, q2⟩ := h2
  refine Calls.spliced_cons (thn (hf.run pins s2 σ H2 _ I2 q2) fun fv s3 h3 => Calls.spliced_nil ?_)
  obtain ⟨z, H3, I3, rz, a', b, xs', k, ea, rfl, hk, e3, hs3, q3⟩ := h3
  cases ea
  cases (show iv = Value.ref b from ry)
  obtain ⟨_, sm, _, vs, np, dd⟩ := nd_at I3.hok e3 hs3
  refine getOr_keyed (kvs := pairsH vs) (by show X.A.units + 1 + 8 < cLine; omega) (hkT_is I3.hok hk) sm ⟨vs, dd, rfl⟩ ⟨(getX xs' k).getD z, H3, I3.tok _, ?_, q3⟩
  rw [valueAt_pairsH]
  have gn := get_np np k
  split at gn
  · rename_i h1 h2
    rw [h1, h2]
    exact gn
  · rename_i h1 h2
    rw [h1, h2]
    exact rz
  · exact gn.elim
/-- what is written -/
theorem n_put {pins : List (Addr × Obj)} {σ : L2.St} {H : Hp} {s : Shared} {a b : Addr} {xs : NX} {k : NestedKey} {v : V} {r : Value} {A : Around} {E : Value → Shared → Prop} {Q : Unit → Shared → Prop} (hu : A.units + 9 < cLine) (I : Inv X pins σ H s) (e : H a = some (nT X.w a xs))
    (hs : HKs H xs) (hk : HKeyT H b k) (z : xs.length < sizeLine) (rv : RelV v r) (h : ∀ s', Inv X pins σ (upd H a (nT X.w a (putX xs k b v))) s' → Q () s') : wpAny (model X.prog X.w) A (setItem (.ref a) (.ref b) r) Q E s := by
  obtain ⟨_, sm, nd, vs, np, dd⟩ := nd_at I.hok (.inl e) hs
  refine wpAny_setItem_heap (hsz := by rw [← np.length]; omega) (by show A.units + 1 + 8 < cLine; omega) (hkT_is I.hok hk) dd fun h' hm' sb => h _ ?_
  have ex : ∃ q, h'.get? a = some q := let ⟨q, _, _, hq, _⟩ := hm'; ⟨q, hq⟩
  have ln := putX_len (xs := xs) (k := k) (b := b) (v := v)
  exact d_write I (by rw [e]; exact True.intro) sb ex (nT_ok (by omega) sm (putX_nd nd) (np_put np rv) hm')
noncomputable def sNPut (w : World) (td ty tv : TE) : TS := fun D σ H => tv σ H fun v H1 => td σ H1 fun x H2 => ty σ H2 fun y H3 => ∃ (a b : Addr) (xs : NX) (k : NestedKey), x = .ref a ∧ y = .ref b ∧ HKeyT H3 b k ∧ H3 a = some (nT w a xs) ∧ HKs H3 xs ∧ xs.length < sizeLine ∧ D.nx σ (upd H3 a (nT w a (putX xs k b v)))
theorem ps_nput (hu : X.A.units + 9 < cLine) (ho : PE X o td) (hi : PE X i ty) (hv : PE X value tv) (hs : swapsWith value (some (.Subscript o i pos')) pos.line X.env = pure false) :
    PS X (.Assign [.Subscript o i pos'] value pos) (sNPut X.w td ty tv) := by
  refine ⟨fun pins s σ H D I h => ?_⟩
  refine wpAny_Assign_Subscript (thn (hv.run pins s σ H _ I h) fun r s1 h1 => ?_) hs
  obtain ⟨v, H1, I1, rv, q1⟩ := h1
  refine thn (ho.run pins s1 σ H1 _ I1 q1) fun u s2 h2 => ?_
  obtain ⟨x, H2, I2, rx, q2⟩ := h2
  refine thn (hi.run pins s2 σ H2 _ I2 q2) fun iv s3 h3 => ?_
  obtain ⟨y, H3, I3, ry, a, b, xs, k, rfl, rfl, hk, e, hks, z, q3⟩ := h3
  cases (show u = Value.ref a from rx)
  cases (show iv = Value.ref b from ry)
  exact n_put hu I3 e hks hk z rv fun s4 I4 => ⟨σ, _, I4, q3⟩
theorem hks_nil {H : Hp} : HKs H [] := fun x hx => nomatch hx
theorem nT_new {P : Program} {w : World} {H : Hp} (h : Heap) (hb : sysModules < h.objs.size) : ObjOk P w H (h.push { cls := .type "dict", data := .dict #[] }) h.objs.size (nT w h.objs.size []) :=
  nT_ok (vs := []) (Nat.zero_le _) (beq_eq_false_iff_ne.mpr (Ne.symm (Nat.ne_of_lt hb))) List.nodup_nil .nil (Heap.DictOfH.new h)
noncomputable def tNNew (w : World) : TE := fun _ H Q => ∀ p, H p = none → Q (.ref p) (upd H p (nT w p []))
theorem pe_nnew : PE X (.Dict [] [] pos) (tNNew X.w) := ⟨fun pins s σ H Q I h =>
  wpAny_Dict_empty ⟨.ref s.heap.objs.size, _, I.laid (a := s.heap.objs.size) (o := nT X.w s.heap.objs.size []) (t' := s.toks) (fun _ _ q => Heap.get?_push_of_some _ q) (Nat.le_refl _) (nT_new s.heap I.big), rfl, h _ (I.hok.fresh (Nat.le_refl _))⟩⟩
noncomputable def tNDisp (w : World) (tk tv : TE) : TE := fun σ H Q => ∀ p, H p = none → tPairs [(tk, tv)] σ (upd H p (nT w p [])) fun ps H2 => H2 p = some (nT w p []) ∧ ∃ (b : Addr) (k : NestedKey) (y : V), ps = [(.ref b, y)] ∧ HKeyT H2 b k ∧ Q (.ref p) (upd H2 p (nT w p [(k, b, y)]))
theorem pe_ndisp {ke : Expr} {tk : TE} (hu : X.A.units + 9 < cLine) (hk : PE X ke tk) (hv : PE X e tv) : PE X (.Dict [some ke] [e] pos) (tNDisp X.w tk tv) := by
  refine ⟨fun pins s σ H Q I q => ?_⟩
  have hn := I.hok.fresh (Nat.le_refl s.heap.objs.size)
  have I1 := I.laid (a := s.heap.objs.size) (o := nT X.w s.heap.objs.size []) (h' := s.heap.push { cls := .type "dict", data := .dict #[] }) (t' := s.toks) (fun _ _ q => Heap.get?_push_of_some _ q) (Nat.le_refl _) (nT_new s.heap I.big)
  have P : PPs X pos [some ke] [e] [(tk, tv)] := pps_cons hk hv pps_nil
  have hl := pairTrees_length [some ke] [e] X.env pos rfl rfl
  have h0 : pairTrees [some ke] [e] X.env pos ≠ [] := fun he => by
    rw [he] at hl
    cases hl
  have hs := zip_pairTrees [some ke] [e] X.env pos rfl rfl
  rw [arm_eval_Dict, hs, dictDisplay_pairs _ h0 (by rw [hl]; simp)]
  refine wpAny_bind (wpAny_standAt (wpAny_bind (wpAny_subDictH (knd := nestedKind X.prog X.w) (show X.A.units + 8 < cLine by omega) (by rw [hl]; simp) (thn (P.run pins _ σ _ _ I1 (q _ hn)) fun ws s2 h2 => ?_))))
  obtain ⟨ps, H2, I2, rel, e2, b, k, y, rfl, kb, q2⟩ := h2
  cases rel with
  | @cons p0 q0 as bs h t =>
    cases t
    obtain ⟨u, r⟩ := q0
    obtain ⟨b1, b2⟩ := h
    cases (show u = Value.ref b from b1)
    obtain ⟨z, sm, nd, xs, np, dd⟩ := nd_at I2.hok (.inl e2) hks_nil
    cases np
    refine ⟨[(k, b, r)], ⟨rfl, rfl, hkT_is I2.hok kb, trivial⟩, dd, fun h' tk' dd' hs' => wpAny_pure ⟨.ref s.heap.objs.size, _, ?_, rfl, q2⟩⟩
    have ex : ∃ q, h'.get? s.heap.objs.size = some q := let ⟨q, _, _, hq, _⟩ := dd'; ⟨q, hq⟩
    refine d_write I2 (by rw [e2]; exact True.intro) hs' ex (nT_ok (vs := [(k, b, r)]) ?_ sm (by simp) (.cons ⟨rfl, rfl, b2⟩ .nil) dd')
    show 1 ≤ sizeLine
    rw [sizeLine_eq]
    omega
end
end IP
namespace IP
open PySem PySem.Calls PySem.Spec PyProof.Rows L2
theorem dict_at {S : Store} {o : Option (Option Val)} {l : Nat} {kvs : List (PyData × PyData)} (e : dictAt S o = some (l, kvs)) : o = some (some (.ref l)) ∧ (S[l]? = some (.nd kvs) ∨ S[l]? = some (.ndl kvs)) := by
  unfold dictAt at e
  split at e
  · rename_i m
    split at e
    · rename_i ks h
      cases e
      exact ⟨rfl, .inl h⟩
    · rename_i ks h
      cases e
      exact ⟨rfl, .inr h⟩
    · cases e
  · cases e
theorem dict_sim {G : GC} {F : Addr → Prop} {loc : Nat → Addr} {S : Store} {H : Hp} {s : Env} {t : L2.St} {i l : Nat} {kvs : List (PyData × PyData)} (hS : SimS G F loc S H) (hE : SimE G F loc S H s t) (e : dictAt S s[i]? = some (l, kvs)) :
    ∃ xs, t[i]? = some (some (.ref (loc l))) ∧ Rd H (loc l) (nT G.w (loc l) xs) ∧ RpN G.K F H xs kvs := by
  obtain ⟨h1, h2⟩ := dict_at e
  obtain ⟨w, h3, r⟩ := hE.at_ i _ h1
  obtain ⟨rfl, _⟩ := r
  rcases h2 with h2 | h2
  · obtain ⟨xs, e1, r1⟩ := hS.ob l _ h2
    exact ⟨xs, h3, .inl e1, r1⟩
  · obtain ⟨_, o, xs, e1, r1⟩ := hS.ob l _ h2
    exact ⟨xs, h3, .inr ⟨o, e1⟩, r1⟩
theorem rp_ref {G : GC} {F : Addr → Prop} {loc : Nat → Addr} {S : Store} {H : Hp} {p : PyData} {w : V} {k : NestedKey} (r : RV G F loc S H (.dat p) w) (e : nkT p = some k) : ∃ b, w = .ref b ∧ HKeyT H b k ∧ Rp G.K F H (.ref b) p := by
  have r : Rp G.K F H w p := r
  obtain ⟨b, rfl, h⟩ := rpT_hk r e
  exact ⟨b, rfl, h, r⟩
section
variable {X : Cx} {G : GC} {W : WX} {cf : CallF} {a b e ke : Expr} {ia ib ik : IE} {pos pos' p1 apos cpos : Pos} {i j : Nat} {x y : Str} {M : Option Nat}
theorem E_nd0 (hw : G.w = X.w) : PE X (.Dict [] [] pos) (rdE G W cf .nd0) := by
  refine PEmon pe_nnew ?_
  rintro t H Q ⟨F, loc, s, S, hS, hE, p⟩ q hq
  simp only [evE] at p
  have n := Nxt.push (Nxt.lay (o := nT X.w q []) hS hq) (a := q) (o := .nd []) (.inl hq) (fun f => hS.dom q f hq) (fun l o e al z => (hS.ob l o e).there al (by rw [z]; exact hq)) ⟨[], by rw [hw]; exact upd_same, .nil⟩
  refine p _ _ _ _ n ⟨?_, by rw [List.length_append]; exact Nat.lt_succ_self _⟩
  show V.ref q = V.ref (if S.length = S.length then q else loc S.length)
  rw [if_pos rfl]
theorem E_nd1 (hw : G.w = X.w) (hu : X.A.units + 9 < cLine) (hk : PE X ke (rdE G W cf ik)) (hv : PE X e (rdE G W cf ia)) : PE X (.Dict [some ke] [e] pos) (rdE G W cf (.nd1 ik ia)) := by
  refine PEmon (pe_ndisp hu hk hv) ?_
  rintro t H Q ⟨F, loc, s, S, hS, hE, p⟩
  simp only [evE] at p
  intro q hq
  have n0 := Nxt.lay (o := nT X.w q []) hS hq
  have h0 : ¬ F q := fun f => hS.dom q f hq
  have h1 : ∀ l o, S[l]? = some o → alive o = true → loc l ≠ q := fun l o e al z => (hS.ob l o e).there al (by rw [z]; exact hq)
  show rdE G W cf ik t (upd H q (nT X.w q [])) _
  refine ⟨F, loc, s, S, n0.sim, hE.next n0, ?_⟩
  cases qk : evE cf ik s S with
  | err => rw [qk] at p; exact p
  | exc c fs S' => rw [qk] at p; exact fun cv d F' loc' H' m r => p cv d F' loc' H' (n0.trans m) r
  | ok v1 S1 =>
  rw [qk, Out.bind_ok] at p
  intro wk F1 loc1 H1 nk rk
  show rdE G W cf ia t H1 _
  refine ⟨F1, loc1, s, S1, nk.sim, (hE.next n0).next nk, ?_⟩
  cases qv : evE cf ia s S1 with
  | err => rw [qv] at p; exact p
  | exc c fs S' => rw [qv] at p; exact fun cv d F' loc' H' m r => p cv d F' loc' H' ((n0.trans nk).trans m) r
  | ok v2 S2 =>
  rw [qv, Out.bind_ok] at p
  intro wv F2 loc2 H2 nv rv
  have nn := nk.trans nv
  obtain ⟨a1, a2, a3⟩ := nn.apart (a := q) upd_same nT_solid.nt h0 h1
  split at p
  · rename_i pk pd
    split at p
    · rename_i k hkk
      obtain ⟨bk, rfl, hb, rb⟩ := rp_ref (rk.next nv) hkk
      refine ⟨a1, bk, k, wv, rfl, hb, ?_⟩
      have n3 := (n0.trans nn).priv (a := q) (o := nT X.w q [(k, bk, wv)]) (.inl hq) a2 a3 a1 nT_solid nT_solid
      have kp : ∀ a o, F2 a → H2 a = some o → upd H2 q (nT X.w q [(k, bk, wv)]) a = some o := fun a o f e => by
        rw [upd_ne (fun z => a2 (by rw [← z]; exact f))]
        exact e
      have n4 := Nxt.push n3 (a := q) (o := .nd [(pk, pd)]) (.inl hq) a2 a3 ⟨[(k, bk, wv)], by rw [hw]; exact upd_same, .cons hkk (Rp.mono (fun _ f => f) kp rb) (Rp.mono (fun _ f => f) kp (show Rp G.K F2 H2 wv pd from rv)) .nil⟩
      refine p _ _ _ _ n4 ⟨?_, by rw [List.length_append]; exact Nat.lt_succ_self _⟩
      show V.ref q = V.ref (if S2.length = S2.length then q else loc2 S2.length)
      rw [if_pos rfl]
    · exact False.elim p
  · exact False.elim p
theorem rd_nin (hw : G.w = X.w) {n : Bool} {t : L2.St} {H : Hp} {Q : VK} (h : rdE G W cf (.nin n ik i) t H Q) : tOp (rNin X.w n) (rdE G W cf ik) (tVar i) t H Q := by
  obtain ⟨F, loc, s, S, hS, hE, p⟩ := h
  simp only [evE] at p
  refine ⟨F, loc, s, S, hS, hE, Post.bind p fun v S1 w F1 loc1 H1 n r p1 => ?_⟩
  split at p1
  · rename_i pk l kvs hd
    split at p1
    · rename_i k hkk
      obtain ⟨b, rfl, hb, rb⟩ := rp_ref r hkk
      obtain ⟨xs, h1, h2, h3⟩ := dict_sim n.sim (hE.next n) hd
      refine ⟨_, h1, b, loc1 l, xs, k, rfl, rfl, hb, by rw [← hw]; exact h2, rpN_hk h3, ?_⟩
      rw [get_same h3]
      exact p1 _ _ _ _ (.refl n.sim) (show Rp _ _ _ _ _ from .bl _)
    · exact False.elim p1
  · exact False.elim p1
theorem E_nin (hw : G.w = X.w) (hu : X.A.units + 9 < cLine) {n : Bool} (hk : PE X a (rdE G W cf ik)) (hN : X.N[i]? = some x) (hv : Vis X.env.scope x) (hd : (x == ("__debug__" : Str)) = false) (hcd : (x == ("__classdict__" : Str)) = false)
    (hm : behindInMarks (ninOp n) (.Name x p1) = false) : PE X (.Compare a [ninOp n] [.Name x p1] pos) (rdE G W cf (.nin n ik i)) :=
  PEmon (pe_cmpR (op_nin hu n) hk (pe_var hN hv hd hcd) hm) fun t H Q h => rd_nin hw h
theorem T_nin (hw : G.w = X.w) (hu : X.A.units + 9 < cLine) {n : Bool} (hk : PE X a (rdE G W cf ik)) (hN : X.N[i]? = some x) (hv : Vis X.env.scope x) (hd : (x == ("__debug__" : Str)) = false) (hcd : (x == ("__classdict__" : Str)) = false)
    (hm : behindInMarks (ninOp n) (.Name x p1) = false) : PT X (.Compare a [ninOp n] [.Name x p1] pos) (rdT G W cf (.nin n ik i)) :=
  PTmon (pt_cmpR (op_nin hu n) hk (pe_var hN hv hd hcd) hm) fun t H Q h => rd_nin hw (rdT_of h)
theorem E_nix (hw : G.w = X.w) (hu : X.A.units + 9 < cLine) (hk : PE X a (rdE G W cf ik)) (hN : X.N[i]? = some x) (hv : Vis X.env.scope x) (hd : (x == ("__debug__" : Str)) = false) (hcd : (x == ("__classdict__" : Str)) = false) (hs : NoSl a) :
    PE X (.Subscript (.Name x p1) a pos) (rdE G W cf (.nix i ik)) := by
  refine PEmon (pe_nget hu (pe_var hN hv hd hcd) hk hs) ?_
  rintro t H Q ⟨F, loc, s, S, hS, hE, p⟩
  simp only [evE] at p
  split at p
  · rename_i lk hd0
    obtain ⟨l0, kvs0⟩ := lk
    obtain ⟨xs0, h1, _, _⟩ := dict_sim hS hE hd0
    refine ⟨_, h1, F, loc, s, S, hS, hE, Post.bind p fun v S1 w F1 loc1 H1 n r p1 => ?_⟩
    split at p1
    · rename_i pk l kvs hd
      split at p1
      · rename_i k hkk
        obtain ⟨b, rfl, hb, rb⟩ := rp_ref r hkk
        obtain ⟨xs, h4, h2, h3⟩ := dict_sim n.sim (hE.next n) hd
        rw [h1] at h4
        cases hvv : valN kvs k with
        | none => rw [hvv] at p1; exact False.elim p1
        | some d =>
          rw [hvv] at p1
          obtain ⟨v, g, rv⟩ := get_some h3 hvv
          exact ⟨loc1 l, b, xs, k, v, Option.some.inj (Option.some.inj h4), rfl, hb, by rw [← hw]; exact h2, rpN_hk h3, g, p1 _ _ _ _ (.refl n.sim) (show Rp _ _ _ _ _ from rv)⟩
      · exact False.elim p1
    · exact False.elim p1
  · exact False.elim p
theorem E_ngt (hw : G.w = X.w) (hu : X.A.units + 9 < cLine) (hk : PE X a (rdE G W cf ik)) (hb : PE X b (rdE G W cf ib)) (hN : X.N[i]? = some x) (hv : Vis X.env.scope x) (hd : (x == ("__debug__" : Str)) = false) (hcd : (x == ("__classdict__" : Str)) = false)
    (m : M2 X (.Name x p1) "get" apos a b cpos) : PE X (.Call (.Attribute (.Name x p1) "get" apos) [a, b] [] cpos) (rdE G W cf (.ngt i ik ib)) := by
  refine PEmon (pe_nget2 hu (pe_var hN hv hd hcd) hk hb m) ?_
  rintro t H Q ⟨F, loc, s, S, hS, hE, p⟩
  simp only [evE] at p
  split at p
  · rename_i lk hd0
    obtain ⟨l0, kvs0⟩ := lk
    obtain ⟨xs0, h1, h2, h3⟩ := dict_sim hS hE hd0
    refine ⟨_, h1, ⟨loc l0, xs0, rfl, by rw [← hw]; exact h2, rpN_hk h3⟩, F, loc, s, S, hS, hE, Post.bind p fun v S1 w F1 loc1 H1 n r p1 => ⟨F1, loc1, s, S1, n.sim, hE.next n, Post.bind p1 fun v2 S2 w2 F2 loc2 H2 n2 r2 p2 => ?_⟩⟩
    split at p2
    · rename_i pk pd l kvs hd
      split at p2
      · rename_i k hkk
        obtain ⟨b, rfl, hb, rb⟩ := rp_ref (r.next n2) hkk
        obtain ⟨xs, h4, h5, h6⟩ := dict_sim n2.sim ((hE.next n).next n2) hd
        rw [h1] at h4
        exact ⟨loc2 l, b, xs, k, Option.some.inj (Option.some.inj h4), rfl, hb, by rw [← hw]; exact h5, rpN_hk h6, p2 _ _ _ _ (.refl n2.sim) (show Rp _ _ _ _ _ from getD_rp h6 r2 k)⟩
      · exact False.elim p2
    · exact False.elim p2
  · exact False.elim p
theorem S_npt (hw : G.w = X.w) (hu : X.A.units + 9 < cLine) (hN : X.N[i]? = some x) (hv : Vis X.env.scope x) (hd : (x == ("__debug__" : Str)) = false) (hcd : (x == ("__classdict__" : Str)) = false)
    (hk : PE X a (rdE G W cf ik)) (hb : PE X b (rdE G W cf ib)) (hs : swapsWith b (some (.Subscript (.Name x p1) a pos')) pos.line X.env = pure false) :
    PS X (.Assign [.Subscript (.Name x p1) a pos'] b pos) (rdS G W M cf (.npt i ik ib)) := by
  refine PSmon (ps_nput hu (pe_var hN hv hd hcd) hk hb hs) ?_
  rintro D t H ⟨F, loc, s, S, hS, hE, p⟩
  simp only [evS] at p
  refine ⟨F, loc, s, S, hS, hE, PostS.bind p fun v S1 w F1 loc1 H1 n r p1 => ?_⟩
  split at p1
  case h_2 => exact False.elim p1
  rename_i lk hd0
  obtain ⟨l0, kvs0⟩ := lk
  obtain ⟨xs0, h1, _, _⟩ := dict_sim n.sim (hE.next n) hd0
  refine ⟨_, h1, F1, loc1, s, S1, n.sim, hE.next n, PostS.bind p1 fun v2 S2 w2 F2 loc2 H2 n2 r2 p2 => ?_⟩
  split at p2
  case h_2 => exact False.elim p2
  rename_i l hi
  obtain ⟨w3, h3, h4⟩ := ((hE.next n).next n2).at_ i _ hi
  obtain ⟨rfl, hl⟩ := h4
  rw [h1] at h3
  split at p2
  case h_2 => exact False.elim p2
  rename_i qd pk kvs hx
  split at p2
  case h_2 => exact False.elim p2
  rename_i k hkk
  split at p2
  case isFalse => exact False.elim p2
  rename_i hz
  obtain ⟨b, rfl, hb, rb⟩ := rp_ref r2 hkk
  obtain ⟨xs, e1, rn⟩ := n2.sim.ob l _ hx
  refine ⟨loc2 l, b, xs, k, Option.some.inj (Option.some.inj h3), rfl, hb, by rw [← hw]; exact e1, rpN_hk rn, by rw [rn.length]; exact hz, ?_⟩
  have rv : Rp G.K F2 H2 w qd := r.next n2
  have n3 := Nxt.put (u := nT X.w (loc2 l) (putX xs k b w)) n2.sim hx rfl (o' := .nd (putN kvs pk k qd)) (fun S' H' kp len e => ⟨_, by rw [hw]; exact e, rp_put (RpN.mono (fun _ f => f) kp rn) hkk (Rp.mono (fun _ f => f) kp rb) (Rp.mono (fun _ f => f) kp rv)⟩) nT_solid
  exact p2 _ _ _ _ n3 (((hE.next n).next n2).next n3)
end
end IP
/-! such dicts walked; they are locked then -/
namespace IP
open PySem PySem.Calls PySem.Spec PyProof.Rows L2
noncomputable def itNK (w : World) (a : Addr) (o : Obj) (xs : NX) : It := ⟨fun i H => H a = some (.frz o (nT w a xs)) ∧ i < xs.length, fun i H x H' => H' = H ∧ ∃ k b v, xs[i]? = some (k, b, v) ∧ x = .ref b, fun i H => H a = some (.frz o (nT w a xs)) ∧ xs.length ≤ i⟩
noncomputable def itNI (w : World) (a : Addr) (o : Obj) (xs : NX) : It := ⟨fun i H => H a = some (.frz o (nT w a xs)) ∧ i < xs.length, fun i H x H' => ∃ T k b v, xs[i]? = some (k, b, v) ∧ x = .ref T ∧ H T = none ∧ H' = upd H T (.tup [.ref b, v]), fun i H => H a = some (.frz o (nT w a xs)) ∧ xs.length ≤ i⟩
theorem np_get {xs : NX} {vs : List (NestedKey × Addr × Value)} (r : NP xs vs) : ∀ {i : Nat} {k : NestedKey} {b : Addr} {v : V}, xs[i]? = some (k, b, v) → ∃ u, vs[i]? = some (k, b, u) ∧ RelV v u := by
  induction r with
  | nil => intro i k b v e; simp at e
  | @cons p q _ _ hq _ ih =>
    intro i k b v e
    cases i with
    | zero =>
      simp only [List.getElem?_cons_zero] at e ⊢
      cases e
      obtain ⟨q1, q2, q3⟩ := q
      obtain ⟨h1, h2, h3⟩ := hq
      cases (show k = q1 from h1)
      cases (show b = q2 from h2)
      exact ⟨q3, rfl, h3⟩
    | succ i =>
      simp only [List.getElem?_cons_succ] at e ⊢
      exact ih e
/-- a locked one -/
theorem frzN {X : Cx} {pins : List (Addr × Obj)} {σ : L2.St} {H : Hp} {s : Shared} {w : World} {a : Addr} {o : Obj} {xs : NX} (I : Inv X pins σ H s) (h : H a = some (.frz o (nT w a xs))) :
    (a == sysModules) = false ∧ ∃ es ep, o.data = .dict es ep ∧ s.heap.DictRaw a es ep ∧ es.size = xs.length ∧ ∀ i k b v, xs[i]? = some (k, b, v) → ∃ (h : i < es.size), es[i].key = .ref b ∧ RelV v es[i].val := by
  obtain ⟨ho, ⟨z, sm, nd, vs, np, o', es, ep, h1, h2, h3, h4⟩, _, _⟩ := (show s.heap.get? a = some o ∧ ObjOk X.prog X.w H s.heap a (.ext (nTo w a xs)) from I.hok a _ h)
  rw [ho] at h1
  cases h1
  have sz : es.size = vs.length := by
    rw [← Array.length_toList, h4]
    unfold nEnts
    rw [List.length_map]
  refine ⟨sm, es, ep, h3, ⟨o, ho, h2, h3⟩, by rw [sz, np.length], fun i k b v e => ?_⟩
  obtain ⟨u, hu, ru⟩ := np_get np e
  have e2 : es.toList[i]? = some ⟨k.hash w, .ref b, u⟩ := by
    rw [h4]
    unfold nEnts
    rw [List.getElem?_map, hu]
    rfl
  rw [Array.getElem?_toList] at e2
  obtain ⟨hi, e3⟩ := Array.getElem?_eq_some_iff.mp e2
  exact ⟨hi, by rw [e3], by rw [e3]; exact ru⟩
theorem dict_same {o : Obj} {es es' : Array DictEntry} {ep ep' : Nat} (h : o.data = .dict es ep) (h' : o.data = .dict es' ep') : es' = es ∧ ep' = ep := by
  rw [h] at h'
  cases h'
  exact ⟨rfl, rfl⟩
section
variable {P : Program} {w : World} {K : PySem.W.Frag} {tg : Expr} {a : Addr} {o : Obj} {es : Array DictEntry} {ep : Nat} {xs : NX}
theorem turnNK (it : Addr) (hod : o.data = .dict es ep) : Turn P w K tg (itNK w a o xs) [it] it (fun i h => h.IsKeyIter it a i xs.length ep) where
  mem := List.mem_singleton.mpr rfl
  obj := fun i h st b hb => by
    cases List.mem_singleton.mp hb
    obtain ⟨oi, e1, e2, e3⟩ := st
    refine ⟨oi, e1, fun v z => ?_⟩
    rw [e3] at z
    cases z
  keep := fun i h h' st kk => by
    obtain ⟨oi, e1, r⟩ := st
    exact ⟨oi, kk it (List.mem_singleton.mpr rfl) oi e1, r⟩
  item := by
    intro X hP hw hK hc i pins s σ H E I hf st hg
    subst hP hw hK
    obtain ⟨hd, hi⟩ := hg
    have fp := hf it (List.mem_singleton.mpr rfl)
    obtain ⟨sm, es1, ep1, hda, raw, sz, ent⟩ := frzN I hd
    obtain ⟨rfl, rfl⟩ := dict_same hod hda
    obtain ⟨⟨k, b, v⟩, hx⟩ : ∃ x, xs[i]? = some x := ⟨_, List.getElem?_eq_getElem hi⟩
    obtain ⟨hlt, ek, ev⟩ := ent i k b v hx
    rw [← sz] at st
    refine wpAny_pyNext_keys_item_raw st raw hlt fun h' st' sb => ?_
    have I1 : Inv X pins σ H { s with heap := h' } := I.turned (t' := s.toks) (fun c oc hb e => (sb.2 c hb).trans e) fp.1 fp.2.1 fp.2.2.2.1 fp.2.2.2.2.1 fp.2.2.2.2.2
    obtain ⟨oi, e1, e2, e3⟩ := id st'
    refine ⟨_, rfl, go_of (s := { s with heap := h' }) e1 e2 e3 (by decide) ⟨.ref b, H, I1, by rw [ek]; rfl, ⟨rfl, k, b, v, hx, rfl⟩, ?_, fun c hb => (hf c hb).1⟩⟩
    rw [sz] at st'
    exact st'
  done := by
    intro X hP hw hK hc i pins s σ H E I hf st hg
    subst hP hw hK
    obtain ⟨hd, hi⟩ := hg
    have fp := hf it (List.mem_singleton.mpr rfl)
    obtain ⟨sm, es1, ep1, hda, raw, sz, ent⟩ := frzN I hd
    obtain ⟨rfl, rfl⟩ := dict_same hod hda
    rw [← sz] at st hi
    exact wpAny_pyNext_keys_end_raw (I.ok.hd hc) st raw hi fun h' eb => ⟨rfl, I.turned (t' := s.toks) (fun c oc hb e => eb c oc hb e) fp.1 fp.2.1 fp.2.2.2.1 fp.2.2.2.2.1 fp.2.2.2.2.2⟩
  self := fun A i s Q E st h => wpAny_pyIter_keyiter st h
theorem turnNI {elts : List Expr} {kk : Nat} {tpos : Pos} (it : Addr) (hod : o.data = .dict es ep) :
    Turn P w K (.Tuple elts kk tpos) (itNI w a o xs) [it] it (fun i h => ∃ ok ov, IsItemIter h it a i xs.length ep ok ov) where
  mem := List.mem_singleton.mpr rfl
  obj := fun i h st b hb => by
    cases List.mem_singleton.mp hb
    obtain ⟨ok, ov, e1⟩ := st
    exact ⟨_, e1, fun v z => by cases z⟩
  keep := fun i h h' st kk => by
    obtain ⟨ok, ov, e1⟩ := st
    exact ⟨ok, ov, kk it (List.mem_singleton.mpr rfl) _ e1⟩
  item := by
    intro X hP hw hK hc i pins s σ H E I hf st hg
    subst hP hw hK
    obtain ⟨hd, hi⟩ := hg
    have fp := hf it (List.mem_singleton.mpr rfl)
    obtain ⟨sm, es1, ep1, hda, raw, sz, ent⟩ := frzN I hd
    obtain ⟨rfl, rfl⟩ := dict_same hod hda
    obtain ⟨⟨k, b, v⟩, hx⟩ : ∃ x, xs[i]? = some x := ⟨_, List.getElem?_eq_getElem hi⟩
    obtain ⟨hlt, ek, ev⟩ := ent i k b v hx
    obtain ⟨ok, ov, he⟩ := st
    rw [← sz] at he
    have itlt : it < s.heap.objs.size := Heap.lt_size he
    refine wpAny_pyNext_items_item_raw he raw hlt fun h' ho hT hz kp => ⟨_, rfl, ?_⟩
    refine wpAny_letOwnedTupleGo_items (s := { s with heap := h' }) ho fun h2 he2 sb => ?_
    have hT2 : h2.get? s.heap.objs.size = some { cls := .type "tuple", data := .seq #[es1[i].key, es1[i].val] } := (sb.2 _ (Nat.ne_of_gt itlt)).trans hT
    have two : 2 ≤ sizeLine := by rw [sizeLine_eq]; omega
    have new : ObjOk X.prog X.w (upd H s.heap.objs.size (.tup [.ref b, v])) h2 s.heap.objs.size (.tup [.ref b, v]) :=
      ⟨two, [es1[i].key, es1[i].val], .cons (by rw [ek]; rfl) (.cons ev .nil), _, hT2, rfl, _, rfl⟩
    have I1 : Inv X pins σ (upd H s.heap.objs.size (.tup [.ref b, v])) { s with heap := h2 } :=
      I.turnedNew (t' := s.toks) (ch := [it]) (fun c oc hb e => (sb.2 c (fun z => hb (List.mem_singleton.mpr z))).trans (kp c oc (fun z => hb (List.mem_singleton.mpr z)) e)) hf (Nat.le_refl _) new
    refine ⟨.ref s.heap.objs.size, _, I1, rfl, ⟨_, k, b, v, hx, rfl, I.hok.fresh (Nat.le_refl _), rfl⟩, ⟨es1[i].key, es1[i].val, by rw [← sz]; exact he2⟩, fun c hb => ?_⟩
    rw [List.mem_singleton.mp hb, upd_ne (Nat.ne_of_lt itlt)]
    exact fp.1
  done := by
    intro X hP hw hK hc i pins s σ H E I hf st hg
    subst hP hw hK
    obtain ⟨hd, hi⟩ := hg
    have fp := hf it (List.mem_singleton.mpr rfl)
    obtain ⟨sm, es1, ep1, hda, raw, sz, ent⟩ := frzN I hd
    obtain ⟨rfl, rfl⟩ := dict_same hod hda
    obtain ⟨ok, ov, he⟩ := st
    rw [← sz] at he hi
    exact wpAny_pyNext_items_end_raw (I.ok.hd hc) he raw hi fun h' eb => ⟨rfl, I.turned (t' := s.toks) (fun c oc hb e => eb c oc hb e) fp.1 fp.2.1 fp.2.2.2.1 fp.2.2.2.2.1 fp.2.2.2.2.2⟩
  self := fun A i s Q E st h => let ⟨_, _, e⟩ := st; PySem.W.kcp_self e h
end
/-- the dict at a is locked, or is locked now -/
noncomputable def lockN (w : World) (a : Addr) (xs : NX) (H : Hp) (R : Obj → Hp → Prop) : Prop := (∃ o, H a = some (.frz o (nT w a xs)) ∧ R o H) ∨ (H a = some (nT w a xs) ∧ ∀ o, R o (upd H a (.frz o (nT w a xs))))
theorem lockN_run {X : Cx} {pins : List (Addr × Obj)} {σ : L2.St} {H : Hp} {s : Shared} {a : Addr} {xs : NX} {R : Obj → Hp → Prop} (I : Inv X pins σ H s) (h : lockN X.w a xs H R) : ∃ o H', Inv X pins σ H' s ∧ H' a = some (.frz o (nT X.w a xs)) ∧ R o H' := by
  rcases h with ⟨o, h1, h2⟩ | ⟨h1, h2⟩
  · exact ⟨o, H, I, h1, h2⟩
  · obtain ⟨o, I1⟩ := I.lock h1 True.intro
    exact ⟨o, _, I1, upd_same, h2 o⟩
section
variable {X : Cx} {tg e : Expr} {td : TE} {apos cpos : Pos}
noncomputable def iNK (w : World) (td : TE) : TI := fun σ H R => td σ H fun x H1 => ∃ a xs, x = .ref a ∧ lockN w a xs H1 fun o H2 => R (itNK w a o xs) H2
noncomputable def iNI (w : World) (td : TE) : TI := fun σ H R => td σ H fun x H1 => ∃ a xs, x = .ref a ∧ lockN w a xs H1 fun o H2 => R (itNI w a o xs) H2
theorem pi_nk (he : PE X e td) : PI X tg e (iNK X.w td) := by
  refine ⟨fun pins s σ H R I h => thn (he.run pins s σ H _ I h) fun u s1 h1 => ?_⟩
  obtain ⟨x, H1, I1, rx, a, xs, rfl, lk⟩ := h1
  cases (show u = Value.ref a from rx)
  obtain ⟨o, H2, I2, h2, q⟩ := lockN_run I1 lk
  obtain ⟨sm, es, ep, hda, raw, sz, ent⟩ := frzN I2 h2
  refine wpAny_pyIter_dict_raw sm raw (pi_one (tk := s1.toks) I2 _ (turnNK _ hda) ⟨_, Heap.get?_push_size _ rfl, rfl, ?_⟩ q)
  rw [← sz] <;> rfl
theorem pi_ni {elts : List Expr} {kk : Nat} {tpos : Pos} (he : PE X e td) (hbase : attributeBase e "items" X.env (eval e X.env) = eval e X.env) (hline : (apos.endLine == cpos.line) = true) :
    PI X (.Tuple elts kk tpos) (.Call (.Attribute e "items" apos) [] [] cpos) (iNI X.w td) := by
  refine ⟨fun pins s σ H R I h => ?_⟩
  refine wpAny_Call_method (T := "dict") (id := "dict.items") hbase rfl hline PySem.F.plainAttrs_dict PySem.F.slot_dict_items PySem.F.type_dict_items (thn (he.run pins s σ H _ I h) fun u s1 h1 => ?_)
  obtain ⟨x, H1, I1, rx, a, xs, rfl, lk⟩ := h1
  cases (show u = Value.ref a from rx)
  obtain ⟨o, H2, I2, h2, q⟩ := lockN_run I1 lk
  obtain ⟨sm, es, ep, hda, raw, sz, ent⟩ := frzN I2 h2
  refine ⟨raw.typeIs, fun b z => ?_, ?_⟩
  · cases z
    obtain ⟨ob, e1, e2, _⟩ := raw
    exact ⟨ob, e1, e2.2.1⟩
  have I3 : Inv X pins σ H2 { s1 with heap := s1.heap.push { cls := .type "dict_items", data := .fields #[.ref a] } } := I2.kept (t' := s1.toks) fun b ob q => Heap.get?_push_of_some _ q
  have fin : wpAny (model X.prog X.w) X.A (pyIter (.ref s1.heap.objs.size)) (PIE X pins σ (.Tuple elts kk tpos) R) X.xe { s1 with heap := s1.heap.push { cls := .type "dict_items", data := .fields #[.ref a] } } := by
    refine wpAny_pyIter_items_raw (d := a) ⟨_, Heap.get?_push_size _ rfl, rfl, rfl⟩ (raw.at fun o e => Heap.get?_push_of_some _ e) (pi_one (tk := s1.toks) I3 _ (turnNI _ hda) ⟨.none, .none, ?_⟩ q)
    rw [← sz]
    exact Heap.get?_push_size _ rfl
  show wpAny _ _ (callWith cpos (.builtin "dict.items") [.ref a] [] []) _ X.xe s1
  exact method_meetsIn PySem.F.slot_dict_items PySem.F.entry_dict_items rfl (PySem.evalArgs_none ⟨rfl, raw.typeIs, PySem.F.args_dict_items_1 _, _, meets_dict_items_raw a sm, ⟨es, ep, raw⟩, fin⟩)
end
end IP
namespace IP
open PySem PySem.Calls PySem.Spec PyProof.Rows L2
theorem setS_same {S : Store} {l : Nat} {o : Ob} (h : S[l]? = some o) : S.set l o = S := by
  apply List.ext_getElem?
  intro i
  by_cases e : l = i
  · subst e
    rw [List.getElem?_set_self (List.getElem?_eq_some_iff.mp h).1, h]
  · rw [List.getElem?_set_ne e]
theorem RpN.get {K : PySem.W.Frag} {F : Addr → Prop} {H : Hp} {xs : NX} {ds : List (PyData × PyData)} (r : RpN K F H xs ds) : ∀ {i : Nat} {k : NestedKey} {b : Addr} {v : V}, xs[i]? = some (k, b, v) → ∃ p d, ds[i]? = some (p, d) ∧ nkT p = some k ∧ Rp K F H (.ref b) p ∧ Rp K F H v d := by
  induction r with
  | nil => intro i k b v e; simp at e
  | @cons k' b' v' xs p d ds h1 h2 h3 _ ih =>
    intro i k b v e
    cases i with
    | zero =>
      simp only [List.getElem?_cons_zero] at e ⊢
      cases e
      exact ⟨p, d, rfl, h1, h2, h3⟩
    | succ i =>
      simp only [List.getElem?_cons_succ] at e ⊢
      exact ih e
section
variable {G : GC} {F : Addr → Prop} {H : Hp} {a : Addr} {o : Obj} {w : World} {xs : NX} {kvs : List (PyData × PyData)}
theorem wk_nk (f : F a) (e : H a = some (.frz o (nT w a xs))) (r : RpN G.K F H xs kvs) : WkD G (itNK w a o xs) (kvs.map (·.1)) F H := by
  have ln := r.length
  refine ⟨fun i F1 loc S H1 _ sub kp hi => ⟨kp a _ f e, ?_⟩, fun F1 loc S H1 _ sub kp => ⟨kp a _ f e, ?_⟩, fun i F1 loc S H1 x H' p hS sub kp e1 y => ?_⟩
  · rw [List.length_map] at hi
    omega
  · rw [List.length_map]
    omega
  · obtain ⟨rfl, k, b, v, hx, rfl⟩ := y
    obtain ⟨p', d, h1, _, h3, _⟩ := r.get hx
    rw [List.getElem?_map, h1] at e1
    cases e1
    exact ⟨F1, .refl hS, Rp.mono sub kp h3⟩
theorem wk_ni (f : F a) (e : H a = some (.frz o (nT w a xs))) (r : RpN G.K F H xs kvs) : WkD G (itNI w a o xs) (kvs.map fun kv => .tuple [kv.1, kv.2]) F H := by
  have ln := r.length
  refine ⟨fun i F1 loc S H1 _ sub kp hi => ⟨kp a _ f e, ?_⟩, fun F1 loc S H1 _ sub kp => ⟨kp a _ f e, ?_⟩, fun i F1 loc S H1 x H' p hS sub kp e1 y => ?_⟩
  · rw [List.length_map] at hi
    omega
  · rw [List.length_map]
    omega
  · obtain ⟨T, k, b, v, hx, rfl, hT, rfl⟩ := y
    obtain ⟨p', d, h1, _, h3, h4⟩ := r.get hx
    rw [List.getElem?_map, h1] at e1
    cases e1
    exact pair_new hS hT (Rp.mono sub kp h3) (Rp.mono sub kp h4)
end
section
variable {X : Cx} {G : GC} {W : WX} {cf : CallF} {tg e : Expr} {p1 apos cpos : Pos} {i j : Nat} {x y : Str} {M : Option Nat}
theorem lock_rd (hw : G.w = X.w) {F : Addr → Prop} {loc : Nat → Addr} {S : Store} {H : Hp} {s : Env} {t : L2.St} {l : Nat} {kvs : List (PyData × PyData)} {R : Obj → NX → Hp → Prop} (hS : SimS G F loc S H) (hE : SimE G F loc S H s t) (hd : dictAt S s[i]? = some (l, kvs))
    (h : ∀ o xs F' H', Nxt G F loc S H F' loc (S.set l (.ndl kvs)) H' → F' (loc l) → H' (loc l) = some (.frz o (nT X.w (loc l) xs)) → RpN G.K F' H' xs kvs → R o xs H') :
    ∃ xs, t[i]? = some (some (.ref (loc l))) ∧ lockN X.w (loc l) xs H fun o H2 => R o xs H2 := by
  obtain ⟨h1, h2⟩ := dict_at hd
  obtain ⟨w, h3, rfl, _⟩ := hE.at_ i _ h1
  rcases h2 with h2 | h2
  · obtain ⟨xs, e1, r1⟩ := hS.ob l _ h2
    rw [hw] at e1
    refine ⟨xs, h3, .inr ⟨e1, fun o => ?_⟩⟩
    have n := Nxt.lockN (od := o) hS h2 rfl r1
    rw [hw] at n
    exact h o xs _ _ n (.inr rfl) upd_same (RpN.mono n.sub n.keep r1)
  · obtain ⟨f, o, xs, e1, r1⟩ := hS.ob l _ h2
    rw [hw] at e1
    refine ⟨xs, h3, .inl ⟨o, e1, ?_⟩⟩
    have n := Nxt.refl hS
    rw [← setS_same h2] at n
    exact h o xs F H (by rw [setS_same h2]; exact .refl hS) f e1 r1
theorem I_nks (hw : G.w = X.w) (hN : X.N[i]? = some x) (hv : Vis X.env.scope x) (hd : (x == ("__debug__" : Str)) = false) (hcd : (x == ("__classdict__" : Str)) = false) : PI X tg (.Name x p1) (rdI G W cf (.nks i)) := by
  refine PImon (pi_nk (pe_var hN hv hd hcd)) ?_
  rintro t H R ⟨F, loc, s, S, hS, hE, p⟩
  simp only [evE] at p
  split at p
  · rename_i l kvs hdd
    obtain ⟨xs, h1, h2⟩ := lock_rd (i := i) (R := fun o xs H2 => R (itNK X.w (loc l) o xs) H2) hw hS hE hdd fun o xs F' H' n f e r => p _ _ _ _ n (wk_nk f e r)
    exact ⟨_, h1, loc l, xs, rfl, h2⟩
  · exact False.elim p
theorem I_nit (hw : G.w = X.w) (hN : X.N[i]? = some x) (hv : Vis X.env.scope x) (hd : (x == ("__debug__" : Str)) = false) (hcd : (x == ("__classdict__" : Str)) = false) {elts : List Expr} {kk : Nat} {tpos : Pos}
    (hbase : attributeBase (.Name x p1) "items" X.env (eval (.Name x p1) X.env) = eval (.Name x p1) X.env) (hline : (apos.endLine == cpos.line) = true) :
    PI X (.Tuple elts kk tpos) (.Call (.Attribute (.Name x p1) "items" apos) [] [] cpos) (rdI G W cf (.nit i)) := by
  refine PImon (pi_ni (pe_var hN hv hd hcd) hbase hline) ?_
  rintro t H R ⟨F, loc, s, S, hS, hE, p⟩
  simp only [evE] at p
  split at p
  · rename_i l kvs hdd
    obtain ⟨xs, h1, h2⟩ := lock_rd (i := i) (R := fun o xs H2 => R (itNI X.w (loc l) o xs) H2) hw hS hE hdd fun o xs F' H' n f e r => p _ _ _ _ n (wk_ni f e r)
    exact ⟨_, h1, loc l, xs, rfl, h2⟩
  · exact False.elim p
end
/-! ### update -/
noncomputable def putXs (xs : NX) (ys : NX) : NX := ys.foldl (fun acc y => putX acc y.1 y.2.1 y.2.2) xs
section
variable {K : PySem.W.Frag} {F : Addr → Prop} {H : Hp} {xs ys : NX} {vs ws : List (NestedKey × Addr × Value)} {ds es : List (PyData × PyData)}
theorem np_puts (r : NP xs vs) (r' : NP ys ws) : NP (putXs xs ys) (storedAllH vs ws) := by
  unfold putXs storedAllH
  induction r' generalizing xs vs with
  | nil => exact r
  | @cons p q _ _ hq _ ih =>
    rw [List.foldl_cons, List.foldl_cons]
    refine ih ?_
    rw [← hq.1, ← hq.2.1]
    exact np_put r hq.2.2
theorem rp_puts (r : RpN K F H xs ds) (r' : RpN K F H ys es) : RpN K F H (putXs xs ys) (putNs ds es) := by
  unfold putXs
  induction r' generalizing xs ds with
  | nil => exact r
  | @cons k b v xs' p d ds' h1 h2 h3 _ ih =>
    rw [List.foldl_cons]
    simp only [putNs, h1]
    exact ih (rp_put r h1 h2 h3)
theorem puts_nd (nd : (xs.map (·.1)).Nodup) : ((putXs xs ys).map (·.1)).Nodup := by
  unfold putXs
  induction ys generalizing xs with
  | nil => exact nd
  | cons y ys ih =>
    rw [List.foldl_cons]
    exact ih (putX_nd nd)
theorem puts_len : (putXs xs ys).length ≤ xs.length + ys.length := by
  unfold putXs
  induction ys generalizing xs with
  | nil => exact Nat.le_refl _
  | cons y ys ih =>
    rw [List.foldl_cons, List.length_cons]
    have := ih (xs := putX xs y.1 y.2.1 y.2.2)
    have := putX_len (xs := xs) (k := y.1) (b := y.2.1) (v := y.2.2)
    omega
end
section
variable {X : Cx} {o e : Expr} {apos cpos : Pos} {td ty : TE}
noncomputable def tNUp (w : World) (td ty : TE) : TE := fun σ H Q => td σ H fun x H1 => (∃ (a : Addr) (xs : NX), x = .ref a ∧ Rd H1 a (nT w a xs) ∧ HKs H1 xs) ∧ ty σ H1 fun y H2 =>
  ∃ (a c : Addr) (xs ys : NX), x = .ref a ∧ y = .ref c ∧ a ≠ c ∧ H2 a = some (nT w a xs) ∧ Rd H2 c (nT w c ys) ∧ HKs H2 xs ∧ HKs H2 ys ∧ 0 < xs.length ∧ xs.length + ys.length ≤ sizeLine ∧ Q .non (upd H2 a (nT w a (putXs xs ys)))
theorem pe_nup (hu : X.A.units + 9 < cLine) (ho : PE X o td) (he : PE X e ty) (m : M1 X o "update" apos e cpos) : PE X (.Call (.Attribute o "update" apos) [e] [] cpos) (tNUp X.w td ty) := by
  refine ⟨fun pins s σ H Q I h => ?_⟩
  refine wpAny_Call_method m.base m.few m.line PySem.F.plainAttrs_dict PySem.F.slot_dict_update PySem.F.type_dict_update (thn (ho.run pins s σ H _ I h) fun u s1 h1 => ?_)
  obtain ⟨x, H1, I1, rx, ⟨a, xs, rfl, e1, hs1⟩, q1⟩ := h1
  cases (show u = Value.ref a from rx)
  obtain ⟨t1, t2⟩ := dict_here I1 e1 hs1
  refine ⟨t1, t2, ?_⟩
  rw [m.trees]
  refine Calls.callWith_builtin rfl (Calls.evalArgs_plain (Calls.spliced_cons (thn (he.run pins s1 σ H1 _ I1 q1) fun iv s2 h2 => Calls.spliced_nil ?_)))
  obtain ⟨y, H2, I2, ry, a', c, xs', ys, ea, rfl, ne, ha, hc, ks, ks2, h0, hz, q2⟩ := h2
  cases ea
  cases (show iv = Value.ref c from ry)
  obtain ⟨_, sm, nd, vs, np, dd⟩ := nd_at I2.hok (.inl ha) ks
  obtain ⟨_, sm2, nd2, ws, np2, dd2⟩ := nd_at I2.hok hc ks2
  have l1 := np.length
  have l2 := np2.length
  refine call_update_dictH (by show X.A.units + 1 + 8 < cLine; omega) ne sm2 dd dd2 (.inl fun z => ?_) (by omega) fun h' hd' ho' sb => ⟨.non, _, ?_, rfl, q2⟩
  · rw [z, List.length_nil] at l1
    omega
  · have ex : ∃ q, h'.get? a = some q := let ⟨q, _, _, hq, _⟩ := hd'; ⟨q, hq⟩
    have ln := puts_len (xs := xs') (ys := ys)
    exact d_write I2 (by rw [ha]; exact True.intro) sb ex (nT_ok (by omega) sm (puts_nd nd) (np_puts np np2) hd')
variable {G : GC} {W : WX} {cf : CallF} {i j : Nat} {x y : Str} {M : Option Nat} {p1 p2 pos : Pos}
theorem S_nup (hw : G.w = X.w) (hu : X.A.units + 9 < cLine) (hN : X.N[i]? = some x) (hv : Vis X.env.scope x) (hd : (x == ("__debug__" : Str)) = false) (hcd : (x == ("__classdict__" : Str)) = false)
    (hN2 : X.N[j]? = some y) (hv2 : Vis X.env.scope y) (hd2 : (y == ("__debug__" : Str)) = false) (hcd2 : (y == ("__classdict__" : Str)) = false) (m : M1 X (.Name x p1) "update" apos (.Name y p2) cpos)
    (hs : swapsWith (.Call (.Attribute (.Name x p1) "update" apos) [.Name y p2] [] cpos) none pos.line X.env = pure false) :
    PS X (.Expr (.Call (.Attribute (.Name x p1) "update" apos) [.Name y p2] [] cpos) pos) (rdS G W M cf (.nup i j)) := by
  refine PSmon (ps_expr (pe_nup hu (pe_var hN hv hd hcd) (pe_var hN2 hv2 hd2 hcd2) m) hs) ?_
  rintro D t H ⟨F, loc, s, S, hS, hE, p⟩
  simp only [evS] at p
  split at p
  case h_2 => exact False.elim p
  rename_i l mm more hi hdd
  split at p
  case h_2 => exact False.elim p
  rename_i kvs hl
  split at p
  case isFalse => exact False.elim p
  rename_i hc
  obtain ⟨w3, h3, rfl, _⟩ := hE.at_ i _ hi
  obtain ⟨ys, h4, h5, h6⟩ := dict_sim hS hE hdd
  obtain ⟨xs, e1, rn⟩ := hS.ob l _ hl
  rw [hw] at e1 h5
  have ne : loc l ≠ loc mm := fun z => by
    obtain ⟨_, q⟩ := dict_at hdd
    rcases q with q | q
    · exact hc.1 (hS.inj l mm _ _ hl q rfl rfl z)
    · obtain ⟨f, _⟩ := hS.ob mm _ q
      rw [← z] at f
      exact hS.sep l _ hl rfl f
  refine ⟨_, h3, ⟨loc l, xs, rfl, .inl e1, rpN_hk rn⟩, _, h4, loc l, loc mm, xs, ys, rfl, rfl, ne, e1, h5, rpN_hk rn, rpN_hk h6, by rw [rn.length]; exact hc.2.1, by rw [rn.length, h6.length]; exact hc.2.2, ?_⟩
  have n3 := Nxt.put (u := nT X.w (loc l) (putXs xs ys)) hS hl rfl (o' := .nd (putNs kvs more)) (fun S' H' kp len e => ⟨_, by rw [hw]; exact e, rp_puts (RpN.mono (fun _ f => f) kp rn) (RpN.mono (fun _ f => f) kp h6)⟩) nT_solid
  exact p _ _ _ _ n3 (hE.next n3)
end
end IP
/-! a dict comprehension of such keys -/
namespace IP
open PySem PySem.Calls PySem.Spec PyProof.Rows L2
/-- one pair put by a comprehension -/
theorem n_set {X : Cx} {pins : List (Addr × Obj)} {σ : L2.St} {H : Hp} {s : Shared} {a b : Addr} {xs : NX} {k : NestedKey} {v : V} {r : Value} {A : Around} {E : Value → Shared → Prop} {Q : Unit → Shared → Prop} (hu : A.units + 8 < cLine) (I : Inv X pins σ H s) (e : H a = some (nT X.w a xs))
    (hs : HKs H xs) (hk : HKeyT H b k) (z : xs.length < sizeLine) (rv : RelV v r) (h : ∀ s', Inv X pins σ (upd H a (nT X.w a (putX xs k b v))) s' → Q () s') : wpAny (model X.prog X.w) A (dictSet a (.ref b) r) Q E s := by
  obtain ⟨_, sm, nd, vs, np, dd⟩ := nd_at I.hok (.inl e) hs
  refine wpAny_dictSet_heap (hsz := by rw [← np.length]; omega) (show A.units + 8 < cLine from hu) (hkT_is I.hok hk) dd fun h' hm' sb => h _ ?_
  have ex : ∃ q, h'.get? a = some q := let ⟨q, _, _, hq, _⟩ := hm'; ⟨q, hq⟩
  have ln := putX_len (xs := xs) (k := k) (b := b) (v := v)
  exact d_write I (by rw [e]; exact True.intro) sb ex (nT_ok (by omega) sm (putX_nd nd) (np_put np rv) hm')
/-- one turn's wish -/
noncomputable def turnD (w : World) (D : Addr) (J : It) (g : TG) (tk tv : TE) (vs : List Nat) (σ : L2.St) (W : Nat → Nat → Hp → Prop) (i m : Nat) (H : Hp) : Prop :=
  J.go i H ∧ ∀ x H', J.yld i H x H' → g x (wipe σ vs) H' fun σ2 H2 => wipe σ2 vs = wipe σ vs ∧ tk σ2 H2 fun y H3 => tv σ2 H3 fun z H4 =>
    ∃ (b : Addr) (k : NestedKey) (xs : NX), y = .ref b ∧ HKeyT H4 b k ∧ H4 D = some (nT w D xs) ∧ HKs H4 xs ∧ xs.length < sizeLine ∧ ∃ m', m' < m ∧ W (i + 1) m' (upd H4 D (nT w D (putX xs k b z)))
noncomputable def tNDc (w : World) (wi : TI) (g : TG) (tk tv : TE) (vs : List Nat) : TE := fun σ H Q => wi σ H fun J H1 => ∀ D, H1 D = none → ∃ W : Nat → Nat → Hp → Prop, (∃ m, W 0 m (upd H1 D (nT w D []))) ∧
  ∀ i m H, W i m H → (J.stop i H ∧ Q (.ref D) H) ∨ turnD w D J g tk tv vs σ W i m H
section
variable {X : Cx} {kx vx tg iter : Expr} {scope : Scope} {own : List (Str × Nat)} {pos : Pos} {wi : TI} {g : TG} {tk tv : TE}
theorem pe_ndc (hc : X.calm = true) (hN : X.N.Nodup) (hu : X.A.units + 9 < cLine) (hi : PI X tg iter wi) (ok : BlkOk X.N X.env.scope scope own)
    (hg : ∀ (s : Shared) (H : Hp) (C : Addr) (cl : List (Str × Addr)) (fp : List Addr), PG (X.blk s H scope (compEnvC scope cl C X.env) fp) tg g)
    (hk : ∀ (s : Shared) (H : Hp) (C : Addr) (cl : List (Str × Addr)) (fp : List Addr), PE (X.blk s H scope (compEnvC scope cl C X.env) fp) kx tk)
    (he : ∀ (s : Shared) (H : Hp) (C : Addr) (cl : List (Str × Addr)) (fp : List Addr), PE (X.blk s H scope (compEnvC scope cl C X.env) fp) vx tv) (hs : ∀ x, foldedSetIterable iter X.env x = pure x) :
    PE X (.DictComp kx vx [⟨tg, iter, [], 0⟩] scope pos) (tNDc X.w wi g tk tv (own.map (·.2))) := by
  refine ⟨fun pins s σ H Q I h => ?_⟩
  rw [arm_eval_DictComp]
  have free : ∀ y ∈ scope.names, y.2 = .free → ∃ c, X.env.cells.lookup y.1 = some c := fun y hy e => I.ok.has _ (ok.free y hy e)
  refine wpAny_comprehension_free rfl hs (closure_ok free) ok.kind (fun y hy e => by rw [ok.uniq y hy, e]) (thn (hi.run pins s σ H _ I h) fun xv s1 hx => thn hx fun itv s2 h2 => ?_)
  obtain ⟨it, fp, tn, J, H2, rfl, I2, T, st2, f2, q⟩ := h2
  refine wpAny_newObj_type (newEnv_comp ?_)
  -- the new dict, at D
  generalize eD : s2.heap.objs.size = D
  obtain ⟨Wd, ⟨m0, w0⟩, turn⟩ := q D (I2.hok.fresh (Nat.le_of_eq eD))
  generalize e3 : ({ s2 with heap := s2.heap.push { cls := .type "dict", data := .dict #[] } } : Shared) = s3
  have hp3 : s3.heap = s2.heap.push { cls := .type "dict", data := .dict #[] } := by rw [← e3]
  have I3 : Inv X pins σ (upd H2 D (nT X.w D [])) s3 := by
    rw [← e3]
    refine I2.laid (t' := s2.toks) (fun b o e => Heap.get?_push_of_some _ e) (Nat.le_of_eq eD) ?_
    rw [← eD]
    exact nT_new s2.heap I2.big
  obtain ⟨H3, eH3⟩ : ∃ H3, upd H2 D (nT X.w D []) = H3 := ⟨_, rfl⟩
  have fp3 : ∀ b ∈ fp, FpOk X pins (upd H2 D (nT X.w D [])) b ∧ b < s3.heap.objs.size := fun b hb => by
    obtain ⟨o, e, _⟩ := T.obj _ _ st2 b hb
    have lt := Heap.lt_size e
    refine ⟨⟨?_, (f2 b hb).2⟩, ?_⟩
    · rw [upd_ne (by rw [← eD]; exact Nat.ne_of_lt lt)]
      exact (f2 b hb).1
    · rw [hp3, Heap.size_push]
      exact Nat.lt_succ_of_lt lt
  have st3 : tn 0 s3.heap := T.keep _ _ _ st2 fun b _ o e => by
    rw [hp3]
    exact Heap.get?_push_of_some _ e
  have I4 := block_start I3 ok hN fp3
  obtain ⟨C, eC⟩ : ∃ C, s3.heap.objs.size = C := ⟨_, rfl⟩
  obtain ⟨cl, ecl⟩ : ∃ cl, cellsFrom (s3.heap.objs.size + 1) scope.names (cloFrom X.env.cells scope.names []) = cl := ⟨_, rfl⟩
  have rg := hg s3 H3 C cl fp
  have rk := hk s3 H3 C cl fp
  have re := he s3 H3 C cl fp
  rw [eH3] at I3 I4 w0 fp3
  rw [ecl, eC] at I4
  show codeAny _ _ (.compStart _ 0 (.ref it) (.ref D) (compEnvC scope (cellsFrom (s3.heap.objs.size + 1) scope.names (cloFrom X.env.cells scope.names [])) s3.heap.objs.size X.env)) (compPost (model X.prog X.w) X.A X.xe _ _ (.ref D) s3.heap.objs.size) { s3 with heap := pushCells (s3.heap.push { cls := .type "dict", data := .dict #[] }) scope.names }
  obtain ⟨s4, e4⟩ : ∃ s4 : Shared, ({ s3 with heap := pushCells (s3.heap.push { cls := .type "dict", data := .dict #[] }) scope.names } : Shared) = s4 := ⟨_, rfl⟩
  have st4 : tn 0 s4.heap := T.keep _ _ _ st3 fun b _ o e => by
    rw [← e4]
    exact pushCells_keeps _ _ _ _ (Heap.get?_push_of_some _ e)
  rw [ecl, eC]
  rw [e4] at I4 ⊢
  obtain ⟨B, eB⟩ : ∃ B, X.blk s3 H3 scope (compEnvC scope cl C X.env) fp = B := ⟨_, rfl⟩
  have stat : ∀ {σ' : L2.St} {H' : Hp} {s' : Shared}, Inv (X.blk s3 H3 scope (compEnvC scope cl C X.env) fp) [] σ' H' s' → (∀ b ∈ fp, H' b = none) → ∀ b ∈ fp, FpOk (X.blk s3 H3 scope (compEnvC scope cl C X.env) fp) [] H' b :=
    fun {σ' H' s'} I' hn b hb => ⟨hn b hb, (I'.ok.exf b hb).1, I'.ok.exfs b hb, .inl hb, fun x c e => (I'.ok.exf b hb).2 x c e, fun p hp => absurd (show p ∈ ([] : List (Addr × Obj)) ++ [] from hp) (by simp)⟩
  have loop : codeAny (model X.prog X.w) X.A (.compLoop (.DictComp kx vx [⟨tg, iter, [], 0⟩] scope pos) 0 (.ref it) (.ref D) (compEnvC scope cl C X.env)) (compPost (model X.prog X.w) X.A X.xe none (fun w s' => ∃ v H', Inv X pins σ H' s' ∧ RelV v w ∧ Q v H') (.ref D) C) s4 := by
    refine compLoop_anyD (fun n s' => ∃ i H', Inv (X.blk s3 H3 scope (compEnvC scope cl C X.env) fp) [] (wipe σ (own.map (·.2))) H' s' ∧ tn i s'.heap ∧ (∀ b ∈ fp, H' b = none) ∧ Wd i n H') ?_ m0 ⟨0, H3, I4, st4, fun b hb => (fp3 b hb).1.1, w0⟩
    rintro n s5 ⟨i, H5, I5, st5, n5, w5⟩
    rcases turn i n H5 w5 with ⟨stop, qq⟩ | ⟨go, step⟩
    · refine thnF (T.done (X.blk s3 H3 scope (compEnvC scope cl C X.env) fp) rfl rfl rfl hc i [] s5 _ H5 (fun _ _ => False) I5 (stat I5 n5) st5 stop) fun r s6 hr => ?_
      obtain ⟨rfl, I6⟩ := hr
      have I7 : Inv X pins σ H5 s6 := I3.call' (ch := fp) I6.os I6.base I6.hok I6.bare fun b hb => ⟨(fp3 b hb).1.2.2.2.1, (fp3 b hb).1.2.1, (fp3 b hb).1.2.2.2.2.1, (fp3 b hb).1.2.2.2.2.2⟩
      have nC : H5 C = none := I6.free
      obtain ⟨m, hn, _⟩ := I6.loc
      have fo : FpOk X pins H5 s3.heap.objs.size := I3.fpOk (Nat.le_refl _) (by rw [eC]; exact nC)
      rw [eC] at fo
      refine ⟨m, hn, fun h2 sb => ⟨.ref D, H5, ?_, rfl, qq⟩⟩
      exact I7.turned (t' := s6.toks) (fun b o hb e => (sb.2 b hb).trans e) fo.1 fo.2.1 fo.2.2.2.1 fo.2.2.2.2.1 fo.2.2.2.2.2
    · refine thnF (T.item (X.blk s3 H3 scope (compEnvC scope cl C X.env) fp) rfl rfl rfl hc i [] s5 _ H5 (fun _ _ => False) I5 (stat I5 n5) st5 go) fun r s6 hr => ?_
      obtain ⟨u, rfl, h6⟩ := hr
      refine thnF h6 fun _ s7 h7 => ?_
      obtain ⟨x, H7, I7, r7, y7, st7, n7⟩ := h7
      have I7' := I7.pinned (stat I7 n7) (T.obj _ _ st7)
      refine thnF (rg.run _ s7 _ H7 x u _ I7' r7 (step x H7 y7)) fun _ s8 h8 => ?_
      obtain ⟨σ8, H8, I8, hw8, q8⟩ := h8
      refine thnF ((pts_nil (X := X.blk s3 H3 scope (compEnvC scope cl C X.env) fp)).run _ s8 σ8 H8 (fun b H' => b = true ∧ H' = H8) I8 ⟨rfl, rfl⟩) fun b s9 h9 => ?_
      obtain ⟨H9, I9, rfl, rfl⟩ := h9
      rw [if_pos rfl]
      refine thnF (rk.run _ s9 σ8 H9 _ I9 q8) fun z s10 h10 => ?_
      obtain ⟨yk, H10, I10, r10, q10⟩ := h10
      refine thnF (re.run _ s10 σ8 H10 _ I10 q10) fun z2 s11 h11 => ?_
      obtain ⟨yv, H11, I11, r11, b, k, xs, rfl, kb, hD, ks, lz, m', hm, wn⟩ := h11
      cases (show z = Value.ref b from r10)
      refine n_set (X := X.blk s3 H3 scope (compEnvC scope cl C X.env) fp) (show X.A.units + 8 < cLine by omega) I11 hD ks kb lz r11 fun s12 I12 => ⟨m', hm, i + 1, _, ?_, ?_, ?_, wn⟩
      · refine (I12.unpinned (pins := [])).weak (by rw [← hw8, wipe_length]) fun j v e => ?_
        rw [← hw8] at e
        exact (wipe_some e).1
      · exact T.keep _ _ _ st7 fun b hb o e => (I12.pin (b, o) (List.mem_append_right _ (List.mem_append_right _ (mem_pinsAt hb e)))).1
      · intro b hb
        obtain ⟨o, e, _⟩ := T.obj _ _ st7 b hb
        exact (I12.pin (b, o) (List.mem_append_right _ (List.mem_append_right _ (mem_pinsAt hb e)))).2.1
  exact codeAny_compStart_dict loop (T.self X.A 0 _ _ _ st4 loop)
end
end IP
namespace IP
open PySem PySem.Calls PySem.Spec PyProof.Rows L2
/-- all values true -/
noncomputable def trueX (ys : NX) : NX := ys.map fun x => (x.1, x.2.1, .bl true)
noncomputable def accX (ys : NX) (i : Nat) : NX := putXs [] (trueX (ys.take i))
theorem acc_next {ys : NX} {i : Nat} {k : NestedKey} {b : Addr} {v : V} (e : ys[i]? = some (k, b, v)) : accX ys (i + 1) = putX (accX ys i) k b (.bl true) := by
  unfold accX trueX putXs
  rw [List.take_add_one, e]
  show List.foldl _ [] (List.map _ (ys.take i ++ [(k, b, v)])) = _
  rw [List.map_append, List.foldl_append]
  rfl
theorem acc_len {ys : NX} {i : Nat} : (accX ys i).length ≤ i := by
  have h := puts_len (xs := []) (ys := trueX (ys.take i))
  unfold trueX at h
  rw [List.length_map, List.length_take, List.length_nil] at h
  exact Nat.le_trans h (by omega)
theorem acc_hk {H : Hp} {ys : NX} (h : HKs H ys) (i : Nat) : HKs H (accX ys i) := by
  unfold accX putXs
  have key : ∀ {zs xs : NX}, HKs H xs → HKs H zs → HKs H (zs.foldl (fun acc y => putX acc y.1 y.2.1 y.2.2) xs) := by
    intro zs
    induction zs with
    | nil => exact fun a _ => a
    | cons z zs ih =>
      intro xs a c
      rw [List.foldl_cons]
      exact ih (putX_hk a (c z (List.mem_cons_self ..))) fun x hx => c x (List.mem_cons_of_mem _ hx)
  refine key hks_nil fun x hx => ?_
  obtain ⟨y, hy, rfl⟩ := List.mem_map.mp hx
  exact h y (List.mem_of_mem_take hy)
theorem rp_true {K : PySem.W.Frag} {F : Addr → Prop} {H : Hp} {ys : NX} {ds : List (PyData × PyData)} (r : RpN K F H ys ds) : RpN K F H (trueX ys) (ds.map fun kv => (kv.1, .bool true)) := by
  induction r with
  | nil => exact .nil
  | cons h1 h2 h3 _ ih => exact .cons h1 h2 (.bl true) ih
theorem HKs.mono {H H' : Hp} {xs : NX} (h : HKs H xs) (hk : ∀ a ys, H a = some (.tup ys) → H' a = some (.tup ys)) : HKs H' xs := fun x hx => (h x hx).mono hk
section
variable {X : Cx} {G : GC} {W : WX} {cf : CallF} {i j k : Nat} {x y z : Str} {M : Option Nat} {p1 p2 p3 p4 pc cpos apos pos dpos : Pos} {kk : Nat} {scope : Scope}
theorem S_nuc (hc : X.calm = true) (hnd : X.N.Nodup) (hw : G.w = X.w) (hu : X.A.units + 9 < cLine) (hN : X.N[i]? = some x) (hv : Vis X.env.scope x) (hd : (x == ("__debug__" : Str)) = false) (hcd : (x == ("__classdict__" : Str)) = false)
    (hN2 : X.N[j]? = some y) (hv2 : Vis X.env.scope y) (hd2 : (y == ("__debug__" : Str)) = false) (hcd2 : (y == ("__classdict__" : Str)) = false) (ok : BlkOk X.N X.env.scope scope [(z, k)])
    (hg : ∀ (s : Shared) (H : Hp) (C : Addr) (cl : List (Str × Addr)) (fp : List Addr), PG (X.blk s H scope (compEnvC scope cl C X.env) fp) (.Name z p3) (gName k))
    (hk : ∀ (s : Shared) (H : Hp) (C : Addr) (cl : List (Str × Addr)) (fp : List Addr), PE (X.blk s H scope (compEnvC scope cl C X.env) fp) (.Name z p4) (tVar k))
    (m : M1 X (.Name x p1) "update" apos (.DictComp (.Name z p4) (.Constant (.bool true) kk pc) [⟨.Name z p3, .Name y p2, [], 0⟩] scope dpos) cpos)
    (hs : swapsWith (.Call (.Attribute (.Name x p1) "update" apos) [.DictComp (.Name z p4) (.Constant (.bool true) kk pc) [⟨.Name z p3, .Name y p2, [], 0⟩] scope dpos] [] cpos) none pos.line X.env = pure false) :
    PS X (.Expr (.Call (.Attribute (.Name x p1) "update" apos) [.DictComp (.Name z p4) (.Constant (.bool true) kk pc) [⟨.Name z p3, .Name y p2, [], 0⟩] scope dpos] [] cpos) pos) (rdS G W M cf (.nuc i j k)) := by
  refine PSmon (ps_expr (pe_nup hu (pe_var hN hv hd hcd) (pe_ndc (own := [(z, k)]) hc hnd hu (pi_nk (pe_var hN2 hv2 hd2 hcd2)) ok hg hk (fun s H C cl fp => pe_bl (b := true)) (fun _ => rfl)) m) hs) ?_
  rintro D t H ⟨F, loc, s, S, hS, hE, p⟩
  simp only [evS] at p
  split at p
  case h_2 => exact False.elim p
  rename_i l mm more hi hdd
  split at p
  case h_2 => exact False.elim p
  rename_i kvs hl
  split at p
  case isFalse => exact False.elim p
  rename_i hcn
  obtain ⟨hkl, hne, h0, hz⟩ := hcn
  obtain ⟨w3, h3, rfl, _⟩ := hE.at_ i _ hi
  obtain ⟨xs, e1, rn⟩ := hS.ob l _ hl
  rw [hw] at e1
  refine ⟨_, h3, ⟨loc l, xs, rfl, .inl e1, rpN_hk rn⟩, ?_⟩
  have key : ∀ (o : Obj) (ys : NX) (F' : Addr → Prop) (H' : Hp), Nxt G F loc S H F' loc (S.set mm (.ndl more)) H' → F' (loc mm) → H' (loc mm) = some (.frz o (nT X.w (loc mm) ys)) → RpN G.K F' H' ys more → ∀ Dd, H' Dd = none →
      ∃ Wd : Nat → Nat → Hp → Prop, (∃ m, Wd 0 m (upd H' Dd (nT X.w Dd []))) ∧ ∀ a n Hx, Wd a n Hx → ((itNK X.w (loc mm) o ys).stop a Hx ∧ ∃ (a c : Addr) (xs ys : NX), V.ref (loc l) = .ref a ∧ V.ref Dd = .ref c ∧ a ≠ c ∧ Hx a = some (nT X.w a xs) ∧ Rd Hx c (nT X.w c ys) ∧ HKs Hx xs ∧ HKs Hx ys ∧ 0 < xs.length ∧ xs.length + ys.length ≤ sizeLine ∧ D.nx t (upd Hx a (nT X.w a (putXs xs ys)))) ∨
        turnD X.w Dd (itNK X.w (loc mm) o ys) (gName k) (tVar k) (tC (.bl true)) ([(z, k)].map (·.2)) t Wd a n Hx := by
    intro o ys F' H' n fm em ry Dd hD
    have ln := ry.length
    have ks := rpN_hk ry
    have nl : loc mm ≠ Dd := fun q => by
      rw [q, hD] at em
      cases em
    have tupD : ∀ a zs u, H' a = some (.tup zs) → upd H' Dd u a = some (.tup zs) := fun a zs u e => by
      rw [upd_ne (ne_of_none e hD)]
      exact e
    refine ⟨fun a n Hx => n = ys.length - a ∧ a ≤ ys.length ∧ Hx = upd H' Dd (nT X.w Dd (accX ys a)), ⟨ys.length, rfl, Nat.zero_le _, rfl⟩, ?_⟩
    rintro a n2 Hx ⟨rfl, hle, rfl⟩
    have emx : upd H' Dd (nT X.w Dd (accX ys a)) (loc mm) = some (.frz o (nT X.w (loc mm) ys)) := by
      rw [upd_ne nl]
      exact em
    by_cases hlt : a < ys.length
    · refine .inr ⟨⟨emx, hlt⟩, fun v H2 hy => ?_⟩
      obtain ⟨rfl, kk2, b, v2, hx, rfl⟩ := hy
      have ek := acc_next hx
      have lk : k < (wipe t [k]).length := by rw [wipe_length, ← hE.len]; exact hkl
      have kb := ks _ (List.mem_of_getElem? hx)
      refine ⟨?_, .ref b, List.getElem?_set_self lk, b, kk2, accX ys a, rfl, kb.mono fun a zs e => tupD a zs _ e, upd_same, (acc_hk ks a).mono fun a zs e => tupD a zs _ e, ?_, ys.length - (a + 1), by omega, rfl, hlt, ?_⟩
      · show wipe ((wipe t [k]).set k (some (.ref b))) [k] = wipe t [k]
        rw [wipe_same (t := wipe t [k]) List.length_set fun q hq => List.getElem?_set_ne fun e => hq (List.mem_singleton.mpr e.symm), wipe_wipe]
      · have := acc_len (ys := ys) (i := a)
        omega
      · rw [upd_upd, ek]
    · have ea : a = ys.length := by omega
      subst ea
      have hl' : (S.set mm (.ndl more))[l]? = some (.nd kvs) := by rw [List.getElem?_set_ne (Ne.symm hne)]; exact hl
      obtain ⟨xs', e1', rn'⟩ := n.sim.ob l _ hl'
      rw [hw] at e1'
      have nlD : loc l ≠ Dd := fun q => by
        rw [q, hD] at e1'
        cases e1'
      have al := acc_len (ys := ys) (i := ys.length)
      refine .inl ⟨⟨emx, Nat.le_refl _⟩, loc l, Dd, xs', accX ys ys.length, rfl, rfl, nlD, by rw [upd_ne nlD]; exact e1', .inl upd_same, (rpN_hk rn').mono fun a zs e => tupD a zs _ e, (acc_hk ks _).mono fun a zs e => tupD a zs _ e, by rw [rn'.length]; exact h0, by rw [rn'.length]; omega, ?_⟩
      have n2 := Nxt.lay (o := nT X.w Dd (accX ys ys.length)) n.sim hD
      have ra : RpN G.K F' (upd H' Dd (nT X.w Dd (accX ys ys.length))) (accX ys ys.length) (putNs [] (more.map fun kv => (kv.1, .bool true))) := by
        have hacc : accX ys ys.length = putXs [] (trueX ys) := by unfold accX; rw [List.take_length]
        exact Eq.mpr (congrArg (fun q => RpN G.K F' (upd H' Dd (nT X.w Dd (accX ys ys.length))) q (putNs [] (more.map fun kv => (kv.1, .bool true)))) hacc) (rp_puts .nil (rp_true (RpN.mono n2.sub n2.keep ry)))
      have n3 := Nxt.put (u := nT X.w (loc l) (putXs xs' (accX ys ys.length))) n2.sim hl' rfl (o' := .nd (putNs kvs (putNs [] (more.map fun kv => (kv.1, .bool true))))) (fun S' H' kp len e => ⟨_, by rw [hw]; exact e, rp_puts (RpN.mono (fun _ f => f) kp (RpN.mono n2.sub n2.keep rn')) (RpN.mono (fun _ f => f) kp ra)⟩) nT_solid
      exact p _ _ _ _ ((n.trans n2).trans n3) (((hE.next n).next n2).next n3)
  obtain ⟨ys, h4, h5⟩ := lock_rd (i := j) hw hS hE hdd key
  exact ⟨_, h4, loc mm, ys, rfl, h5⟩
end
end IP
/-! min of two tuples -/
namespace IP
open PySem PySem.Calls PySem.Spec PyProof.Rows L2
section
variable {prog : Program} {w : World} {A : Around} {E : Value → Shared → Prop} {s : Shared}
theorem min_two_data {a b : Value} {x y : PyData} {as : List Addr} {Q : Value → Shared → Prop} (hh : A.handled = none) (hr : ReadsAll s.heap [a, b] [x, y] as) (ha : PySem.W.AlikeAll [x, y]) (hu : A.units + 1 + PyData.depthAll [x, y] < cLine)
    (h : ∀ h' tk, (∀ c o, s.heap.get? c = some o → h'.get? c = some o) → Q (if PySem.W.dataLt y x = true then b else a) { s with heap := h', toks := tk }) : wpAny (model prog w) A (call (.builtin "min") [a, b]) Q E s := by
  have nm : (toString "min" ++ toString ".loop" : String) = "min.loop" := by decide
  refine call_function_tree PySem.F.kind_min PySem.F.plain_min PySem.F.entry_min (PySem.F.args_min2 _ _) ?_
  show wpAny _ A.in1 (Builtin.Builtins.bindParams "min" ["key", "default"] 0 ⟨[], []⟩ >>= _) _ _ s
  refine wpAny_bind (wpAny_of_eq (show Builtin.Builtins.bindParams "min" ["key", "default"] 0 ⟨[], []⟩ = pure [none, none] from rfl) ?_)
  show wpAny _ A.in1 (newTuple [a, b] >>= _) _ _ s
  refine wpAny_bind (wpAny_newObj_type ?_)
  have old : ∀ c o, s.heap.get? c = some o → (s.heap.push { cls := .type "tuple", data := .seq #[a, b] }).get? c = some o := fun c o e => Heap.get?_push_of_some _ e
  have tup : (s.heap.push { cls := .type "tuple", data := .seq #[a, b] }).IsTuple s.heap.objs.size #[a, b] := ⟨_, Heap.get?_push_size _ rfl, rfl, 0, rfl⟩
  have rd : ReadsAll (s.heap.push { cls := .type "tuple", data := .seq #[a, b] }) (#[a, b] : Array Value).toList [x, y] as := ReadsAll.keeps old hr
  generalize e1 : ({ s with heap := s.heap.push { cls := .type "tuple", data := .seq #[a, b] } } : Shared) = s1
  have hp1 : s1.heap = s.heap.push { cls := .type "tuple", data := .seq #[a, b] } := by rw [← e1]
  rw [← hp1] at tup rd old
  refine wpAny_bind (PySem.W.iter_tupleW (A := A.in1) (s := s1) hh tup fun s2 e2 Wk st hfp hw hk => ?_)
  refine wpAny_bind (wpAny_newObj_type ?_)
  have nf : s2.heap.objs.size ∉ [s1.heap.objs.size, s.heap.objs.size] := fun hm => Nat.lt_irrefl _ (hfp _ hm)
  rw [nm]
  refine wpAny_pure ⟨plainId_quiet PySem.F.plain_min_loop _, codeAny_min_loop_firstH Wk s1.heap hw (fun i j => PySem.W.dataLt ([x, y].getD i .none) ([x, y].getD j .none)) (PySem.W.cmpIn_lt (A := A.in1) rd ha (by show A.units + 1 + _ < _; exact hu)) s2.heap.objs.size nf
    (fresh_in hk) _ (show 0 < 2 by decide) (fun c o e => Heap.get?_push_of_some _ (hk c o e)) (Wk.frame 0 s2 _ s2.toks st (Nat.le_refl _) fun c _ o e => Heap.get?_push_of_some _ e) (Heap.get?_push_size _ rfl) fun v s' hP hm => ?_⟩
  obtain ⟨h', tk, e3, kp⟩ := PySem.W.moved_old (s := s1) e2 rfl (Moved.drop_new (tk := s2.toks) hm (Nat.le_refl _))
  have q := h h' tk fun c o e => kp c o (old c o e)
  have ev : v = if PySem.W.dataLt y x = true then b else a := by
    have hP : (#[a, b] : Array Value)[argBest (fun i j => PySem.W.dataLt ([x, y].getD i .none) ([x, y].getD j .none)) 1]? = some v := hP
    by_cases c : PySem.W.dataLt y x = true
    · have e : argBest (fun i j => PySem.W.dataLt ([x, y].getD i .none) ([x, y].getD j .none)) 1 = 1 := by
        show (if PySem.W.dataLt y x = true then 1 else 0) = 1
        rw [if_pos c]
      rw [e] at hP
      rw [if_pos c]
      exact (Option.some.inj hP).symm
    · have e : argBest (fun i j => PySem.W.dataLt ([x, y].getD i .none) ([x, y].getD j .none)) 1 = 0 := by
        show (if PySem.W.dataLt y x = true then 1 else 0) = 0
        rw [if_neg c]
      rw [e] at hP
      rw [if_neg c]
      exact (Option.some.inj hP).symm
  rw [e3, ev]
  rw [← e1]
  exact q
end
section
variable {X : Cx} {G : GC} {W : WX} {cf : CallF} {a b : Expr} {ia ib : IE} {p1 pos : Pos}
noncomputable def rMn2 (K : PySem.W.Frag) : List V → Hp → VK → Prop := fun vs H Q => ∃ (x y : V) (p q : PyData), vs = [x, y] ∧ Dp K H x p ∧ Dp K H y q ∧ PySem.W.AlikeAll [p, q] ∧ PyData.depthAll [p, q] ≤ 100 ∧ Q (if PySem.W.dataLt q p = true then y else x) H
theorem cr_mn2 (hc : X.calm = true) (hu : X.A.units + 200 < cLine) : CallR X (.builtin "min") (rMn2 X.K) := by
  intro pins s σ H vs us Q I r h
  obtain ⟨x, y, p, q, rfl, d1, d2, al, dp, k⟩ := h
  obtain ⟨u1, u2, rfl, r1, r2⟩ := vals2 r
  obtain ⟨as, rd⟩ := Dp.readsAll I [p, q] [x, y] _ (.cons d1 (.cons d2 .nil)) (.cons r1 (.cons r2 .nil))
  refine min_two_data (I.ok.hd hc) rd al (by omega) fun h' tk kp => ⟨_, H, I.kept kp, ?_, k⟩
  split <;> assumption
theorem mn2_ok {p q d : PyData} (h : mn2P p q = some d) : d = (if PySem.W.dataLt q p = true then q else p) ∧ PySem.W.AlikeAll [p, q] ∧ PyData.depthAll [p, q] ≤ 100 ∧ p.hasDict = false ∧ q.hasDict = false := by
  have nn : ∀ xs : List PyData, PyData.tuple xs ≠ .none := fun xs z => by cases z
  unfold mn2P at h
  split at h
  · rename_i xs ys
    split at h
    · rename_i a b h1 h2
      cases h
      cases intsOf_eq h1
      cases intsOf_eq h2
      have l := lt_enc b a
      have d1 := depR a
      have d2 := depR b
      unfold encR at l d1 d2
      refine ⟨by rw [l], ⟨fun x hx y hy => ?_, fun x hx => ?_⟩, by simp only [PyData.depthAll]; omega, noD a, noD b⟩
      · simp only [List.mem_cons, List.not_mem_nil, or_false] at hx hy
        rcases hx with rfl | rfl <;> rcases hy with rfl | rfl
        · exact alike_enc a a
        · exact alike_enc a b
        · exact alike_enc b a
        · exact alike_enc b b
      · simp only [List.mem_cons, List.not_mem_nil, or_false] at hx
        rcases hx with rfl | rfl <;> exact nn _
    · split at h
      · rename_i a b h1 h2
        cases h
        cases rows_eq h1
        cases rows_eq h2
        have l : PySem.W.dataLt (.tuple (b.map encR)) (.tuple (a.map encR)) = lexR b a := by rw [PySem.W.dataLt_tuple]; exact lt_rr b a
        have d1 := depRs a
        have d2 := depRs b
        have nd : ∀ rs : List (List Int), PyData.hasDictAll (rs.map encR) = false := fun rs => by
          induction rs with
          | nil => rfl
          | cons y ys ih =>
            show (PyData.hasDict (encR y) || PyData.hasDictAll (ys.map encR)) = false
            rw [ih, show PyData.hasDict (encR y) = false from noD y]
            rfl
        refine ⟨by rw [l], ⟨fun x hx y hy => ?_, fun x hx => ?_⟩, by simp only [PyData.depthAll, PyData.depth]; omega, nd a, nd b⟩
        · simp only [List.mem_cons, List.not_mem_nil, or_false] at hx hy
          rcases hx with rfl | rfl <;> rcases hy with rfl | rfl
          · exact alike_rr a a
          · exact alike_rr a b
          · exact alike_rr b a
          · exact alike_rr b b
        · simp only [List.mem_cons, List.not_mem_nil, or_false] at hx
          rcases hx with rfl | rfl <;> exact nn _
      · cases h
  · cases h
theorem E_mn2 (hK : G.K = X.K) (hc : X.calm = true) (hu : X.A.units + 200 < cLine) (hg : Gl X "min") (hm : X.mg "min" = none) (ha : PE X a (rdE G W cf ia)) (hb : PE X b (rdE G W cf ib)) (s1 : starEach [a, b] X.env = (false, eval a X.env) :: starEach [b] X.env) (s2 : starEach [b] X.env = (false, eval b X.env) :: starEach [] X.env)
    (hpl : (backTo pos (starEach [b] X.env)).any (·.1) = false) : PE X (.Call (.Name "min" p1) [a, b] [] pos) (rdE G W cf (.mn2 ia ib)) := by
  refine PEmon (pe_callB (cr_mn2 hc hu) hg hm rfl (pa_cons ha (pa_cons hb pa_nil s2) s1) (by decide) (by decide) s1 hpl) ?_
  rintro t H Q ⟨F, loc, s, S, hS, hE, p⟩
  simp only [evE] at p
  refine ⟨F, loc, s, S, hS, hE, Post.bind p fun v S1 w F1 loc1 H1 n r p1 => ⟨F1, loc1, s, S1, n.sim, hE.next n, Post.bind p1 fun v2 S2 w2 F2 loc2 H2 n2 r2 p2 => ?_⟩⟩
  split at p2
  · rename_i pd qd
    cases e : mn2P pd qd with
    | none => rw [e] at p2; exact False.elim p2
    | some d =>
      rw [e] at p2
      obtain ⟨rfl, al, dp, h1, h2⟩ := mn2_ok e
      have r1 : Rp G.K F2 H2 w pd := r.next n2
      have r2 : Rp G.K F2 H2 w2 qd := r2
      refine ⟨w, w2, pd, qd, rfl, hK ▸ r1.dp h1, hK ▸ r2.dp h2, al, dp, p2 _ _ _ _ (.refl n2.sim) (show Rp _ _ _ _ _ from ?_)⟩
      split
      · exact r2
      · exact r1
  · exact False.elim p2
end
end IP
/-! comprehensions with two clauses -/
namespace IP
open PySem PySem.Spec PyProof.Rows L2
noncomputable def comp2F (cf : CallF) (elt : IE) (pt : Pt) (ifs : List IE) (pt1 : Pt) (it1 : IE) (ifs1 : List IE) (own own1 : List Nat) (s : Env) (y : PyData) (S2 : Store) : Out (List PyData) := match bindPt pt (.dat y) (wipeE s own) with
  | some s' => (evAll cf ifs s' S2).nox.bind fun b S3 => if b = true then (itO (evE cf it1 s' S3)).nox.bind fun zs S4 => if zs.length ≤ 1000 then compL (compF cf elt pt1 ifs1 own1 s') zs S4 else .err else .ok [] S3
  | none => .err
theorem compLL_bind {f : PyData → Store → Out (List PyData)} {x : PyData} {xs : List PyData} {S : Store} {B : Type} (k : List PyData → Store → Out B) :
    (compLL f (x :: xs) S).bind k = (f x S).bind fun r S3 => (compLL f xs S3).bind fun rs S5 => k (r ++ rs) S5 := by
  simp only [compLL]
  cases f x S with
  | ok r S3 =>
    simp only [Out.bind_ok]
    cases compLL f xs S3 <;> rfl
  | exc c fs S3 => rfl
  | err => rfl
section
variable {G : GC} {F F' : Addr → Prop} {loc loc' : Nat → Addr} {S S' : Store} {H H' : Hp}
theorem SimE.shift (hF : ∀ a, F a → F' a) (hk : ∀ a o, F a → H a = some o → H' a = some o) (hl : ∀ l, l < S.length → loc' l = loc l) (hn : S.length ≤ S'.length) {s : Env} {t : L2.St} (e : SimE G F loc S H s t) : SimE G F' loc' S' H' s t :=
  ⟨e.len, fun i v h => let ⟨w, h1, h2⟩ := e.at_ i v h; ⟨w, h1, h2.shift hF hk hl hn⟩⟩
end
section
variable {X : Cx} {G : GC} {W : WX} {cf : CallF} {pos : Pos} {tg tg1 : Expr}
theorem comp2_rd {own : List (Str × Nat)} {own1 : List Nat} {it ielt it1 : IE} {pt pt1 : Pt} {iifs iifs1 : List IE} (hK : G.K = X.K) (hsl : ∀ i, i ∈ slots pt → i ∈ own.map (·.2)) (hsl1 : ∀ i, i ∈ slots pt1 → i ∈ own1) :
    ∀ t H Q, rdF G W cf (.comp2 ielt pt it iifs pt1 it1 iifs1 (own.map (·.2)) own1) t H Q → tLc2 (rdI G W cf it) (gOf X.K pt) (rdTs G W0 cf iifs) (rdI G W0 cf it1) (gOf X.K pt1) (rdTs G W0 cf iifs1) (rdE G W0 cf ielt) (own.map (·.2)) own1 t H Q := by
  rintro t H Q ⟨F, loc, s, S, hS, hE, p⟩
  simp only [evE] at p
  refine ⟨F, loc, s, S, hS, hE, ?_⟩
  cases qi : itO (evE cf it s S) with
  | err => rw [qi] at p; exact p
  | exc c fs S1 => rw [qi] at p; exact p
  | ok xs S1 =>
  rw [qi] at p
  intro J F1 loc1 H1 n0 wk D hD
  simp only [Out.bind_ok] at p
  split at p
  rotate_left
  · exact False.elim p
  rename_i hz
  have p : Post G (fun F' loc' S' H' v w => FrR G H F' loc' S' H' v w) W t F1 loc1 S1 H1 ((compLL (comp2F cf ielt pt iifs pt1 it1 iifs1 (own.map (·.2)) own1 s) xs S1).bind fun ys S5 => .ok (.dat (.list ys)) S5) Q := Post.step n0 p
  generalize hf : comp2F cf ielt pt iifs pt1 it1 iifs1 (own.map (·.2)) own1 s = f at p
  have nlD : ∀ l o, S1[l]? = some o → alive o = true → loc1 l ≠ D := fun l o e al q => (n0.sim.ob l o e).there al (by rw [q]; exact hD)
  have nFD : ¬ F1 D := fun f => n0.sim.dom D f hD
  refine ⟨fun i m H' => m = xs.length - i ∧ i ≤ xs.length ∧ ∃ F2 loc2 S2 acc ys, Nxt G F1 loc1 S1 H1 F2 loc2 S2 H' ∧ H' D = some (.lst acc) ∧ RpL G.K F2 H' acc ys ∧ ¬ F2 D ∧ (∀ l o, S2[l]? = some o → alive o = true → loc2 l ≠ D) ∧ acc.length ≤ 1000 * i ∧
    Post G (fun F' loc' S' H' v w => FrR G H F' loc' S' H' v w) W t F1 loc1 S1 H1 ((compLL f (xs.drop i) S2).bind fun r S5 => .ok (.dat (.list (ys ++ r))) S5) Q,
    ⟨xs.length, by omega, Nat.zero_le _, F1, loc1, S1, [], [], Nxt.lay n0.sim hD, upd_same, .nil, nFD, nlD, Nat.le_refl _, p⟩, ?_⟩
  rintro i m H' ⟨rfl, hle, F2, loc2, S2, acc, ys, n1, eD, rl, nF2, nl2, hacc, p1⟩
  by_cases hlt : i < xs.length
  rotate_left
  · have ei : i = xs.length := by omega
    subst ei
    refine .inl ⟨wk.stop F2 loc2 S2 H' n1.sim n1.sub n1.keep, ?_⟩
    rw [List.drop_length] at p1
    simp only [compLL, Out.bind_ok, List.append_nil] at p1
    exact p1 _ _ _ _ n1 ⟨ys, acc, D, rfl, rfl, eD, rl, nF2, nl2, n0.dom D (.inl hD)⟩
  refine .inr ⟨wk.go i F2 loc2 S2 H' n1.sim n1.sub n1.keep hlt, fun H'' => ∃ F2 loc2 S2 acc ys, Nxt G F1 loc1 S1 H1 F2 loc2 S2 H'' ∧ H'' D = some (.lst acc) ∧ RpL G.K F2 H'' acc ys ∧ ¬ F2 D ∧ (∀ l o, S2[l]? = some o → alive o = true → loc2 l ≠ D) ∧ acc.length ≤ 1000 * (i + 1) ∧
    Post G (fun F' loc' S' H' v w => FrR G H F' loc' S' H' v w) W t F1 loc1 S1 H1 ((compLL f (xs.drop (i + 1)) S2).bind fun r S5 => .ok (.dat (.list (ys ++ r))) S5) Q,
    fun H'' hN => ⟨xs.length - (i + 1), by omega, rfl, hlt, hN⟩, fun x H3 hy => ?_⟩
  have ex : xs[i]? = some xs[i] := List.getElem?_eq_getElem hlt
  rw [List.drop_eq_getElem_cons hlt, compLL_bind] at p1
  obtain ⟨F3, n3, r3⟩ := wk.yld i F2 loc2 S2 H' x H3 _ n1.sim n1.sub n1.keep ex hy
  obtain ⟨eD3, nF3, nl3⟩ := n3.apart eD (fun _ z => (by cases z)) nF2 nl2
  generalize xs[i] = y at p1 r3
  -- the target
  cases hb : bindPt pt (.dat y) (wipeE s (own.map (·.2))) with
  | none =>
    have fe : f y S2 = .err := by rw [← hf]; unfold comp2F; simp only [hb]
    rw [fe] at p1
    exact False.elim p1
  | some s' =>
  have hE3 : SimE G F3 loc2 S2 H3 s t := ((hE.next n0).next n1).next n3
  rw [← hK]
  refine gOf_ok (W := W) pt (hE3.wipe (own.map (·.2))) n3.sim (show RV G F3 loc2 S2 H3 (.dat y) x from r3) hb fun t' hE4 hl4 h4 => ?_
  refine ⟨?_, ?_⟩
  · rw [wipe_same (t := wipe t (own.map (·.2))) hl4 fun j hj => h4 j fun hm => hj (hsl j hm), wipe_wipe]
  -- the tests
  refine ⟨F3, loc2, s', S2, n3.sim, hE4, ?_⟩
  cases qt : evAll cf iifs s' S2 with
  | err =>
    have fe : f y S2 = .err := by rw [← hf]; unfold comp2F; simp only [hb, qt]; rfl
    rw [fe] at p1
    exact False.elim p1
  | exc c fs S' =>
    have fe : f y S2 = .err := by rw [← hf]; unfold comp2F; simp only [hb, qt]; rfl
    rw [fe] at p1
    exact False.elim p1
  | ok bt S3 =>
  intro bt' F4 loc4 H4 n4 ebt
  subst ebt
  obtain ⟨eD4, nF4, nl4⟩ := n4.apart eD3 (fun _ z => (by cases z)) nF3 nl3
  have n14 := (n1.trans n3).trans n4
  have rl4 : RpL G.K F4 H4 acc ys := (rl.mono n3.sub n3.keep).mono n4.sub n4.keep
  have hE5 : SimE G F4 loc4 S3 H4 s' t' := hE4.next n4
  cases bt with
  | false =>
    rw [if_neg Bool.false_ne_true]
    have fe : f y S2 = .ok [] S3 := by rw [← hf]; unfold comp2F; simp only [hb, qt]; rfl
    rw [fe] at p1
    simp only [Out.bind_ok, List.nil_append] at p1
    exact ⟨F4, loc4, S3, acc, ys, n14, eD4, rl4, nF4, nl4, by omega, p1⟩
  | true =>
  rw [if_pos rfl]
  -- the second source
  refine ⟨F4, loc4, s', S3, n4.sim, hE5, ?_⟩
  cases qj : itO (evE cf it1 s' S3) with
  | err =>
    have fe : f y S2 = .err := by rw [← hf]; unfold comp2F; simp only [hb, qt, qj, Out.nox_ok, Out.bind_ok, if_true]; rfl
    rw [fe] at p1
    exact False.elim p1
  | exc c fs S' =>
    have fe : f y S2 = .err := by rw [← hf]; unfold comp2F; simp only [hb, qt, qj, Out.nox_ok, Out.bind_ok, if_true]; rfl
    rw [fe] at p1
    exact False.elim p1
  | ok zs S4 =>
  by_cases hzs : zs.length ≤ 1000
  rotate_left
  · have fe : f y S2 = .err := by rw [← hf]; unfold comp2F; simp only [hb, qt, qj, Out.nox_ok, Out.bind_ok, if_true, hzs, if_false]
    rw [fe] at p1
    exact False.elim p1
  have fe : f y S2 = compL (compF cf ielt pt1 iifs1 own1 s') zs S4 := by rw [← hf]; unfold comp2F; simp only [hb, qt, qj, Out.nox_ok, Out.bind_ok, if_true, hzs]
  rw [fe] at p1
  generalize hf1 : compF cf ielt pt1 iifs1 own1 s' = f1 at p1
  intro J1 F5 loc5 H5 n5 wk1
  obtain ⟨eD5, nF5, nl5⟩ := n5.apart eD4 (fun _ z => (by cases z)) nF4 nl4
  have n15 := n14.trans n5
  refine ⟨fun j k H' => k = zs.length - j ∧ j ≤ zs.length ∧ ∃ F6 loc6 S6 acc6 ws, Nxt G F1 loc1 S1 H1 F6 loc6 S6 H' ∧ (∀ a, F5 a → F6 a) ∧ (∀ a o, F5 a → H5 a = some o → H' a = some o) ∧ SimE G F6 loc6 S6 H' s' t' ∧ H' D = some (.lst acc6) ∧ RpL G.K F6 H' acc6 (ys ++ ws) ∧ ¬ F6 D ∧ (∀ l o, S6[l]? = some o → alive o = true → loc6 l ≠ D) ∧ acc6.length ≤ 1000 * i + j ∧
    Post G (fun F' loc' S' H' v w => FrR G H F' loc' S' H' v w) W t F1 loc1 S1 H1 ((compL f1 (zs.drop j) S6).bind fun r S7 => (compLL f (xs.drop (i + 1)) S7).bind fun rs S8 => .ok (.dat (.list (ys ++ (ws ++ r ++ rs)))) S8) Q,
    ⟨zs.length, by omega, Nat.zero_le _, F5, loc5, S4, acc, [], n15, fun _ f => f, fun _ _ _ e => e, hE5.next n5, eD5, by rw [List.append_nil]; exact rl4.mono n5.sub n5.keep, nF5, nl5, by omega, p1⟩, ?_⟩
  rintro j k H6 ⟨rfl, hle1, F6, loc6, S6, acc6, ws, n6, sub6, kp6, hE6, eD6, rl6, nF6, nl6, hacc6, p2⟩
  by_cases hlt1 : j < zs.length
  rotate_left
  · have ej : j = zs.length := by omega
    subst ej
    refine .inl ⟨wk1.stop F6 loc6 S6 H6 n6.sim sub6 kp6, ?_⟩
    rw [List.drop_length] at p2
    simp only [compL, Out.bind_ok, List.append_nil] at p2
    refine ⟨F6, loc6, S6, acc6, ys ++ ws, n6, eD6, rl6, nF6, nl6, by omega, ?_⟩
    simp only [List.append_assoc]
    exact p2
  refine .inr ⟨wk1.go j F6 loc6 S6 H6 n6.sim sub6 kp6 hlt1, fun H'' => ∃ F6 loc6 S6 acc6 ws, Nxt G F1 loc1 S1 H1 F6 loc6 S6 H'' ∧ (∀ a, F5 a → F6 a) ∧ (∀ a o, F5 a → H5 a = some o → H'' a = some o) ∧ SimE G F6 loc6 S6 H'' s' t' ∧ H'' D = some (.lst acc6) ∧ RpL G.K F6 H'' acc6 (ys ++ ws) ∧ ¬ F6 D ∧ (∀ l o, S6[l]? = some o → alive o = true → loc6 l ≠ D) ∧ acc6.length ≤ 1000 * i + (j + 1) ∧
    Post G (fun F' loc' S' H' v w => FrR G H F' loc' S' H' v w) W t F1 loc1 S1 H1 ((compL f1 (zs.drop (j + 1)) S6).bind fun r S7 => (compLL f (xs.drop (i + 1)) S7).bind fun rs S8 => .ok (.dat (.list (ys ++ (ws ++ r ++ rs)))) S8) Q,
    fun H'' hN => ⟨zs.length - (j + 1), by omega, rfl, hlt1, hN⟩, fun x1 H7 hy1 => ?_⟩
  have ez : zs[j]? = some zs[j] := List.getElem?_eq_getElem hlt1
  rw [List.drop_eq_getElem_cons hlt1] at p2
  obtain ⟨F7, n7, r7⟩ := wk1.yld j F6 loc6 S6 H6 x1 H7 _ n6.sim sub6 kp6 ez hy1
  obtain ⟨eD7, nF7, nl7⟩ := n7.apart eD6 (fun _ z => (by cases z)) nF6 nl6
  generalize zs[j] = z at p2 r7
  cases hb1 : bindPt pt1 (.dat z) (wipeE s' own1) with
  | none =>
    rw [compL_no _ (by rw [← hf1]; unfold compF; simp only [hb1]; rfl)] at p2
    exact False.elim p2
  | some s'' =>
  have hE7 : SimE G F7 loc6 S6 H7 s' t' := hE6.next n7
  refine gOf_ok (W := W) pt1 (hE7.wipe own1) n7.sim (show RV G F7 loc6 S6 H7 (.dat z) x1 from r7) hb1 fun t'' hE8 hl8 h8 => ?_
  refine ⟨?_, ?_⟩
  · rw [wipe_same (t := wipe t' own1) hl8 fun j hj => h8 j fun hm => hj (hsl1 j hm), wipe_wipe]
  refine ⟨F7, loc6, s'', S6, n7.sim, hE8, ?_⟩
  cases qt1 : evAll cf iifs1 s'' S6 with
  | err =>
    rw [compL_no _ (by rw [← hf1]; unfold compF; simp only [hb1, qt1, Out.bind_err, Out.bind_exc, Out.bind_ok, Bool.false_eq_true, ↓reduceIte]; rfl)] at p2
    exact False.elim p2
  | exc c fs S' =>
    rw [compL_no _ (by rw [← hf1]; unfold compF; simp only [hb1, qt1, Out.bind_err, Out.bind_exc, Out.bind_ok, Bool.false_eq_true, ↓reduceIte]; rfl)] at p2
    exact False.elim p2
  | ok bt1 S7 =>
  intro bt1' F8 loc8 H8 n8 ebt1
  subst ebt1
  obtain ⟨eD8, nF8, nl8⟩ := n8.apart eD7 (fun _ z => (by cases z)) nF7 nl7
  have n78 := n7.trans n8
  have n68 := n6.trans n78
  have rl8 : RpL G.K F8 H8 acc6 (ys ++ ws) := rl6.mono n78.sub n78.keep
  have sub8 : ∀ a, F5 a → F8 a := fun a f => n78.sub a (sub6 a f)
  have kp8 : ∀ a o, F5 a → H5 a = some o → H8 a = some o := fun a o f e => n78.keep a o (sub6 a f) (kp6 a o f e)
  have hE9 : SimE G F8 loc8 S7 H8 s' t' := hE6.next n78
  cases bt1 with
  | false =>
    rw [if_neg Bool.false_ne_true]
    rw [compL_ok (o := none) _ (by rw [← hf1]; unfold compF; simp only [hb1, qt1, Out.bind_err, Out.bind_exc, Out.bind_ok, Bool.false_eq_true, ↓reduceIte]; rfl)] at p2
    exact ⟨F8, loc8, S7, acc6, ws, n68, sub8, kp8, hE9, eD8, rl8, nF8, nl8, by omega, p2⟩
  | true =>
    rw [if_pos rfl]
    refine ⟨F8, loc8, s'', S7, n8.sim, hE8.next n8, ?_⟩
    cases qe : evE cf ielt s'' S7 with
    | err =>
      rw [compL_no _ (by rw [← hf1]; unfold compF; simp only [hb1, qt1, qe, Out.bind_err, Out.bind_exc, Out.bind_ok, ↓reduceIte]; rfl)] at p2
      exact False.elim p2
    | exc c fs S' =>
      rw [compL_no _ (by rw [← hf1]; unfold compF; simp only [hb1, qt1, qe, Out.bind_err, Out.bind_exc, Out.bind_ok, ↓reduceIte]; rfl)] at p2
      exact False.elim p2
    | ok v S9 =>
    intro w F9 loc9 H9 n9 r9
    obtain ⟨eD9, nF9, nl9⟩ := n9.apart eD8 (fun _ z => (by cases z)) nF8 nl8
    cases v with
    | ref l =>
      rw [compL_no _ (by rw [← hf1]; unfold compF; simp only [hb1, qt1, qe, Out.bind_err, Out.bind_exc, Out.bind_ok, ↓reduceIte]; rfl)] at p2
      exact False.elim p2
    | exn c fs =>
      rw [compL_no _ (by rw [← hf1]; unfold compF; simp only [hb1, qt1, qe, Out.bind_err, Out.bind_exc, Out.bind_ok, ↓reduceIte]; rfl)] at p2
      exact False.elim p2
    | dat d =>
    rw [compL_ok (o := some d) _ (by rw [← hf1]; unfold compF; simp only [hb1, qt1, qe, Out.bind_err, Out.bind_exc, Out.bind_ok, ↓reduceIte]; rfl)] at p2
    have r9 : Rp G.K F9 H9 w d := r9
    have kD : ∀ b u, F9 b → H9 b = some u → upd H9 D (.lst (acc6 ++ [w])) b = some u := fun b u f e => by
      rw [upd_ne (fun z => nF9 (by rw [← z]; exact f))]
      exact e
    have small : acc6.length < sizeLine := by
      have h1 : 1000 * i + j < 1000 * xs.length := by omega
      have h2 : xs.length ≤ 1000 := hz
      rw [sizeLine_eq]
      omega
    refine ⟨acc6, eD9, small, F9, loc9, S9, acc6 ++ [w], ws ++ [d], Nxt.priv (n68.trans n9) (.inl hD) nF9 nl9 eD9 (solidN (fun _ z => (by cases z)) (fun _ z => (by cases z))) (solidN (fun _ z => (by cases z)) (fun _ z => (by cases z))), fun a f => n9.sub a (sub8 a f), fun a o f e => kD a o (n9.sub a (sub8 a f)) (n9.keep a o (sub8 a f) (kp8 a o f e)), (hE9.next n9).shift (fun _ f => f) kD (fun _ _ => rfl) (Nat.le_refl _), upd_same, ?_, nF9, nl9, ?_, ?_⟩
    · rw [← List.append_assoc]
      exact ((rl8.mono n9.sub n9.keep).append (.cons r9 .nil)).mono (fun _ f => f) kD
    · rw [List.length_append, List.length_singleton]
      omega
    · have e : ∀ r rs : List PyData, ys ++ ((ws ++ [d]) ++ r ++ rs) = ys ++ (ws ++ consO (some d) r ++ rs) := fun r rs => by
        simp [consO]
      simp only [e]
      exact p2
theorem F_comp2 {elt iter iter1 : Expr} {ifs ifs1 : List Expr} {scope : Scope} {own : List (Str × Nat)} {own1 : List Nat} {it ielt it1 : IE} {pt pt1 : Pt} {iifs iifs1 : List IE} (hK : G.K = X.K) (hc : X.calm = true) (hN : X.N.Nodup) (hi : PI X tg iter (rdI G W cf it)) (ok : BlkOk X.N X.env.scope scope own)
    (hv : ∀ i ∈ own1, i ∈ own.map (·.2))
    (hg : ∀ (s : Shared) (H : Hp) (C : Addr) (cl : List (Str × Addr)) (fp : List Addr), PG (X.blk s H scope (compEnvC scope cl C X.env) fp) tg (gOf X.K pt))
    (ht : ∀ (s : Shared) (H : Hp) (C : Addr) (cl : List (Str × Addr)) (fp : List Addr), PTs (X.blk s H scope (compEnvC scope cl C X.env) fp) ifs (rdTs G W0 cf iifs))
    (hi1 : ∀ (s : Shared) (H : Hp) (C : Addr) (cl : List (Str × Addr)) (fp : List Addr), PI (X.blk s H scope (compEnvC scope cl C X.env) fp) tg1 iter1 (rdI G W0 cf it1))
    (hg1 : ∀ (s : Shared) (H : Hp) (C : Addr) (cl : List (Str × Addr)) (fp : List Addr), PG (X.blk s H scope (compEnvC scope cl C X.env) fp) tg1 (gOf X.K pt1))
    (ht1 : ∀ (s : Shared) (H : Hp) (C : Addr) (cl : List (Str × Addr)) (fp : List Addr), PTs (X.blk s H scope (compEnvC scope cl C X.env) fp) ifs1 (rdTs G W0 cf iifs1))
    (he : ∀ (s : Shared) (H : Hp) (C : Addr) (cl : List (Str × Addr)) (fp : List Addr), PE (X.blk s H scope (compEnvC scope cl C X.env) fp) elt (rdE G W0 cf ielt))
    (hs : ∀ x, foldedSetIterable iter X.env x = pure x) (hs1 : ∀ env x, foldedSetIterable iter1 env x = pure x) (hsl : ∀ i, i ∈ slots pt → i ∈ own.map (·.2)) (hsl1 : ∀ i, i ∈ slots pt1 → i ∈ own1) :
    PE X (.ListComp elt [⟨tg, iter, ifs, 0⟩, ⟨tg1, iter1, ifs1, 0⟩] scope pos) (rdF G W cf (.comp2 ielt pt it iifs pt1 it1 iifs1 (own.map (·.2)) own1)) :=
  PEmon (pe_lc2 hc hN hi ok hv hg ht hi1 hg1 ht1 he hs hs1) (comp2_rd hK hsl hsl1)
end
end IP
/-! what is refused: an exception that a def is handed in a suite -/
namespace IP
open PySem PySem.Spec PyProof.Rows L2
section
variable {X : Cx}
theorem count_vals {y : V} : ∀ {ys : List V} {its : List Value}, Vals ys its → ys.all flatV = true → its.countP (eqU y) = ys.countP (fun z => eqV z y)
  | [], _, .nil, _ => rfl
  | z :: ys, _, .cons r rr, f => by
    rw [List.all_cons, Bool.and_eq_true] at f
    rw [List.countP_cons, List.countP_cons, count_vals rr f.2, eqU_of r f.1]
/-- xs.count(y) of a list of flat items -/
noncomputable def rCount (K : PySem.W.Frag) : V → List V → Hp → VK → Prop := fun x xs H Q => ∃ (a : Addr) (ys : List V) (y : V), x = V.ref a ∧ xs = [y] ∧ SqL K H a ys ∧ flatV y = true ∧ ys.all flatV = true ∧ Q (.int (ys.countP (fun z => eqV z y) : Nat)) H
theorem mt_count : MtR X "list.count" (rCount X.K) := by
  intro pins s σ H x xs v us Q I rx rxs h
  obtain ⟨a, ys, y, rfl, rfl, hs, fy, fys, q⟩ := h
  cases rx
  cases rxs with
  | cons ry rt =>
    rename_i uy ut
    cases rt
    obtain ⟨its, rv, ⟨⟨cls, dd, data, sl⟩, n, ho, hc, hdn, hd⟩, hlen⟩ := I.list hs
    simp only at hc hd
    subst hc hd
    refine call_meets PySem.F.slot_list_count ⟨_, ho, rfl⟩ PySem.F.entry_list_count (PySem.F.args_list_count_2 _ _)
      (SeqAt.list_countAt a its.toArray n dd sl uy (eqU y)) ⟨ho, fun u' hu' => mem_eqAt ry fy rv fys u' (by simpa using hu'), ?_⟩
    have e : its.toArray.toList.countP (eqU y) = ys.countP (fun z => eqV z y) := count_vals rv fys
    rw [e]
    exact ⟨.int _, H, I.tok _, ⟨_, rfl⟩, q⟩
end
/-! ### the classes of refusals -/
noncomputable def exN (k : Nat) : Str := match exNames[k]? with
  | some x => x
  | none => "ValueError"
/-- what the written part says of an exception's class -/
structure ExK (K : PySem.W.Frag) (C : Addr) : Prop where
  cl : (PySem.W.clsIn K C).isSome = true
  ga : PySem.W.findIn K (.ref C) "__getattribute__" = some (some (.builtin "BaseException.__getattribute__"))
  gt : ∃ gt, PySem.W.findIn K (.ref C) "__getattr__" = some gt
  sub : PySem.W.subIn K (.ref C) (.type "BaseException") = some true
  ha : PySem.W.findIn K (.ref C) "__class__" = some (some (.builtin "object.__class__"))
  hn : PySem.W.specialIn K (.builtin "object.__class__") "__get__" = some (some (.builtin "getset_descriptor.__get__"))
  tk : PySem.W.takesIn K (.builtin "object.__class__") = some true
  ob : PySem.W.mroIn K C (.type "object") = some true
/-- what is known of the classes of refusals, that at ecl c bears the name c -/
structure Refus (K : PySem.W.Frag) (mg : Str → Option Value) (ecl : Nat → Addr) : Prop where
  nm : ∀ c, c < 14 → mg (exN c) = some (.ref (ecl c))
  kp : ∀ c, c < 14 → PySem.W.keepIn K (.ref (ecl c)) = true
  ek : ∀ c, c < 14 → ExK K (ecl c)
  is1 : ∀ c j, c < 14 → j < 14 → PySem.W.kitOne K (.ref (ecl c)) (.ref (ecl j)) = some (decide (c = j))
  isv : ∀ c, c < 14 → PySem.W.kitOne K (.ref (ecl c)) (.type "ValueError") = some true
  mgv : mg "ValueError" = none
  mgi : mg "isinstance" = none
  own : ∀ c, c < 13 → ∃ bmB B newId initId, ExcBaseFacts B newId initId bmB ∧ PySem.W.excIn K (ecl c) bmB newId = true
  ra : ∀ c, c < 14 → PySem.W.subIn K (.ref (ecl c)) (.type "BaseException") = some true ∧ PySem.W.typeIn K (.ref (ecl c)) = some (.type "type")
  lb : ∃ CB, mg "LeapError" = some (.ref CB) ∧ ∀ c, c < 14 → PySem.W.exmOne K (.ref (ecl c)) (.ref CB) = some true
/-- a pinned exception of the class at C -/
noncomputable def PinE (X : Cx) (a C : Addr) : Prop := ∃ (o : Obj) (vs : Array Value), (a, o) ∈ X.pn ∧ o.cls = .ref C ∧ o.dict = none ∧ o.data = .fields vs
noncomputable def rIsP (X : Cx) : List V → Hp → VK → Prop := fun xs H Q => ∃ (a C : Addr) (c : V) (u : Value) (b : Bool), xs = [V.ref a, c] ∧ ClsV c u ∧ PinE X a C ∧ ExK X.K C ∧ PySem.W.kitOne X.K (.ref C) u = some b ∧ Q (.bl b) H
theorem call_isP {X : Cx} : CallR X (.builtin "isinstance") (rIsP X) := by
  intro pins s σ H xs us Q I r h
  obtain ⟨a, C, c, u, b, rfl, k, ⟨o, vs, hp, h2, h3, h4⟩, T, e, q⟩ := h
  obtain ⟨u1, u2, rfl, r1, r2⟩ := vals2 r
  have e2 := k.eq r2
  subst e2
  cases (show u1 = Value.ref a from r1)
  have h1 := (I.pin (a, o) (List.mem_append_left _ hp)).1
  obtain ⟨gt, hgt⟩ := T.gt
  have J : PySem.W.InstAt s.heap a o C none := ⟨h1, h2, by unfold PySem.W.notCls; rw [h4], by rw [h3]; trivial⟩
  exact PySem.W.kia_one (PySem.W.kitx_exc T.cl T.ga hgt T.sub T.ha T.hn T.tk T.ob) I.kIn J e (fun z => nomatch z) fun tk => ⟨.bl b, H, I.tok tk, rfl, q⟩
section
variable {X : Cx} {G : GC} {W : WX} {cf : CallF} {ecl : Nat → Addr} {e : Expr} {ie : IE} {p p2 pos : Pos} {k : Nat}
/-- a class's name, as a value -/
theorem exn_name (R : Refus X.K X.mg ecl) (hg : Gl X (exN k)) : ∃ c u, PE X (.Name (exN k) p2) (fun _ H Q => Q c H) ∧ ClsV c u ∧ ∀ j, j < 14 → PySem.W.kitOne X.K (.ref (ecl j)) u = some (decide (j = k) || decide (14 ≤ k)) := by
  by_cases h : k < 14
  · refine ⟨.ref (ecl k), .ref (ecl k), PEmon (pe_glob (v := V.ref (ecl k)) hg (R.nm k h) (show Value.ref (ecl k) = Value.ref (ecl k) from rfl) ?_) fun _ _ _ q => q, .own _, fun j hj => ?_⟩
    · have := List.all_eq_true.mp (show (List.range 14).all (fun k => !(exN k == ("__debug__" : Str))) = true by decide +kernel) k (List.mem_range.mpr h)
      simpa using this
    · rw [R.is1 j k hj h]
      have : ¬ 14 ≤ k := by omega
      simp [this]
  · have e : exN k = "ValueError" := by
      unfold exN
      rw [List.getElem?_eq_none (by show 14 ≤ k; omega)]
    rw [e] at hg ⊢
    refine ⟨.ty "ValueError", .type "ValueError", PEmon (pe_bltn (v := .ty "ValueError") hg R.mgv (by rfl) rfl (by decide) (by decide)) fun _ _ _ q => q, .ty _, fun j hj => ?_⟩
    rw [R.isv j hj]
    have : 14 ≤ k := by omega
    simp [this]
theorem E_isx (R : Refus X.K X.mg ecl) (hx : ∀ c w, G.exv (c + 1) [] w → c < 14 ∧ ∃ a, w = .ref a ∧ PinE X a (ecl c)) (hg : Gl X "isinstance") (hgz : Gl X (exN k)) (ha : PE X e (rdE G W cf ie))
    (he : starEach [e, .Name (exN k) p2] X.env = (false, eval e X.env) :: starEach [.Name (exN k) p2] X.env) (he2 : starEach [.Name (exN k) p2] X.env = (false, eval (.Name (exN k) p2) X.env) :: starEach [] X.env) (hpl : (backTo pos (starEach [.Name (exN k) p2] X.env)).any (·.1) = false) :
    PE X (.Call (.Name "isinstance" p) [e, .Name (exN k) p2] [] pos) (rdE G W cf (.isx ie k)) := by
  obtain ⟨c, u, hN, hc, hk⟩ := exn_name (p2 := p2) R hgz
  refine PEmon (pe_callB call_isP hg R.mgi (by rfl) (pa_cons ha (pa_cons hN pa_nil he2) he) (by decide) (by decide) he hpl) ?_
  rintro t' H Q ⟨F, loc, s, S, hS, hE, p⟩
  simp only [evE] at p
  refine ⟨F, loc, s, S, hS, hE, Post.bind p fun v S1 w F1 loc1 H1 n r p1 => ?_⟩
  split at p1
  · rename_i j
    obtain ⟨h1, a, rfl, h2⟩ := hx j w r
    exact ⟨a, ecl j, c, u, _, rfl, hc, h2, R.ek j h1, hk j h1, p1 _ _ _ _ (.refl n.sim) (show Rp _ _ _ _ _ from .bl _)⟩
  · exact False.elim p1
theorem cnt_eq {K : PySem.W.Frag} {F : Addr → Prop} {H : Hp} {y : V} {q : PyData} (r : Rp K F H y q) (hq : flatP q = true) : ∀ {vs : List V} {ds : List PyData}, RpL K F H vs ds → ds.all flatP = true → vs.countP (fun z => eqV z y) = ds.countP (fun z => PyData.eqv z q)
  | _, _, .nil, _ => rfl
  | _, _, .cons r1 l, h => by
    rw [List.all_cons, Bool.and_eq_true] at h
    rw [List.countP_cons, List.countP_cons, cnt_eq r hq l h.2, flat_eq r1 r h.1 hq]
theorem E_cnt {b : Bool} {o : Expr} {apos : Pos} {j : Nat} {cp : Pos} (hK : G.K = X.K) (ho : PE X o (rdE G W cf ie)) (hb : ∀ {te : TE}, PE X o te → PE X (.Call (.Attribute o "count" apos) [.Constant (.bool b) j cp] [] pos) (tBM X.K "list" (rCount X.K) te (tCons (tC (.bl b)) tNil))) :
    PE X (.Call (.Attribute o "count" apos) [.Constant (.bool b) j cp] [] pos) (rdE G W cf (.cnt ie (.bool b))) := by
  refine PEmon (hb ho) ?_
  rintro t H Q ⟨F, loc, s, S, hS, hE, p⟩
  simp only [evE] at p
  refine ⟨F, loc, s, S, hS, hE, Post.bind p fun v S1 w F1 loc1 H1 n r p1 => ?_⟩
  split at p1
  · rename_i d
    have r : Rp G.K F1 H1 w d := r
    cases r with
    | lst f e1 l =>
      simp only [cntP] at p1
      split at p1
      · rename_i hc
        refine ⟨.inl ⟨rfl, _, .inl (.inl e1)⟩, _, _, .bl b, rfl, rfl, .inl (.inl e1), rfl, flat_Vs l hc.2, ?_⟩
        rw [cnt_eq (q := .bool b) (.bl b) rfl l hc.2]
        exact p1 _ _ _ _ (.refl n.sim) (show Rp _ _ _ _ _ from .int _)
      · exact False.elim p1
    | _ => exact False.elim p1
  · exact False.elim p1
theorem E_ixo {b : Bool} {o : Expr} {apos : Pos} {j : Nat} {cp : Pos} (hK : G.K = X.K) (ho : PE X o (rdE G W cf ie)) (hb : ∀ {te : TE}, PE X o te → PE X (.Call (.Attribute o "index" apos) [.Constant (.bool b) j cp] [] pos) (tBM X.K "list" (rIndex X.K) te (tCons (tC (.bl b)) tNil))) :
    PE X (.Call (.Attribute o "index" apos) [.Constant (.bool b) j cp] [] pos) (rdE G W cf (.ixo ie (.bool b))) := by
  refine PEmon (hb ho) ?_
  rintro t H Q ⟨F, loc, s, S, hS, hE, p⟩
  simp only [evE] at p
  refine ⟨F, loc, s, S, hS, hE, Post.bind p fun v S1 w F1 loc1 H1 n r p1 => ?_⟩
  split at p1
  · rename_i d
    have r : Rp G.K F1 H1 w d := r
    cases r with
    | @lst a xs ds f e1 l =>
      simp only [ixoP] at p1
      split at p1
      · rename_i hc
        cases q : List.findIdx? (fun y => PyData.eqv y (.bool b)) ds with
        | none => rw [q] at p1; exact False.elim p1
        | some i =>
          rw [q] at p1
          obtain ⟨h1, h2, h3⟩ := List.findIdx?_eq_some_iff_getElem.mp q
          obtain ⟨z, hz, rz⟩ := l.get (List.getElem?_eq_getElem h1)
          have fl : ∀ {i : Nat} {d : PyData}, ds[i]? = some d → flatP d = true := fun e => List.all_eq_true.mp hc.2 _ (List.mem_of_getElem? e)
          refine ⟨.inl ⟨rfl, _, .inl (.inl e1)⟩, _, _, .bl b, i, z, rfl, rfl, .inl (.inl e1), rfl, flat_Vs l hc.2, hz, ?_, fun m z' hm hz' => ?_, p1 _ _ _ _ (.refl n.sim) (show Rp _ _ _ _ _ from .int _)⟩
          · rw [flat_eq (q := .bool b) rz (.bl b) (fl (List.getElem?_eq_getElem h1)) rfl]
            exact h2
          · obtain ⟨d, hd, rd⟩ := l.getV hz'
            rw [flat_eq (q := .bool b) rd (.bl b) (fl hd) rfl]
            obtain ⟨h4, rfl⟩ := List.getElem?_eq_some_iff.mp hd
            simpa using h3 m hm
      · exact False.elim p1
    | _ => exact False.elim p1
  · exact False.elim p1
end
end IP
namespace IP
open PySem PySem.Spec PyProof.Rows L2

/-! ### the table of a text's names -/
structure KwT where
  np : Nat
  ks : List Str
  perm : List Nat
  deriving DecidableEq
structure FnT where
  nm : Str
  cl : Option Nat
  n : Nat
  ps : List Str
  ds : List Int
  kws : List KwT
  lm : Bool
structure Tab where
  fns : List (Option FnT)
  cls : List Str
  flds : List Str
  gcs : List (Str × PyData)
  blt : List Str
  said : Bool
  rf : Bool
noncomputable def Tab.fn (T : Tab) (f : Nat) : Option FnT := match T.fns[f]? with
  | some (some t) => some t
  | _ => none
structure LC where
  N : List Str
  sc : Scope
  blk : Option Scope
  lm : Bool
/-- names whose cell is the block's own -/
noncomputable def fnB (L : LC) (x : Str) : Bool := match L.blk with
  | none => true
  | some s => s.names.lookup x == some .cell
inductive Mode where
  | E | F | T | W | I (tup : Bool)
noncomputable def mv (m : Mode) (e : Expr) : Bool := match m with
  | .E => true
  | .T => plainT e
  | .I _ => true
  | _ => false
noncomputable def mE : Mode → Bool
  | .E => true
  | _ => false
noncomputable def mF : Mode → Bool
  | .E => true
  | .F => true
  | .I _ => true
  | _ => false
noncomputable def mT : Mode → Bool
  | .E => true
  | .T => true
  | _ => false
noncomputable def visB (sc : Scope) (x : Str) : Bool := match sc.names.lookup x with
  | some .local => true
  | some .cell => true
  | some .free => true
  | _ => false
noncomputable def locB (L : LC) (x : Str) : Bool := match L.sc.names.lookup x with
  | some .local => true
  | some .cell => fnB L x
  | _ => false
noncomputable def glB (sc : Scope) (x : Str) : Bool := match sc.names.lookup x with
  | some .globalImplicit => true
  | _ => false
noncomputable def nmOk (x : Str) : Bool := !(x == ("__debug__" : Str)) && !(x == ("__classdict__" : Str))
noncomputable def sameC : PyData → PyData → Bool
  | .none, .none => true
  | .bool a, .bool b => decide (a = b)
  | .int a, .int b => decide (a = b)
  | .str a, .str b => decide (a = b)
  | _, _ => false
noncomputable def opB : BK → Operator → Bool
  | .add, .Add => true
  | .sub, .Sub => true
  | .mul, .Mult => true
  | .fdv, .FloorDiv => true
  | .mod, .Mod => true
  | .pow, .Pow => true
  | _, _ => false
noncomputable def ckB : CK → CmpOp → Bool
  | .eq, .Eq => true
  | .ne, .NotEq => true
  | .lt, .Lt => true
  | .le, .LtE => true
  | .gt, .Gt => true
  | .ge, .GtE => true
  | .inn, .In => true
  | .nin, .NotIn => true
  | _, _ => false
noncomputable def isB (n : Bool) : CmpOp → Bool
  | .Is => !n
  | .IsNot => n
  | _ => false
/-- a built-in function's name, where it gives no new list -/
noncomputable def bfN : BF → Option Str
  | .len => some "len"
  | .abs => some "abs"
  | .min2 => some "min"
  | .max2 => some "max"
  | .int => some "int"
  | .str => some "str"
  | .repr => some "repr"
  | .tuple => some "tuple"
  | .all => some "all"
  | .any => some "any"
  | .sum => some "sum"
  | .min => some "min"
  | _ => none
noncomputable def bfF : BF → Option Str
  | .list => some "list"
  | .sorted => some "sorted"
  | _ => none
noncomputable def tkS : TK → Str
  | .int => "int"
  | .bool => "bool"
  | .tuple => "tuple"
  | .str => "str"
noncomputable def gnB (T : Tab) (L : LC) (x : Str) : Bool := glB L.sc x && T.blt.contains x
mutual
noncomputable def chkP (L : LC) : Pt → Expr → Bool
  | .nm i, e => match e with
    | .Name x _ => decide (L.N[i]? = some x) && locB L x
    | _ => false
  | .tp ps, e => match e with
    | .Tuple es _ _ => noStars es && chkPs L ps es
    | _ => false
noncomputable def chkPs (L : LC) : List Pt → List Expr → Bool
  | [], es => match es with
    | [] => true
    | _ => false
  | p :: ps, es => match es with
    | e :: es => chkP L p e && chkPs L ps es
    | _ => false
end
/-- a comprehension's block -/
noncomputable def LC.in (L : LC) (sc : Scope) : LC := ⟨L.N, relS sc L.sc, some sc, false⟩
noncomputable def owns (L : LC) (own : List Nat) : List (Str × Nat) := own.map fun i => ((L.N[i]?).getD "", i)
/-- a lambda's block -/
noncomputable def LC.lam (L : LC) (sc : Scope) : LC := ⟨L.N, sc, some { sc with names := [] }, false⟩
/-- no parameters -/
noncomputable def noPar (a : Arguments) : Bool := a.posonlyargs.isEmpty && a.args.isEmpty && a.vararg.isNone && a.kwonlyargs.isEmpty && a.kw_defaults.isEmpty && a.kwarg.isNone && a.defaults.isEmpty
noncomputable def isTupE : Expr → Bool
  | .Tuple .. => true
  | _ => false
mutual
noncomputable def chk (T : Tab) : IE → Mode → LC → Expr → Bool
  | .bad, m, L, e => mE m
  | .var i, m, L, e => mv m e && match e with
    | .Name x _ => decide (L.N[i]? = some x) && visB L.sc x && nmOk x
    | _ => false
  | .frz i, m, L, e => mv m e && match e with
    | .Name x _ => decide (L.N[i]? = some x) && visB L.sc x && nmOk x
    | _ => false
  | .cst p, m, L, e => mv m e && match e with
    | .Constant c _ _ => match p, c with
      | .none, .none => true
      | .bool a, .bool b => decide (a = b)
      | .int a, .int b => decide (a = b)
      | .str a, .str b => decide (a = b)
      | _, _ => false
    | _ => false
  | .non, m, L, e => false
  | .gcs g p, m, L, e => mv m e && match e with
    | .Name x _ => glB L.sc x && nmOk x && match T.gcs[g]? with
      | some (y, q) => decide (x = y) && sameC p q
      | none => false
    | _ => false
  | .tup is, m, L, e => mv m e && match e with
    | .Tuple es _ _ => chkL T is L es
    | _ => false
  | .lst is, m, L, e => mF m && match e with
    | .List es _ => chkL T is L es
    | _ => false
  | .new i, m, L, e => mE m && chk T i .F L e
  | .ndc, m, L, e => mE m && match e with
    | .Dict [] [] _ => true
    | _ => false
  | .bin op a b, m, L, e => mv m e && match e with
    | .BinOp x o y _ => opB op o && (chk T a .E L x && chk T b .E L y)
    | _ => false
  | .neg a, m, L, e => mE m && match e with
    | .UnaryOp .USub x _ => chk T a .E L x
    | _ => false
  | .not a, m, L, e => match e with
    | .UnaryOp .Not x _ => match m with
      | .E => chk T a .E L x
      | .T => chk T a .T L x
      | _ => false
    | _ => false
  | .cmp op a b, m, L, e => mT m && match e with
    | .Compare x [o] [y] _ => ckB op o && !behindInMarks o y && (chk T a .E L x && chk T b .E L y)
    | _ => false
  | .chn op op' a b c, m, L, e => mT m && match e with
    | .Compare x [o, o'] [y, z] _ => ckB op o && ckB op' o' && !lastMarks [o, o'] [y, z] && (chk T a .E L x && chk T b .E L y && chk T c .E L z)
    | _ => false
  | .isc n a p, m, L, e => mT m && match e with
    | .Compare x [o] [.Constant c _ _] _ => isB n o && chk T a .E L x && (match p, c with
      | .none, .none => true
      | .bool a, .bool b => decide (a = b)
      | _, _ => false)
    | _ => false
  | .and a b, m, L, e => match e with
    | .BoolOp .And (x :: y :: r) pos => match m with
      | .E => chk T a .E L x && (match r with
        | [] => chk T b .E L y
        | _ => chk T b .E L (.BoolOp .And (y :: r) pos))
      | .T => chk T a .T L x && (match r with
        | [] => chk T b .T L y
        | _ => chk T b .W L (.BoolOp .And (y :: r) pos))
      | .W => chk T a .T L x && (match r with
        | [] => chk T b .T L y
        | _ => chk T b .W L (.BoolOp .And (y :: r) pos))
      | _ => false
    | _ => false
  | .or a b, m, L, e => match e with
    | .BoolOp .Or (x :: y :: r) pos => match m with
      | .E => chk T a .E L x && (match r with
        | [] => chk T b .E L y
        | _ => chk T b .E L (.BoolOp .Or (y :: r) pos))
      | .T => chk T a .T L x && (match r with
        | [] => chk T b .T L y
        | _ => chk T b .W L (.BoolOp .Or (y :: r) pos))
      | .W => chk T a .T L x && (match r with
        | [] => chk T b .T L y
        | _ => chk T b .W L (.BoolOp .Or (y :: r) pos))
      | _ => false
    | _ => false
  | .ite c a b, m, L, e => mE m && match e with
    | .IfExp z x y _ => chk T c .T L z && (chk T a .E L x && chk T b .E L y)
    | .BoolOp .Or [x, y] _ => orvB c a && (chk T a .E L x && chk T b .E L y)
    | _ => false
  | .call f is ds, m, L, e => mv m e && match e with
    | .Call (.Name x _) xs [] _ => match T.fn f with
      | some t => t.cl.isNone && decide (x = t.nm) && glB L.sc x && nmOk x && decide (is.length + ds.length = t.n) && (ds.isEmpty || decide (ds = t.ds)) && chkL T is L xs
      | none => false
    | _ => false
  | .callk f is ks perm, m, L, e => mv m e && match e with
    | .Call (.Name x _) xs kws _ => match T.fn f with
      | some t => t.cl.isNone && decide (x = t.nm) && glB L.sc x && nmOk x && kwAll kws && decide (perm.length = t.n) && decide (ks.length = (kwNames kws).length) && t.kws.contains ⟨is.length, kwNames kws, perm⟩ && chkL T is L xs && chkK T ks L kws
      | none => false
    | _ => false
  | .mk c f is, m, L, e => mv m e && match e with
    | .Call (.Name x _) xs [] _ => match T.fn f with
      | some t => decide (t.cl = some c) && decide (t.nm = "__init__") && decide (T.cls[c]? = some x) && glB L.sc x && nmOk x && decide (is.length + 1 = t.n) && chkL T is L xs
      | none => false
    | _ => false
  | .mth c f o is ds, m, L, e => mv m e && match e with
    | .Call (.Attribute y nm apos) xs [] pos => match T.fn f with
      | some t => decide (t.cl = some c) && decide (nm = t.nm) && decide (t.nm ≠ "__init__") && noCall y && (apos.endLine == pos.line) && decide (xs.length < 30) && decide (is.length + ds.length + 1 = t.n) && (ds.isEmpty || decide (ds = t.ds)) && chk T o .E L y && chkL T is L xs
      | none => false
    | _ => false
  | .bf b is, m, L, e => match b with
    | .isi t => mv m e && match e with
      | .Call (.Name x _) [y, .Name z _] [] _ => decide (x = "isinstance") && gnB T L x && decide (z = tkS t) && gnB T L z && noStar y && chkL T is L [y]
      | _ => false
    | b => match bfF b with
      | some n => mF m && (match e with
        | .Call (.Name x _) [y] [] _ => decide (x = n) && gnB T L x && noStar y && chkL T is L [y]
        | _ => false)
      | none => match bfN b with
        | some n => mv m e && (match e with
          | .Call (.Name x _) (y :: ys) [] _ => decide (x = n) && gnB T L x && chkL T is L (y :: ys)
          | _ => false)
        | none => false
  | .comp elt pt it ifs own, m, L, e => mF m && match e with
    | .ListComp el [⟨tg, iter, cs, 0⟩] scope _ => chk T it (.I (isTupE tg)) L iter && noSet iter && blkC L.N L.sc scope (owns L own) && chkP (L.in scope) pt tg && chkC T ifs (L.in scope) cs && chk T elt .E (L.in scope) el && (slots pt).all (own.contains ·)
    | _ => false
  | .comp2 elt pt it ifs pt1 it1 ifs1 own own1, m, L, e => mF m && match e with
    | .ListComp el [⟨tg, iter, cs, 0⟩, ⟨tg1, iter1, cs1, 0⟩] scope _ => (chk T it (.I (isTupE tg)) L iter && noSet iter && blkC L.N L.sc scope (owns L own) && chkP (L.in scope) pt tg && chkC T ifs (L.in scope) cs && chk T elt .E (L.in scope) el && (slots pt).all (own.contains ·)) && (chk T it1 (.I (isTupE tg1)) (L.in scope) iter1 && noSet iter1 && chkP (L.in scope) pt1 tg1 && chkC T ifs1 (L.in scope) cs1 && (slots pt1).all (own1.contains ·) && own1.all (own.contains ·))
    | _ => false
  | .idx a i, m, L, e => mv m e && match e with
    | .Subscript x y _ => noSlice y && (chk T a .E L x && chk T i .E L y)
    | _ => false
  | .sli a lo hi, m, L, e => mv m e && match e with
    | .Subscript x (.Slice l h none _) _ => chk T a .E L x && (match l with
      | none => isNon lo
      | some y => !isNon lo && chk T lo .E L y) && (match h with
      | none => isNon hi
      | some y => !isNon hi && chk T hi .E L y)
    | _ => false
  | .rev a, m, L, e => mv m e && match e with
    | .Subscript x (.Slice none none (some (.UnaryOp .USub (.Constant (.int 1) _ _) _)) _) _ => chk T a .E L x
    | _ => false
  | .fld o f, m, L, e => mv m e && match e with
    | .Attribute x nm _ => noCall x && decide (T.flds[f]? = some nm) && chk T o .E L x
    | _ => false
  | .rg1 a, m, L, e => match m with
    | .I _ => match e with
      | .Call (.Name x _) [y] [] _ => decide (x = "range") && gnB T L x && noStar y && chk T a .E L y
      | _ => false
    | _ => false
  | .rg2 a b, m, L, e => match m with
    | .I _ => match e with
      | .Call (.Name x _) [y, z] [] _ => decide (x = "range") && gnB T L x && noStar y && noStar z && chk T a .E L y && chk T b .E L z
      | _ => false
    | _ => false
  | .zip a b, m, L, e => match m with
    | .I true => match e with
      | .Call (.Name x _) [y, z] [] _ => decide (x = "zip") && gnB T L x && noStar y && noStar z && chk T a .E L y && chk T b .E L z
      | _ => false
    | _ => false
  | .enu a, m, L, e => match m with
    | .I true => match e with
      | .Call (.Name x _) [y] [] _ => decide (x = "enumerate") && gnB T L x && noStar y && chk T a .E L y
      | _ => false
    | _ => false
  | .rvd a, m, L, e => match m with
    | .I _ => match e with
      | .Call (.Name x _) [y] [] _ => decide (x = "reversed") && gnB T L x && noStar y && chk T a .E L y
      | _ => false
    | _ => false
  | .lr1 t a, m, L, e => (if t = true then mv m e else mF m) && match e with
    | .Call (.Name x _) [.Call (.Name y _) [z] [] _] [] _ => decide (x = if t = true then "tuple" else "list") && decide (y = "range") && gnB T L x && gnB T L y && noStar z && chk T a .E L z
    | _ => false
  | .lr2 t a b, m, L, e => (if t = true then mv m e else mF m) && match e with
    | .Call (.Name x _) [.Call (.Name y _) [z, u] [] _] [] _ => decide (x = if t = true then "tuple" else "list") && decide (y = "range") && gnB T L x && gnB T L y && noStar z && noStar u && chk T a .E L z && chk T b .E L u
    | _ => false
  | .pop i a, m, L, e => mE m && match e with
    | .Call (.Attribute (.Name x _) b apos) [v] [] cpos => decide (b = "pop") && decide (L.N[i]? = some x) && visB L.sc x && nmOk x && (apos.endLine == cpos.line) && noStar v && chk T a .E L v
    | _ => false
  | .cat a b, m, L, e => mF m && match e with
    | .BinOp x .Add y _ => chk T a .E L x && chk T b .E L y
    | _ => false
  | .lset a, m, L, e => mv m e && match e with
    | .Call (.Name x _) [.Call (.Name y _) [z] [] _] [] _ => decide (x = "len") && decide (y = "set") && gnB T L x && gnB T L y && noStar z && chk T a .E L z
    | _ => false
  | .dic0, m, L, e => mv m e && match e with
    | .Dict [] [] _ => true
    | _ => false
  | .dic1 k a, m, L, e => mv m e && match e with
    | .Dict [some (.Constant c _ _)] [y] _ => (match k, c with
      | .int a, .int b => decide (a = b)
      | .str a, .str b => decide (a = b)
      | _, _ => false) && noStar y && chk T a .E L y
    | .Dict [some (.Tuple [.Constant c1 _ _, .Constant c2 _ _] _ _)] [y] _ => (match k, c1, c2 with
      | .tuple [.int a, .int b], .int c, .int d => decide (a = c) && decide (b = d)
      | _, _, _ => false) && noStar y && chk T a .E L y
    | _ => false
  | .dgt i a b, m, L, e => mE m && match e with
    | .Call (.Attribute (.Name x _) g apos) [u, v] [] cpos => decide (g = "get") && decide (L.N[i]? = some x) && visB L.sc x && nmOk x && (apos.endLine == cpos.line) && noStar u && noStar v && chk T a .E L u && chk T b .E L v
    | _ => false
  | .sst a, m, L, e => mF m && match e with
    | .Call (.Name x _) [.Call (.Name y _) [z] [] _] [] _ => decide (x = "sorted") && decide (y = "set") && gnB T L x && gnB T L y && noStar z && chk T a .E L z
    | _ => false
  | .mx4 is, m, L, e => mv m e && match e with
    | .Call (.Name x _) (y :: ys) [] _ => decide (x = "max") && gnB T L x && chkL T is L (y :: ys)
    | _ => false
  | .dvs i, m, L, e => mF m && match e with
    | .Call (.Name f _) [.Call (.Attribute (.Name x _) g apos) [] [] cpos] [] _ => decide (f = "sorted") && decide (g = "values") && gnB T L f && decide (L.N[i]? = some x) && visB L.sc x && nmOk x && (apos.endLine == cpos.line)
    | _ => false
  | .mn2 a b, m, L, e => mv m e && match e with
    | .Call (.Name x _) [u, v] [] _ => decide (x = "min") && gnB T L x && noStar u && noStar v && chk T a .E L u && chk T b .E L v
    | _ => false
  | .nd0, m, L, e => mE m && match e with
    | .Dict [] [] _ => true
    | _ => false
  | .nd1 a b, m, L, e => mE m && match e with
    | .Dict [some u] [v] _ => chk T a .E L u && chk T b .E L v
    | _ => false
  | .nin n a i, m, L, e => mT m && match e with
    | .Compare u [o] [.Name x p] _ => ckB (if n = true then .nin else .inn) o && !behindInMarks o (.Name x p) && decide (L.N[i]? = some x) && visB L.sc x && nmOk x && chk T a .E L u
    | _ => false
  | .nix i a, m, L, e => mv m e && match e with
    | .Subscript (.Name x _) u _ => noSlice u && decide (L.N[i]? = some x) && visB L.sc x && nmOk x && chk T a .E L u
    | _ => false
  | .ngt i a b, m, L, e => mE m && match e with
    | .Call (.Attribute (.Name x _) g apos) [u, v] [] cpos => decide (g = "get") && decide (L.N[i]? = some x) && visB L.sc x && nmOk x && (apos.endLine == cpos.line) && noStar u && noStar v && chk T a .E L u && chk T b .E L v
    | _ => false
  | .nks i, m, L, e => match m with
    | .I _ => match e with
      | .Name x _ => decide (L.N[i]? = some x) && visB L.sc x && nmOk x
      | _ => false
    | _ => false
  | .nit i, m, L, e => match m with
    | .I true => match e with
      | .Call (.Attribute (.Name x _) g apos) [] [] cpos => decide (g = "items") && decide (L.N[i]? = some x) && visB L.sc x && nmOk x && (apos.endLine == cpos.line)
      | _ => false
    | _ => false
  | .isx a k, m, L, e => false
  | .cnt a q, m, L, e => false
  | .ixo a q, m, L, e => false
  | .said a, m, L, e => mv m e && match e with
    | .Call (.Name x _) [.Lambda params body scope _] [] _ => T.said && T.rf && L.lm && decide (x = "_law_said") && glB L.sc x && noPar params && LamX.lamSB L.sc scope && chk T a .E (L.lam scope) body
    | _ => false
noncomputable def chkL (T : Tab) : List IE → LC → List Expr → Bool
  | [], L, es => match es with
    | [] => true
    | _ => false
  | i :: is, L, es => match es with
    | e :: es => noStar e && chk T i .E L e && chkL T is L es
    | _ => false
noncomputable def chkK (T : Tab) : List IE → LC → List Keyword → Bool
  | [], L, es => match es with
    | [] => true
    | _ => false
  | i :: is, L, es => match es with
    | k :: es => chk T i .E L k.value && chkK T is L es
    | _ => false
/-- a comprehension's ifs: none, or one -/
noncomputable def chkC (T : Tab) : List IE → LC → List Expr → Bool
  | [], L, es => match es with
    | [] => true
    | _ => false
  | i :: is, L, es => match es with
    | [e] => chk T i .T L e && is.isEmpty
    | _ => false
end
end IP
/-! what is refused: the checker where an exception is handled -/
namespace IP
open PySem PySem.Spec PyProof.Rows L2
/-! ### later states -/
theorem Nxt.extN {G : GC} {F : Addr → Prop} {loc : Nat → Addr} {S : Store} {H H' : Hp} (h : SimS G F loc S H) (e : LamX.ExtN H H') (t : LamX.Tabs G.tb H') : Nxt G F loc S H F loc S H' := by
  have k : ∀ a o, F a → H a = some o → H' a = some o := fun a o f q => e a o q fun ps z => h.ntb a ps f (by rw [q, z])
  refine ⟨fun _ f => f, k, fun a o q nt _ => e a o q nt, fun a f => ?_, fun _ f => .inl f, fun _ _ => rfl, Nat.le_refl _, fun _ u q al => .inl ⟨u, q, al⟩, ⟨fun a f => ?_, fun l o q => ?_, h.inj, h.sep, fun a ps f z => ?_, t⟩⟩
  · cases q : H a with
    | none => exact .inl q
    | some o =>
      by_cases ht : ∃ ps, o = .tbl ps
      · obtain ⟨ps, rfl⟩ := ht
        exact .inr ⟨ps, q⟩
      · have nt : ∀ ps, o ≠ .tbl ps := fun ps z => ht ⟨ps, z⟩
        exact (f.ne (e a o q nt) nt).elim
  · cases q : H a with
    | none => exact absurd q (h.dom a f)
    | some o => rw [k a o f q]; exact fun z => by cases z
  · cases al : alive o with
    | false => exact RO.shiftD (fun _ f => f) k al (h.ob l o q)
    | true =>
      refine RO.shift (fun _ f => f) k (fun _ _ => rfl) (Nat.le_refl _) (fun u q2 => ?_) (h.ob l o q)
      obtain ⟨u', e1, s1⟩ := (h.ob l o q).solid al
      rw [e1] at q2
      cases q2
      exact e _ _ e1 s1.nt
  · cases q : H a with
    | none => exact h.dom a f q
    | some o =>
      rw [k a o f q] at z
      exact h.ntb a ps f (by rw [q]; exact z)
/-- what a run that starts with no store leaves -/
theorem Nxt.ext0 {G : GC} {F F' : Addr → Prop} {loc loc' : Nat → Addr} {S' : Store} {H H' : Hp} (n : Nxt G F loc [] H F' loc' S' H') : LamX.ExtN H H' := fun a o e nt => n.kp a o e nt fun l u q => by simp at q

structure XH (L : LC) (X : Cx) : Prop where
  N : X.N = L.N
  nd : L.N.Nodup
  sc : X.env.scope = L.sc
  kind : L.sc.kind = .function
  units : X.A.units + 64 < cLine
  fn : ∀ x, X.fn x = true
  nb : L.blk = none
/-- the readings of the modes -/
noncomputable def SemM (G : GC) (W : WX) (cf : CallF) (m : Mode) (X : Cx) (e : Expr) (ie : IE) : Prop := match m with
  | .E => PE X e (rdE G W cf ie)
  | .F => PE X e (rdF G W cf ie)
  | .T => PT X e (rdT G W cf ie)
  | .W => PW X e (rdT G W cf ie)
  | .I tup => ∀ tg, isTupE tg = tup → PI X tg e (rdI G W cf ie)
noncomputable def mvH (m : Mode) (e : Expr) : Bool := match m with
  | .E => true
  | .T => plainT e
  | _ => false
noncomputable def mFH (m : Mode) : Bool := match m with
  | .E => true
  | .F => true
  | _ => false
mutual
noncomputable def chkH : IE → Mode → LC → Expr → Bool
  | .bad, m, L, e => mE m
  | .var i, m, L, e => mvH m e && match e with
    | .Name x _ => decide (L.N[i]? = some x) && visB L.sc x && nmOk x
    | _ => false
  | .cst p, m, L, e => mvH m e && match e with
    | .Constant c _ _ => match p, c with
      | .bool a, .bool b => decide (a = b)
      | .int a, .int b => decide (a = b)
      | .str a, .str b => decide (a = b)
      | _, _ => false
    | _ => false
  | .lst is, m, L, e => mFH m && match e with
    | .List es _ => chkHL is L es
    | _ => false
  | .bin op a b, m, L, e => mvH m e && match e with
    | .BinOp x o y _ => opB op o && (chkH a .E L x && chkH b .E L y)
    | _ => false
  | .not a, m, L, e => match m with
    | .T => match e with
      | .UnaryOp .Not x _ => chkH a .T L x
      | _ => false
    | _ => false
  | .cmp op a b, m, L, e => mT m && match e with
    | .Compare x [o] [y] _ => ckB op o && !behindInMarks o y && (chkH a .E L x && chkH b .E L y)
    | _ => false
  | .or a b, m, L, e => match m with
    | .T => match e with
      | .BoolOp .Or [x, y] pos => chkH a .T L x && chkH b .T L y
      | _ => false
    | _ => false
  | .ite c a b, m, L, e => mE m && match e with
    | .IfExp z x y _ => chkH c .T L z && (chkH a .E L x && chkH b .E L y)
    | _ => false
  | .idx a i, m, L, e => mvH m e && match e with
    | .Subscript x y _ => noSlice y && (chkH a .E L x && chkH i .E L y)
    | _ => false
  | .isx a k, m, L, e => mvH m e && match e with
    | .Call (.Name x _) [y, .Name z _] [] _ => decide (x = "isinstance") && glB L.sc x && decide (z = exN k) && glB L.sc z && noStar y && chkH a .E L y
    | _ => false
  | .cnt a q, m, L, e => mE m && match e with
    | .Call (.Attribute y nm apos) [.Constant (.bool b) _ _] [] cpos => match q with
      | .bool b' => decide (b = b') && decide (nm = "count") && noCall y && (apos.endLine == cpos.line) && chkH a .E L y
      | _ => false
    | _ => false
  | .ixo a q, m, L, e => mE m && match e with
    | .Call (.Attribute y nm apos) [.Constant (.bool b) _ _] [] cpos => match q with
      | .bool b' => decide (b = b') && decide (nm = "index") && noCall y && (apos.endLine == cpos.line) && chkH a .E L y
      | _ => false
    | _ => false
  | _, _, _, _ => false
noncomputable def chkHL : List IE → LC → List Expr → Bool
  | [], L, es => match es with
    | [] => true
    | _ => false
  | i :: is, L, es => match es with
    | e :: es => noStar e && chkH i .E L e && chkHL is L es
    | _ => false
end
mutual
noncomputable def chkHS : IS → LC → Stmt → Bool
  | .asg t e, L, s => match t with
    | .nm i => match s with
      | .Assign [.Name x _] v _ => decide (L.N[i]? = some x) && locB L x && noComp v && chkH e .E L v
      | _ => false
    | _ => false
  | .ite c a b, L, s => match s with
    | .If cx as bs _ => chkH c .T L cx && chkHSs a L as && chkHSs b L bs
    | _ => false
  | .ret e, L, s => match s with
    | .Return (some v) _ => chkH e .E L v
    | _ => false
  | _, _, _ => false
noncomputable def chkHSs : List IS → LC → List Stmt → Bool
  | [], L, ss => match ss with
    | [] => true
    | _ => false
  | i :: is, L, ss => match ss with
    | s :: ss => chkHS i L s && chkHSs is L ss
    | _ => false
end
section
variable {L : LC} {X : Cx} {x : Str}
theorem XH.at_ {i : Nat} (h : XH L X) (g : L.N[i]? = some x) : X.N[i]? = some x := by rw [h.N]; exact g
theorem XH.vis (h : XH L X) (g : visB L.sc x = true) : Vis X.env.scope x := by
  unfold visB at g
  rw [h.sc]
  split at g
  · exact .inl (by assumption)
  · exact .inr (.inl (by assumption))
  · exact .inr (.inr (by assumption))
  · cases g
theorem XH.gl (h : XH L X) (g : glB L.sc x = true) : Gl X x := by
  unfold glB at g
  show X.env.scope.names.lookup x = some .globalImplicit
  rw [h.sc]
  split at g
  · assumption
  · cases g
theorem XH.loc (h : XH L X) (g : locB L x = true) : Loc X.env.scope x ∧ (X.fn x = true ∨ X.env.scope.names.lookup x = some .local) := by
  unfold locB at g
  rw [h.sc]
  split at g
  · exact ⟨.inl (by assumption), .inl (h.fn x)⟩
  · exact ⟨.inr (by assumption), .inl (h.fn x)⟩
  · cases g
theorem nmH (h : nmOk x = true) : (x == ("__debug__" : Str)) = false ∧ (x == ("__classdict__" : Str)) = false := by
  simpa only [nmOk, Bool.and_eq_true, Bool.not_eq_true'] using h
end
section
variable {G : GC} {cf : CallF} {ecl : Nat → Addr} {W : WX} {L : LC} {X : Cx} {e : Expr} {ie a b c o : IE} {is : List IE} {m : Mode} {x : Str}
/-- what the forms ask of the readings -/
structure HX (G : GC) (ecl : Nat → Addr) (X : Cx) : Prop where
  gk : G.K = X.K
  R : Refus X.K X.mg ecl
  hx : ∀ c w, G.exv (c + 1) [] w → c < 14 ∧ ∃ a, w = .ref a ∧ PinE X a (ecl c)
theorem mvH_sem (g : mvH m e = true) (p : PE X e (rdE G W cf ie)) : SemM G W cf m X e ie := by
  cases m with
  | E => exact p
  | F => cases g
  | T => exact T_val p (true_val g)
  | W => cases g
  | I tup => cases g
theorem mFH_sem (g : mFH m = true) (p : PE X e (rdF G W cf ie)) : SemM G W cf m X e ie := by
  cases m with
  | E => exact E_ofF p
  | F => exact p
  | T => cases g
  | W => cases g
  | I tup => cases g
theorem mEH_sem (g : mE m = true) (p : PE X e (rdE G W cf ie)) : SemM G W cf m X e ie := by
  cases m <;> first | exact p | cases g
theorem mTH_sem (g : mT m = true) (p : PE X e (rdE G W cf ie)) (q : PT X e (rdT G W cf ie)) : SemM G W cf m X e ie := by
  cases m <;> first | exact p | exact q | cases g
theorem opH : ∀ {op : BK} {o : Operator}, opB op o = true → OpR X (binaryOp o) (rDat X.K (lookO op) (binP op))
  | .add, .Add, _ => op_add_d
  | .sub, .Sub, _ => op_sub_d
  | .mul, .Mult, _ => op_mul_d
  | .fdv, .FloorDiv, _ => op_fdv_d
  | .mod, .Mod, _ => op_mod_d
  | .pow, .Pow, _ => op_pow_d
theorem ckH (hu : X.A.units + 64 < cLine) : ∀ {op : CK} {o : CmpOp}, ckB op o = true → OpR X (compareOp o) (rCmp X.K (cmpP op))
  | .eq, .Eq, _ => cmp_eq_d hu
  | .ne, .NotEq, _ => cmp_ne_d hu
  | .lt, .Lt, _ => cmp_lt_d
  | .le, .LtE, _ => cmp_le_d
  | .gt, .Gt, _ => cmp_gt_d
  | .ge, .GtE, _ => cmp_ge_d
  | .inn, .In, _ => cmp_in_d
  | .nin, .NotIn, _ => cmp_nin_d
variable (G cf ecl W X) in
noncomputable abbrev GoodH (ie : IE) : Prop := ∀ (m : Mode) (L : LC) (e : Expr), XH L X → HX G ecl X → chkH ie m L e = true → SemM G W cf m X e ie
variable (G cf ecl W X) in
noncomputable abbrev GoodHL (is : List IE) : Prop := ∀ (L : LC) (es : List Expr), XH L X → HX G ecl X → chkHL is L es = true → PA X es (rdL G W cf is)
theorem h_bin {op : BK} (ha : GoodH G cf ecl W X a) (hb : GoodH G cf ecl W X b) : GoodH G cf ecl W X (.bin op a b) := by
  intro m L e h hX c
  simp only [chkH, Bool.and_eq_true] at c
  obtain ⟨c1, c2⟩ := c
  split at c2
  · simp only [Bool.and_eq_true] at c2
    obtain ⟨c2, c3, c4⟩ := c2
    exact mvH_sem c1 (E_bin (opH c2) hX.gk (ha .E L _ h hX c3) (hb .E L _ h hX c4))
  · cases c2
theorem h_cst {p : PyData} : GoodH G cf ecl W X (.cst p) := by
  intro m L e h hX c
  simp only [chkH, Bool.and_eq_true] at c
  obtain ⟨c1, c2⟩ := c
  split at c2
  · split at c2
    · rw [decide_eq_true_eq] at c2; subst c2; exact mvH_sem c1 E_cbl
    · rw [decide_eq_true_eq] at c2; subst c2; exact mvH_sem c1 E_cint
    · rw [decide_eq_true_eq] at c2; subst c2; exact mvH_sem c1 E_cstr
    · cases c2
  · cases c2
theorem h_var {i : Nat} : GoodH G cf ecl W X (.var i) := by
  intro m L e h hX c
  simp only [chkH, Bool.and_eq_true] at c
  obtain ⟨c1, c2⟩ := c
  split at c2
  · simp only [Bool.and_eq_true, decide_eq_true_eq] at c2
    obtain ⟨⟨c2, c3⟩, c4⟩ := c2
    exact mvH_sem c1 (E_var (h.at_ c2) (h.vis c3) (nmH c4).1 (nmH c4).2)
  · cases c2
theorem h_cmp {op : CK} (ha : GoodH G cf ecl W X a) (hb : GoodH G cf ecl W X b) : GoodH G cf ecl W X (.cmp op a b) := by
  intro m L e h hX c
  simp only [chkH, Bool.and_eq_true] at c
  obtain ⟨c1, c2⟩ := c
  split at c2
  · simp only [Bool.and_eq_true, Bool.not_eq_true'] at c2
    obtain ⟨⟨c2, c5⟩, c3, c4⟩ := c2
    have A := ha .E L _ h hX c3
    have B := hb .E L _ h hX c4
    have O := ckH (X := X) h.units c2
    exact mTH_sem c1 (E_cmp O hX.gk A B c5) (T_cmp O hX.gk A B c5)
  · cases c2
theorem h_isx {k : Nat} (ha : GoodH G cf ecl W X a) : GoodH G cf ecl W X (.isx a k) := by
  intro m L e h hX c
  simp only [chkH, Bool.and_eq_true] at c
  obtain ⟨c1, c2⟩ := c
  split at c2
  · simp only [Bool.and_eq_true, decide_eq_true_eq] at c2
    obtain ⟨⟨⟨⟨⟨rfl, c3⟩, rfl⟩, c5⟩, c6⟩, c7⟩ := c2
    exact mvH_sem c1 (E_isx hX.R hX.hx (h.gl c3) (h.gl c5) (ha .E L _ h hX c7) (star_cons c6) (star_cons rfl) rfl)
  · cases c2
theorem h_cnt {q : PyData} (ha : GoodH G cf ecl W X a) : GoodH G cf ecl W X (.cnt a q) := by
  intro m L e h hX c
  simp only [chkH, Bool.and_eq_true] at c
  obtain ⟨c1, c2⟩ := c
  split at c2
  · split at c2
    · simp only [Bool.and_eq_true, decide_eq_true_eq] at c2
      obtain ⟨⟨⟨⟨rfl, rfl⟩, c4⟩, c5⟩, c6⟩ := c2
      exact mEH_sem c1 (E_cnt hX.gk (ha .E L _ h hX c6) fun {te} hv => pe_bm PySem.F.plainAttrs_list PySem.F.slot_list_count PySem.F.type_list_count mt_count hv (pa_cons pe_bl pa_nil rfl) (base_at c4) rfl c5 rfl rfl)
    · cases c2
  · cases c2
theorem h_ixo {q : PyData} (ha : GoodH G cf ecl W X a) : GoodH G cf ecl W X (.ixo a q) := by
  intro m L e h hX c
  simp only [chkH, Bool.and_eq_true] at c
  obtain ⟨c1, c2⟩ := c
  split at c2
  · split at c2
    · simp only [Bool.and_eq_true, decide_eq_true_eq] at c2
      obtain ⟨⟨⟨⟨rfl, rfl⟩, c4⟩, c5⟩, c6⟩ := c2
      exact mEH_sem c1 (E_ixo hX.gk (ha .E L _ h hX c6) fun {te} hv => pe_bm PySem.F.plainAttrs_list PySem.F.slot_list_index PySem.F.type_list_index mt_index hv (pa_cons pe_bl pa_nil rfl) (base_at c4) rfl c5 rfl rfl)
    · cases c2
  · cases c2
theorem h_no (h : ∀ m L e, chkH ie m L e = false) : GoodH G cf ecl W X ie := by
  intro m L e _ _ c
  rw [h] at c
  cases c
variable (G cf ecl W X)
mutual
theorem goodH : ∀ ie : IE, GoodH G cf ecl W X ie
  | .bad => fun m L e h hX c => by
    simp only [chkH] at c
    exact mEH_sem c E_bad
  | .var i => h_var
  | .cst p => h_cst
  | .lst is => fun m L e h hX c => by
    simp only [chkH, Bool.and_eq_true] at c
    obtain ⟨c1, c2⟩ := c
    split at c2
    · exact mFH_sem c1 (F_lst (goodHL is _ _ h hX c2))
    · cases c2
  | .bin op a b => h_bin (goodH a) (goodH b)
  | .not a => fun m L e h hX c => by
    simp only [chkH] at c
    split at c
    · split at c
      · exact T_not (goodH a .T L _ h hX c)
      · cases c
    · cases c
  | .cmp op a b => h_cmp (goodH a) (goodH b)
  | .or a b => fun m L e h hX c => by
    simp only [chkH] at c
    split at c
    · split at c
      · simp only [Bool.and_eq_true] at c
        exact PW.pt (T_or (goodH a .T L _ h hX c.1) (pw_or1 (goodH b .T L _ h hX c.2)))
      · cases c
    · cases c
  | .ite c a b => fun m L e h hX c' => by
    simp only [chkH, Bool.and_eq_true] at c'
    obtain ⟨c1, c2⟩ := c'
    split at c2
    · simp only [Bool.and_eq_true] at c2
      exact mEH_sem c1 (E_ite (goodH c .T L _ h hX c2.1) (goodH a .E L _ h hX c2.2.1) (goodH b .E L _ h hX c2.2.2))
    · cases c2
  | .idx a i => fun m L e h hX c => by
    simp only [chkH, Bool.and_eq_true] at c
    obtain ⟨c1, c2⟩ := c
    split at c2
    · simp only [Bool.and_eq_true] at c2
      exact mvH_sem c1 (E_idx (ix_plain c2.1) hX.gk (goodH a .E L _ h hX c2.2.1) (goodH i .E L _ h hX c2.2.2))
    · cases c2
  | .isx a k => h_isx (goodH a)
  | .cnt a q => h_cnt (goodH a)
  | .ixo a q => h_ixo (goodH a)
  | .mn2 _ _ | .nd0 | .nd1 _ _ | .nin _ _ _ | .nix _ _ | .ngt _ _ _ | .nks _ | .nit _ | .dgt _ _ _ | .dvs _ | .sst _ | .mx4 _ | .frz _ | .gcs _ _ | .tup _ | .new _ | .ndc | .neg _ | .chn _ _ _ _ _ | .isc _ _ _ | .and _ _ | .call _ _ _ | .callk _ _ _ _ | .mk _ _ _ | .mth _ _ _ _ _ | .bf _ _ | .comp _ _ _ _ _ | .comp2 _ _ _ _ _ _ _ _ _ | .sli _ _ _ | .rev _ | .non | .fld _ _ | .rg1 _ | .rg2 _ _ | .zip _ _ | .enu _ | .rvd _ | .lr1 _ _ | .lr2 _ _ _ | .pop _ _ | .cat _ _ | .lset _ | .dic0 | .dic1 _ _ | .said _ =>
    h_no fun m L e => by simp only [chkH]
theorem goodHL : ∀ is : List IE, GoodHL G cf ecl W X is
  | [] => fun L es h hX c => by
    simp only [chkHL] at c
    split at c
    · exact L_nil
    · cases c
  | i :: is => fun L es h hX c => by
    simp only [chkHL] at c
    split at c
    · simp only [Bool.and_eq_true] at c
      exact L_cons (goodH i .E L _ h hX c.1.2) (goodHL is _ _ h hX c.2) (star_cons c.1.1)
    · cases c
end
variable (M : Option Nat)
mutual
theorem goodHS (hw : ∀ cv d t t' H, W cv d t H → W cv d t' H) : ∀ (i : IS) (L : LC) (st : Stmt), XH L X → HX G ecl X → chkHS i L st = true → PS X st (rdS G W M cf i)
  | .asg t e, L, st, h, hX, c => by
    simp only [chkHS] at c
    split at c
    · split at c
      · simp only [Bool.and_eq_true, decide_eq_true_eq] at c
        obtain ⟨⟨⟨c1, c2⟩, c3⟩, c4⟩ := c
        obtain ⟨l1, l2⟩ := h.loc c2
        exact S_asg (ps_asg (goodH G cf ecl W X e .E L _ h hX c4) (G_nm (by rw [h.N]; exact h.nd) (h.at_ c1) l1 l2) (sw_sole c3) (st_none (.inl rfl)) (asg_one rfl)) (fun _ _ _ q => q) fun _ _ _ _ q => q
      · cases c
    · cases c
  | .ite ic a b, L, st, h, hX, c => by
    simp only [chkHS] at c
    split at c
    · simp only [Bool.and_eq_true] at c
      exact S_ite (goodH G cf ecl W X ic .T L _ h hX c.1.1) (goodHSs hw a L _ h hX c.1.2) (goodHSs hw b L _ h hX c.2)
    · cases c
  | .ret e, L, st, h, hX, c => by
    simp only [chkHS] at c
    split at c
    · exact S_ret (goodH G cf ecl W X e .E L _ h hX c)
    · cases c
  | .npt _ _ _, L, st, h, hX, c | .nup _ _, L, st, h, hX, c | .nuc _ _ _, L, st, h, hX, c | .dpt _ _ _, L, st, h, hX, c | .par _ _, L, st, h, hX, c | .exp _, L, st, h, hX, c | .app _ _, L, st, h, hX, c | .ext _ _, L, st, h, hX, c | .for_ _ _ _, L, st, h, hX, c | .whl _ _, L, st, h, hX, c | .rtn, L, st, h, hX, c | .rse _ _, L, st, h, hX, c | .tri _ _ _ _, L, st, h, hX, c | .nop, L, st, h, hX, c | .bad, L, st, h, hX, c => by
    simp only [chkHS] at c
    cases c
theorem goodHSs (hw : ∀ cv d t t' H, W cv d t H → W cv d t' H) : ∀ (i : List IS) (L : LC) (st : List Stmt), XH L X → HX G ecl X → chkHSs i L st = true → PSs X st (rdSs G W M cf i)
  | [], L, st, h, hX, c => by
    simp only [chkHSs] at c
    split at c
    · exact Ss_nil
    · cases c
  | i :: is, L, st, h, hX, c => by
    simp only [chkHSs] at c
    split at c
    · simp only [Bool.and_eq_true] at c
      exact Ss_cons hw (goodHS hw i L _ h hX c.1) (goodHSs hw is L _ h hX c.2)
    · cases c
end
end
end IP
/-! what is refused: the word of a refusal; a try that tells, handed a lambda -/
namespace IP
open PySem PySem.Spec PyProof.Rows L2
/-! ### the defs' texts -/
noncomputable def scopeOk (N ps : List Str) (sc : Scope) : Bool :=
  decide N.Nodup && decide (sc.kind = .function) && !sc.isCoroutine && !sc.isGenerator && decide (N.take ps.length = ps) && (ps.all fun x => decide (sc.names.lookup x = some .local) || decide (sc.names.lookup x = some .cell)) && (sc.names.all fun y => decide (y.2 ≠ .free))
theorem scope_ok {N ps : List Str} {sc : Scope} (h : scopeOk N ps sc = true) : FnScope N ps sc := by
  simp only [scopeOk, Bool.and_eq_true, decide_eq_true_eq, Bool.not_eq_true', List.all_eq_true, Bool.or_eq_true] at h
  obtain ⟨⟨⟨⟨⟨⟨h1, h2⟩, h3⟩, h4⟩, h5⟩, h6⟩, h7⟩ := h
  exact ⟨h2, h3, h4, h1, h5, h6, fun y hy => h7 y hy⟩
noncomputable def cf0 : CallF := fun _ _ _ => .err
noncomputable def kindN : List Str := ["_law_e", "_law_marks", "_law_names"]
noncomputable def kindIS : List IS :=
  [.asg (.nm 1) (.lst [.isx (.var 0) 0, .isx (.var 0) 1, .isx (.var 0) 2, .isx (.var 0) 3]),
   .asg (.nm 1) (.bin .add (.var 1) (.lst [.isx (.var 0) 4, .isx (.var 0) 5, .isx (.var 0) 6, .isx (.var 0) 7])),
   .asg (.nm 1) (.bin .add (.var 1) (.lst [.isx (.var 0) 8, .isx (.var 0) 9, .isx (.var 0) 10, .isx (.var 0) 11])),
   .asg (.nm 1) (.bin .add (.var 1) (.lst [.isx (.var 0) 12, .isx (.var 0) 13])),
   .asg (.nm 2) (.lst [.cst (.str "lay"), .cst (.str "place"), .cst (.str "token"), .cst (.str "leap"), .cst (.str "row"), .cst (.str "run"), .cst (.str "runs"), .cst (.str "number"), .cst (.str "wishes"), .cst (.str "unlike"), .cst (.str "deed"), .cst (.str "text")]),
   .ite (.or (.cmp .ne (.cnt (.var 1) (.bool true)) (.cst (.int 1))) (.not (.isx (.var 0) 14))) [.ret (.cst (.str "other"))] [],
   .ret (.idx (.bin .add (.var 2) (.lst [.cst (.str "line"), .cst (.str "many")])) (.ixo (.var 1) (.bool true)))]
noncomputable def labOf (c : Nat) : Str := (exLabs[c]?).getD ""
theorem kind_run : ∀ c, c < 14 → evSs (some 0) cf0 kindIS [some (.exn (c + 1) []), none, none] [] = .ok (.rt (.dat (.str (labOf c)))) []
  | 0, _ => by kernel_rfl
  | 1, _ => by kernel_rfl
  | 2, _ => by kernel_rfl
  | 3, _ => by kernel_rfl
  | 4, _ => by kernel_rfl
  | 5, _ => by kernel_rfl
  | 6, _ => by kernel_rfl
  | 7, _ => by kernel_rfl
  | 8, _ => by kernel_rfl
  | 9, _ => by kernel_rfl
  | 10, _ => by kernel_rfl
  | 11, _ => by kernel_rfl
  | 12, _ => by kernel_rfl
  | 13, _ => by kernel_rfl
  | n + 14, h => absurd h (by omega)
noncomputable def kindChk (sc : Scope) (body : List Stmt) : Bool := scopeOk kindN ["_law_e"] sc && chkHSs kindIS ⟨kindN, sc, none, false⟩ body
structure KindHave (K : PySem.W.Frag) (mg : Str → Option Value) : Prop where
  ex : ∃ (g : Addr) (sc : Scope) (body : List Stmt) (pa : Arguments) (dV kV doc pm cdv ct oc : Value) (an od : Option Addr) (osl : Array (Option Value)),
    K.lookup g = some ⟨oc, od, .func (PySem.W.fnOf "_law_kind" "_law_kind" pa body sc dV kV doc pm an cdv ct), osl⟩ ∧ PySem.W.codeIn K cdv "_law_kind" = true ∧ PySem.W.keepIn K (.ref g) = true ∧ mg "_law_kind" = some (.ref g) ∧
    L2.Binds K (PySem.W.fnOf "_law_kind" "_law_kind" pa body sc dV kV doc pm an cdv ct) ["_law_e"] [] ∧ kindChk sc body = true
noncomputable def saidN : List Str := ["_law_call", "_law_label", "_law_e"]
noncomputable def saidE : IE := .bin .add (.bin .add (.cst (.str "! ")) (.var 1)) (.ite (.cmp .eq (.var 1) (.cst (.str "many"))) .bad (.cst (.str "")))
noncomputable def txtOf (c : Nat) : Str := (sayX c []).getD ""
theorem said_run : ∀ c, c < 13 → ∀ v0 v2, evE cf0 saidE [v0, some (.dat (.str (labOf c))), v2] [] = .ok (.dat (.str (txtOf c))) []
  | 0, _ => fun _ _ => by kernel_rfl
  | 1, _ => fun _ _ => by kernel_rfl
  | 2, _ => fun _ _ => by kernel_rfl
  | 3, _ => fun _ _ => by kernel_rfl
  | 4, _ => fun _ _ => by kernel_rfl
  | 5, _ => fun _ _ => by kernel_rfl
  | 6, _ => fun _ _ => by kernel_rfl
  | 7, _ => fun _ _ => by kernel_rfl
  | 8, _ => fun _ _ => by kernel_rfl
  | 9, _ => fun _ _ => by kernel_rfl
  | 10, _ => fun _ _ => by kernel_rfl
  | 11, _ => fun _ _ => by kernel_rfl
  | 12, _ => fun _ _ => by kernel_rfl
  | n + 13, h => absurd h (by omega)
noncomputable def saidBody (sc : Scope) : List Stmt → Bool
  | [.Try [.Return (some (.Call (.Name r _) [.Call (.Name a _) [] [] _] [] _)) _] [.ExceptHandler (some (.Name le _)) (some en) [.Assign [.Name lb _] (.Call (.Name kd _) [.Name en2 _] [] _) _, .Return (some v) _] _] [] [] _] =>
    decide (r = "repr") && decide (a = "_law_call") && decide (le = "LeapError") && decide (en = "_law_e") && decide (lb = "_law_label") && decide (kd = "_law_kind") && decide (en2 = "_law_e") && glB sc "repr" && glB sc "LeapError" && glB sc "_law_kind" &&
      decide (sc.names.lookup ("_law_e" : Str) = some .local) && decide (sc.names.lookup ("_law_label" : Str) = some .local) && visB sc "_law_call" && chkH saidE .E ⟨saidN, sc, none, false⟩ v
  | _ => false
noncomputable def saidChk (sc : Scope) (body : List Stmt) : Bool := scopeOk saidN ["_law_call"] sc && saidBody sc body
structure SaidHave (K : PySem.W.Frag) (mg : Str → Option Value) : Prop where
  ex : ∃ (g : Addr) (sc : Scope) (body : List Stmt) (pa : Arguments) (dV kV doc pm cdv ct oc : Value) (an od : Option Addr) (osl : Array (Option Value)),
    K.lookup g = some ⟨oc, od, .func (PySem.W.fnOf "_law_said" "_law_said" pa body sc dV kV doc pm an cdv ct), osl⟩ ∧ PySem.W.codeIn K cdv "_law_said" = true ∧ PySem.W.keepIn K (.ref g) = true ∧ mg "_law_said" = some (.ref g) ∧
    L2.Binds K (PySem.W.fnOf "_law_said" "_law_said" pa body sc dV kV doc pm an cdv ct) ["_law_call"] [] ∧ saidChk sc body = true
  mr : mg "repr" = none
/-! ### a def entered while an exception is handled; the exception is pinned there -/
theorem run_pin {CX : CXT} {P : Program} {w : World} {K : PySem.W.Frag} {mg : Str → Option Value} {base : Heap} {k : Nat} {g : Addr} {nm ql : Str} {pa : Arguments} {body : List Stmt} {sc : Scope} {v1 v2 v3 v4 cdv v5 oc : Value} {an od : Option Addr} {osl : Array (Option Value)} {N ps : List Str}
    (lk : K.lookup g = some ⟨oc, od, .func (PySem.W.fnOf nm ql pa body sc v1 v2 v3 v4 an cdv v5), osl⟩) (hc : PySem.W.codeIn K cdv ql = true) (SC : FnScope N ps sc) {A : Around} {outer : List PySem.Env} {s : Shared} {H : Hp} {ar : Args} {us : List Value} {vs : List V} {Q : VK} {E : XK} {q : Addr × Obj}
    (room : L2H.RoomH (k + 1) A) (pin : L2H.PinOk outer H s q) (e0 : Env0 P w K mg base A outer s H) (hb : BindsTo s (PySem.W.fnOf nm ql pa body sc v1 v2 v3 v4 an cdv v5) ar (ps.zip us)) (rv : Vals vs us) (ln : vs.length = ps.length)
    (go : L2H.RoomH k (A.deeper (envOfC ql sc s.heap.objs.size g cdv)) → ∃ t, PSs (L2H.cxH CX P w K mg base N ql sc g cdv A outer s H E q) body t ∧ t { nx := fun _ H' => Q .non H', rt := Q } (L2.start N vs) H) :
    codeAny (model P w) A (.call (.ref g) ar) (CR CX outer P w H s Q E) s := by
  have keep : ∀ b o, base.get? b = some o → s.heap.get? b = some o := fun b o e => (e0.bs b o e).1
  have inK := e0.mod.kin.keeps keep
  obtain ⟨t, hT, hq⟩ := go (room.deeper _)
  refine codeAny_call_function room.depth (inK _ _ lk) rfl SC.co SC.gen rfl (PySem.W.codeRec_of inK hc) (hb _ _ _ _ (wpAny_newFunctionEnv_cells SC.kind (fun y hy => ?_) fun env he s1 x => ?_))
  · rcases SC.par y.1 (List.of_mem_zip (a := y.1) (b := y.2) hy).1 with z | z
    · exact .inl z
    · exact .inr ⟨z, PySem.W.cellsFrom_some _ _ _ (.inl z)⟩
  subst he
  refine ⟨(e0.mod.nolimit.keeps keep).keeps x.toInCall.keep, codeAny_func ?_⟩
  refine wpAny_mono (hT.run [] s1 (L2.start N vs) H _ (L2H.inv_startH SC pin e0 ln rv x) hq) ?_ fun _ _ z => z
  rintro (_ | _ | _ | u) s' hs
  · obtain ⟨σ', H', J, z⟩ := hs
    exact ⟨.non, H', J.os, J.bare, J.base, J.hok, (show Value.none = Value.none from rfl), z⟩
  · obtain ⟨_, _, _, z⟩ := hs
    exact z.elim
  · obtain ⟨_, _, _, z⟩ := hs
    exact z.elim
  · obtain ⟨v, σ', H', J, r, z⟩ := hs
    exact ⟨v, H', J.os, J.bare, J.base, J.hok, r, z⟩
/-- the readings of the word's def -/
noncomputable def GK (u : World) (K : PySem.W.Frag) (T : List (Addr × Str)) (a c : Nat) : GC := ⟨K, fun _ => 0, fun _ => False, fun _ => "", fun _ _ _ _ _ => False, fun j _ w => j = c + 1 ∧ w = .ref a, T, u⟩
theorem sim0 {G : GC} {H : Hp} (t : LamX.Tabs G.tb H) : SimS G (fun _ => False) (fun _ => 0) [] H :=
  ⟨fun _ z => z.elim, fun l o e => by simp at e, fun l l' o o' e => by simp at e, fun l o e => by simp at e, fun _ _ z => z.elim, t⟩
section
variable {X : Cx} {T : List (Addr × Str)} {ecl : Nat → Addr} {a : Addr} {oe : Obj} {pn : List (Addr × Obj)} {p p2 pos : Pos} {j k : Nat} {x : Str}
/-- the word of the handled exception -/
theorem kind_call (KH : KindHave X.K X.mg) (R : Refus X.K X.mg ecl) {c : Nat} (hc : c < 14) (h2 : oe.cls = .ref (ecl c)) (h3 : oe.dict = none) (h4 : ∃ vs, oe.data = .fields vs) (room : L2H.RoomH 1 X.A) (hg : Gl X "_law_kind") (hj : X.N[j]? = some x) (hv : Vis X.env.scope x)
    (hd : (x == ("__debug__" : Str)) = false) (hcd : (x == ("__classdict__" : Str)) = false) :
    PE (X.suite a ((a, oe) :: pn)) (.Call (.Name "_law_kind" p) [.Name x p2] [] pos) (fun σ H Q => σ[j]? = some (some (.ref a)) ∧ LamX.Tabs T H ∧ ∀ H', LamX.ExtN H H' → LamX.Tabs T H' → Q (.str (labOf c)) H') := by
  obtain ⟨g, sc, body, pa, dV, kV, doc, pm, cdv, ct, oc, an, od, osl, lk, cc, kp, mg, hb, ok⟩ := KH.ex
  simp only [kindChk, Bool.and_eq_true] at ok
  have SC := scope_ok ok.1
  refine ⟨fun pins s σ H Q I h => ?_⟩
  obtain ⟨hs, hT, hQ⟩ := h
  refine wpAny_Call_Name_kw (ld_glob I hg mg ?_ (by decide))
  have arg : PA (X.suite a ((a, oe) :: pn)) [.Name x p2] (tCons (tVar j) tNil) := pa_cons (pe_var hj hv hd hcd) pa_nil rfl
  refine PySem.W.callWith_K (h₀ := X.base) I.ok.mod.kin kp (thn (arg.run pos pins s σ H (fun vs H1 => vs = [V.ref a] ∧ H1 = H) I ⟨_, hs, rfl, rfl⟩) fun us s1 hh => ?_) rfl rfl
  obtain ⟨vs, H1, J, rv, rfl, rfl⟩ := hh
  refine ⟨J.kIn, ?_⟩
  obtain ⟨q1, q2, q3, q4, q5⟩ := J.pin (a, oe) (List.mem_append_left _ (List.mem_cons_self ..))
  have pin : L2H.PinOk X.stack H1 s1 (a, oe) := ⟨q1, q2, fun hm => (List.mem_cons.mp (J.stkSub a hm)).elim q3 q4, q5⟩
  have b := hb s1 us J.kIn (by rw [List.append_nil]; exact rv.length.symm)
  rw [List.append_nil] at b
  have run := run_pin (CX := C8.CX0) (Q := Q) (E := C8.E0) lk cc SC (k := 0) (A := (X.suite a ((a, oe) :: pn)).A) ⟨room.dp, room.un⟩ pin J.env0 b rv rfl fun _ => ⟨_, goodHSs (GK X.w X.K T a c) cf0 ecl W0 _ (some 0) (fun _ _ _ _ _ z => z) kindIS ⟨kindN, sc, none, false⟩ body ?_ ?_ ok.2, ?_⟩
  · refine wpAny_call (codeAny_mono run ?_)
    rintro (e | _ | _ | _ | u) s' hq
    · exact (show False from hq).elim
    · exact (show False from hq).elim
    · exact (show False from hq).elim
    · exact (show False from hq).elim
    · exact J.after hq
  · have := room.un
    exact { N := rfl, nd := SC.nd, sc := rfl, kind := SC.kind, units := by show X.A.units + 3 + 64 < cLine; omega, fn := fun _ => rfl, nb := rfl }
  · refine { gk := rfl, R := R, hx := fun i w hw => ?_ }
    obtain ⟨e1, rfl⟩ : i + 1 = c + 1 ∧ w = .ref a := hw
    cases e1
    obtain ⟨vs, h4⟩ := h4
    exact ⟨hc, a, rfl, oe, vs, List.mem_singleton.mpr rfl, h2, h3, h4⟩
  · refine ⟨fun _ => False, fun _ => 0, [some (.exn (c + 1) []), none, none], [], sim0 hT, ⟨rfl, fun i v e => ?_⟩, ?_⟩
    · match i, e with
      | 0, e => cases e; exact ⟨_, rfl, ⟨rfl, rfl⟩⟩
      | 1, e => cases e
      | 2, e => cases e
      | n + 3, e => cases e
    · rw [kind_run c hc]
      intro w F' loc' H' n r
      cases (show Rp X.K F' H' w (.str (labOf c)) from r)
      exact hQ H' n.ext0 n.sim.tabs
end
end IP
/-! what is refused: a try that tells, handed a lambda -/
namespace IP
open PySem PySem.Spec PyProof.Rows L2
noncomputable abbrev lamQ (X : Cx) : Str := X.env.qual ++ "<lambda>"
noncomputable abbrev lamO (X : Cx) (par : Arguments) (bd : Expr) (scp : Scope) (pm : Value) (c' : Addr) (ct : Value) : Obj := PySem.W.kla_obj "<lambda>" (lamQ X) par bd scp (cloFrom X.env.cells scp.names []) pm c' ct
section
variable {X : Cx} {pins pn : List (Addr × Obj)} {σ : L2.St} {H : Hp} {s : Shared} {f c' g : Addr} {pm ct cdg : Value} {par : Arguments} {bd : Expr} {scp sg : Scope} {k : Nat} {xe : Value → Shared → Prop} {E : XK} {te : TE} {p1 p2 : Pos} {W : WX}
noncomputable abbrev ZS (X : Cx) (sg : Scope) (g : Addr) (cdg : Value) (s : Shared) (H : Hp) : Cx := cxOf C8.CX0 X.prog X.w X.K X.mg X.base saidN "_law_said" sg g cdg X.A X.stack s H C8.E0
/-- the lambda is called by the def that got it -/
theorem lam_act (I : Inv X pins σ H s) (L : LamX.LamS X.env.scope scp) (of : s.heap.get? f = some (lamO X par bd scp pm c' ct)) (nf : H f = none) (ns : f ∉ frs X.stack)
    (bind : bindArgs (PySem.W.kla_fn "<lambda>" (lamQ X) par bd scp (cloFrom X.env.cells scp.names []) pm (.ref c') ct) ⟨[], []⟩ = pure []) (tk : Takes ((ZS X sg g cdg s H).tr pn xe) W) (hW : ∀ cls d σ' H', E cls d H' → W cls d σ' H')
    (room : Room (k + 1) (X.A.deeper (envOfC "_law_said" sg s.heap.objs.size g cdg))) (hush : X.A.guards = some [])
    (body : ∀ (A : Around) (outer : List PySem.Env) (s : Shared) (H : Hp), Room k (A.deeper (LamX.lamEnv X scp s.heap.objs.size f c')) → A.guards = some [] → PE (LamX.lamCx X A outer s H E scp f c') bd te) (vis : Vis sg ("_law_call" : Str)) :
    PE ((ZS X sg g cdg s H).tr pn xe) (.Call (.Name "_law_call" p1) [] [] p2) (fun τ H' Q => τ[0]? = some (some (.ref f)) ∧ H' c' = some (LamX.CodeO c' (lamQ X)) ∧ te σ H' Q) := by
  refine ⟨fun pz sz τ Hz Q J hh => ?_⟩
  obtain ⟨h1, h2, h3⟩ := hh
  have nm := (pe_var (X := (ZS X sg g cdg s H).tr pn xe) (pos := p1) (i := 0) (x := "_law_call") rfl vis (by decide) (by decide)).run pz sz τ Hz (fun v H1 => v = .ref f ∧ H1 = Hz) J ⟨_, h1, rfl, rfl⟩
  refine wpAny_Call_Name_kw (thn nm fun u s1 ⟨v, H1, J1, r, e1, e2⟩ => ?_)
  subst e1 e2
  cases (show u = Value.ref f from r)
  have un : Un (frs X.stack) [] H H1 s.heap s1.heap := J1.base
  have o1 : s1.heap.get? f = some (lamO X par bd scp pm c' ct) := un.keep f _ of nf ns (fun z => nomatch z)
  obtain ⟨⟨oc, vs, tt, q1, q2, q3⟩, _, _⟩ := J1.hok c' _ h2
  refine PySem.W.callWith_F0 ⟨_, _, _, _, o1⟩ ?_
  have go : codeAny (model X.prog X.w) (X.A.deeper (envOfC "_law_said" sg s.heap.objs.size g cdg)) (.call (.ref f) ⟨[], []⟩) (CR (L2.CX X.prog X.w) (envOfC "_law_said" sg s.heap.objs.size g cdg :: X.stack) X.prog X.w H1 s1 Q E) s1 := by
    refine PySem.W.kla_callFunE room.depth o1 rfl L.co L.gen rfl ⟨c', oc, vs, tt, rfl, q1, q2, q3⟩ ?_
    rw [bind]
    refine wpAny_pure (wpAny_newFunctionEnv (fun y hy => (L.own y hy).2) (fun y hy => (nomatch hy)) (fun hp hn hsb => ?_) L.kind)
    refine ⟨J1.nolimit.fresh _ hsb, ?_⟩
    have kept : ∀ b o, s1.heap.get? b = some o → hp.get? b = some o := fun b o e => hsb.extBut b o (Nat.ne_of_lt (Heap.lt_size e)) (Heap.get?_push_of_some _ e)
    have J2 := LamX.lam_start2 (tk := s1.toks + ([] : List (Str × Value)).length) (E := E) (f := f) (c' := c') I L J1.env0 room.hd un hn kept
    refine PySem.W.kla_codeExpr (wpAny_mono ((body _ _ s1 H1 (room.deeper _) hush).run [] _ _ H1 Q J2 h3) ?_ fun _ _ z => z)
    rintro v s' ⟨w', H', J3, rv, q⟩
    exact ⟨w', H', J3.os, J3.bare, J3.base, J3.hok, rv, q⟩
  refine wpAny_call (codeAny_mono go ?_)
  rintro (e | _ | _ | _ | u) s' hq
  · exact passes_call tk hW pz τ H1 s1 e s' J1 hq
  · exact (show False from hq).elim
  · exact (show False from hq).elim
  · exact (show False from hq).elim
  · exact J1.after hq
end
/-- the readings in the telling def -/
noncomputable def GS (u : World) (K : PySem.W.Frag) (T : List (Addr × Str)) : GC := ⟨K, fun _ => 0, fun _ => False, fun _ => "", fun _ _ _ _ _ => False, fun _ _ _ => False, T, u⟩
theorem sayX_some {c : Nat} {fs : List PyData} {l : Str} (h : sayX c fs = some l) : fs = [] ∧ c < 13 ∧ l = txtOf c := by
  cases fs with
  | cons => cases h
  | nil =>
    refine ⟨rfl, ?_, by unfold txtOf; rw [h]; rfl⟩
    simp only [sayX] at h
    split at h
    · assumption
    · cases h
section
variable {X : Cx} {G : GC} {W : WX} {cf : CallF} {ie : IE} {ecl : Nat → Addr} {c P : Addr} {par : Arguments} {bd : Expr} {scp : Scope} {k : Nat} {p lp pos : Pos}
theorem pe_said (hK : G.K = X.K) (SH : SaidHave X.K X.mg) (KH : KindHave X.K X.mg) (R : Refus X.K X.mg ecl) (hex : ∀ c fs cv d H, G.exr c fs cv d H → fs = [] → c < 13 → cv = .ref (ecl c) ∧ d = none) (sys : Sys X.base) (hush : X.A.guards = some []) (room : Room (k + 2) X.A)
    (hg : Gl X "_law_said") (TB : LamX.TabB X.base X.mg c P) (hcode : X.env.code = .ref c) (hm : (P, lamQ X) ∈ G.tb) (hun : ∀ q ∈ G.tb, q.1 = P → q.2 = lamQ X) (L : LamX.LamS X.env.scope scp) (hdef : defaultsOf par X.env = ([], []))
    (bind : ∀ (q : Str) (cl : List (Str × Addr)) (pm cv ctv : Value), bindArgs (PySem.W.kla_fn "<lambda>" q par bd scp cl pm cv ctv) ⟨[], []⟩ = pure [])
    (body : ∀ (A : Around) (outer : List PySem.Env) (s : Shared) (H : Hp) (E : XK) (f c' : Addr), Room k (A.deeper (LamX.lamEnv X scp s.heap.objs.size f c')) → A.guards = some [] → PE (LamX.lamCx X A outer s H E scp f c') bd (rdE G (fun cv d _ H => E cv d H) cf ie)) :
    PE X (.Call (.Name "_law_said" p) [.Lambda par bd scp lp] [] pos) (rdE G W cf (.said ie)) := by
  refine ⟨fun pins s σ H Q I h => ?_⟩
  obtain ⟨F, loc, s0, S, hS, hE, pp⟩ := h
  simp only [evE] at pp
  obtain ⟨g, sg, bg, pa, dV, kV, doc, pm, cdv, ct, oc, an, od, osl, lk, cc, kp, mg, hb, ok⟩ := SH.ex
  simp only [saidChk, Bool.and_eq_true] at ok
  obtain ⟨ok1, ok2⟩ := ok
  have SC := scope_ok ok1
  refine wpAny_Call_Name_kw (ld_glob I hg mg (PySem.W.callWith_K (h₀ := X.base) I.ok.mod.kin kp ?_ rfl rfl) (by decide))
  show wpAny _ _ (spliced ((false, eval (.Lambda par bd scp lp) X.env) :: backTo pos (starEach [] X.env))) _ _ s
  refine Calls.spliced_cons (LamX.lam_make2 I TB hcode hm hun hS.tabs hdef (L.has I.ok) fun f c' pm' ctv H1 s' I1 eN T1 of nf ns hco => Calls.spliced_nil ⟨I1.kIn, ?_⟩)
  have n1 := Nxt.extN hS eN T1
  have p1 := Post.step n1 pp
  clear pp
  have run := LamX.run_ofS (CX := C8.CX0) (E := C8.E0) (Q := Q) (N := saidN) (ps := ["_law_call"]) (us := [.ref f]) (vs := [.ref f]) lk cc SC room I1.env0 (hb s' [.ref f] I1.kIn rfl) (.cons rfl .nil) rfl fun room' => ?_
  · refine wpAny_call (codeAny_mono run ?_)
    rintro (e | _ | _ | _ | u) s2 hq
    · exact (show False from hq).elim
    · exact (show False from hq).elim
    · exact (show False from hq).elim
    · exact (show False from hq).elim
    · exact I1.after hq
  have Act := fun (W : WX) (pn : List (Addr × Obj)) (xe : Value → Shared → Prop) (E : XK) (p1 p2 : Pos) (vis : Vis sg ("_law_call" : Str)) (tk : Takes ((ZS X sg g cdv s' H1).tr pn xe) W) (hW : ∀ cls d σ' H', E cls d H' → W cls d σ' H') =>
    lam_act (p1 := p1) (p2 := p2) I1 L of nf ns (bind _ _ _ _ _) tk hW room' hush (fun A outer s H r u => body A outer s H E f c' r u) vis
  unfold saidBody at ok2
  split at ok2
  rotate_left
  · cases ok2
  rename_i rn q1 an1 q2 q3 q4 q5 le q6 en lb q7 kd q8 en2 q9 q10 q11 v q12 q13 q14
  simp only [Bool.and_eq_true, decide_eq_true_eq] at ok2
  obtain ⟨⟨⟨⟨⟨⟨⟨⟨⟨⟨⟨⟨⟨rfl, rfl⟩, rfl⟩, rfl⟩, rfl⟩, rfl⟩, rfl⟩, g1⟩, g2⟩, g3⟩, l1⟩, l2⟩, vc⟩, vk⟩ := ok2
  obtain ⟨CB, mgB, hB⟩ := R.lb
  have glob : ∀ {x : Str}, glB sg x = true → sg.names.lookup x = some .globalImplicit := fun {x} z => by
    unfold glB at z
    split at z
    · assumption
    · cases z
  have visC : Vis sg ("_law_call" : Str) := by
    unfold visB at vc
    split at vc
    · exact .inl (by assumption)
    · exact .inr (.inl (by assumption))
    · exact .inr (.inr (by assumption))
    · cases vc
  have un := room'.un
  refine ⟨_, pss_one (ps_try_as (X := ZS X sg g cdv s' H1) (c := .ref CB) (i := 2)
    (tb := fun W D τ H' => ∃ E : XK, (∀ cls d σ' H2, E cls d H2 → W cls d σ' H2) ∧ τ[0]? = some (some (.ref f)) ∧ H' c' = some (LamX.CodeO c' (lamQ X)) ∧ rdE G (fun cv d _ H => E cv d H) cf ie σ H' (fun w H2 => rB G .repr [w] H2 D.rt))
    (ts := fun a cls d D τ H' => (∃ τ' : L2.St, τ = τ'.set 2 (some (.ref a))) ∧ LamX.Tabs G.tb H' ∧ ∃ j, j < 13 ∧ cls = .ref (ecl j) ∧ d = none ∧ ∀ H2, LamX.ExtN H' H2 → LamX.Tabs G.tb H2 → D.rt (.str (txtOf j)) H2)
    rfl rfl SC.nd rfl l1 ⟨glob g2, by decide, .inl mgB⟩ LamX.takes0 (fun W' pn xe tk _ => ?_) (fun a oe cls d pn hz hd => ?_)), ?_⟩
  · refine ⟨fun pz sz τ Hz D J hh => ?_⟩
    obtain ⟨E, hW, h1, h2, h3⟩ := hh
    have A := Act W' pn xe E q2 q3 visC tk hW
    exact (pss_one (ps_ret (pos := q5) (pe_callB (b_repr (X := (ZS X sg g cdv s' H1).tr pn xe) (G := G) sys hK hush (by show (X.A.deeper _).units + 200 < cLine; omega)) (glob g1) SH.mr (by rfl) (pa_cons A pa_nil rfl) (by decide) (by decide) rfl rfl))).run pz sz τ Hz D J ⟨h1, h2, h3⟩
  · refine ⟨fun pz sz τ Hz D J hh => ?_⟩
    obtain ⟨⟨τ', rfl⟩, hT, j, hj, rfl, rfl, hq⟩ := hh
    have ln : (τ'.set 2 (some (V.ref a))).length = 3 := J.len
    rw [List.length_set] at ln
    have K1 := kind_call (X := ZS X sg g cdv s' H1) (T := G.tb) (a := a) (oe := oe) (pn := pn) (p := q8) (p2 := q9) (pos := q10) (j := 2) (x := "_law_e") KH R (c := j) (by omega) hz.1 hz.2 hd ⟨by have := room'.dp; show (X.A.deeper _).depth + 3 * 1 + 5 < recursionLimit; omega, by show (X.A.deeper _).units + 16 * 1 + 200 < cLine; omega⟩ (glob g3) rfl (.inl l1) (by decide) (by decide)
    have R1 := goodH (GS X.w X.K G.tb) cf0 ecl W0 ((ZS X sg g cdv s' H1).suite a ((a, oe) :: pn)) saidE .E ⟨saidN, sg, none, false⟩ v
      { N := rfl, nd := SC.nd, sc := rfl, kind := SC.kind, units := (by show X.A.units + 3 + 64 < cLine; have un' : X.A.units + 3 + 16 * _ + 200 < cLine := un; omega), fn := fun _ => rfl, nb := rfl } { gk := rfl, R := R, hx := fun _ _ z => z.elim } vk
    refine (pss_cons (ps_asg K1 (pg_name (i := 1) SC.nd rfl (.inl l2) (.inl rfl)) (sw_sole rfl) (st_none (.inl rfl)) (asg_one rfl)) (pss_one (ps_ret (pos := q12) R1))).run pz sz _ Hz D J ⟨?_, hT, fun H2 e2 t2 => ?_⟩
    · rw [List.getElem?_set_self (by omega)]
    · refine ⟨fun _ => False, fun _ => 0, [none, some (.dat (.str (labOf j))), none], [], sim0 t2, ⟨?_, fun i v e => ?_⟩, ?_⟩
      · rw [List.length_set, List.length_set, ln]; rfl
      · match i, e with
        | 0, e => cases e
        | 1, e =>
          cases e
          exact ⟨_, List.getElem?_set_self (by rw [List.length_set]; omega), .str _⟩
        | 2, e => cases e
        | n + 3, e => cases e
      · rw [said_run j hj]
        intro w F' loc' H' n r
        cases (show Rp X.K F' H' w (.str (txtOf j)) from r)
        exact hq H' (e2.trans n.ext0) n.sim.tabs
  · refine ⟨fun cv d H2 => LamX.Tabs G.tb H2 ∧ ∃ j, j < 13 ∧ cv = .ref (ecl j) ∧ d = none ∧ ∀ H3, LamX.ExtN H2 H3 → LamX.Tabs G.tb H3 → Q (.str (txtOf j)) H3, fun cls d σ' H2 z => ?_, rfl, hco, F, loc, s0, S, n1.sim, hE.next n1, ?_⟩
    · obtain ⟨t2, j, hj, rfl, rfl, hq⟩ := z
      exact ⟨true, hB j (by omega), fun _ a _ => ⟨⟨σ', rfl⟩, t2, j, hj, rfl, rfl, hq⟩, fun z => by cases z⟩
    · cases q : evE cf ie s0 S with
      | err =>
        rw [q] at p1
        exact p1.elim
      | ok v1 S1 =>
        rw [q] at p1
        intro w F' loc' H' n r
        have p2 := Post.step n p1
        refine ⟨F', loc', S1, [v1], n.sim, .cons r .nil, ?_⟩
        simp only [saidO] at p2
        show PostV G W0 [] F' loc' S1 H' (bfO .repr [v1] S1) Q
        simp only [bfO]
        cases hl : lookF S1 v1 with
        | none =>
          rw [hl] at p2
          exact False.elim p2
        | some d =>
          rw [hl] at p2
          show PostV G W0 [] F' loc' S1 H' (optD (bfP .repr [d]) S1) Q
          have p2 : PostV G W σ F' loc' S1 H' (optD (bfP .repr [d]) S1) Q := p2
          cases e : bfP .repr [d] with
          | none =>
            rw [e] at p2
            exact False.elim p2
          | some y =>
            rw [e] at p2
            exact p2
      | exc c1 fs S1 =>
        rw [q] at p1
        intro cv d F' loc' H' n e
        simp only [saidO] at p1
        cases e2 : sayX c1 fs with
        | none =>
          rw [e2] at p1
          exact p1.elim
        | some l =>
          rw [e2] at p1
          obtain ⟨rfl, h2, rfl⟩ := sayX_some e2
          obtain ⟨h3, h4⟩ := hex _ _ _ _ _ e rfl h2
          exact ⟨n.sim.tabs, c1, h2, h3, h4, fun H3 e3 t3 => p1 _ _ _ _ (n.trans (Nxt.extN n.sim e3 t3)) (.str _)⟩
end
end IP
namespace IP
open PySem PySem.Spec PyProof.Rows L2

structure EnvF (T : Tab) (G : GC) (cf : CallF) (k : Nat) (CXT : CXT) (P : Program) (w : World) (K : PySem.W.Frag) (mg : Str → Option Value) (base : Heap) : Prop where
  gk : G.K = K
  gw : G.w = w
  fn : ∀ f t, T.fn f = some t → ∃ fa fd, FnG P w K mg base CXT k fa fd t.n t.ps (spC G t.n (cf f)) ∧ (∀ ds, ds = [] ∨ ds = t.ds → ∃ us, Vals (dflV ds) us ∧ Binds K fd t.ps us) ∧ (∀ q, q ∈ t.kws → KB K fd t.ps q.np q.ks q.perm) ∧
    (t.cl = none → mg t.nm = some (.ref fa) ∧ PySem.W.keepIn K (.ref fa) = true) ∧ (∀ c, t.cl = some c → (t.nm ≠ "__init__" → Meth K (G.cls c) t.nm fa) ∧ (t.nm = "__init__" → Mk K (G.cls c) fa))
  cl : ∀ (c : Nat) x, T.cls[c]? = some x → G.cok c ∧ mg x = some (.ref (G.cls c))
  cok : ∀ c, G.cok c → Cls K (G.cls c)
  clm : ∀ f t c, T.fn f = some t → t.cl = some c → G.cok c
  fi : ∀ f g, G.fnm f = G.fnm g → f = g
  fl : ∀ (f : Nat) x, T.flds[f]? = some x → x = G.fnm f ∧ ∀ c, G.cok c → NoAttr K (G.cls c) x
  fm : ∀ f i t c, T.fn i = some t → t.cl = some c → G.fnm f ≠ t.nm
  blt : ∀ x, T.blt.contains x = true → mg x = none
  gcs : ∀ (g : Nat) x d, T.gcs[g]? = some (x, d) → ∃ v u, mg x = some u ∧ RelV v u ∧ ∀ F H, Rp G.K F H v d
  sys : Sys base
  p0 : ∀ X : Cx, X.prog = P → X.w = w → Passes CXT X (fun _ _ _ => False)
  pc : ∀ X : Cx, X.prog = P → X.w = w → ∀ W : WX, (∀ cv d t t' H, W cv d t H → W cv d t' H) → Takes X W → Passes CXT X (WE W [])
  rf : T.rf = true → ∃ ecl, Refus K mg ecl ∧ ∀ c fs cv d H, G.exr c fs cv d H ↔ (fs = [] ∧ c < 13 ∧ cv = .ref (ecl c) ∧ d = none)
  said : T.said = true → SaidHave K mg ∧ KindHave K mg
structure XOk (T : Tab) (G : GC) (cf : CallF) (k : Nat) (CXT : CXT) (W : WX) (L : LC) (X : Cx) : Prop where
  env : EnvF T G cf k CXT X.prog X.w X.K X.mg X.base
  N : X.N = L.N
  nd : L.N.Nodup
  sc : X.env.scope = L.sc
  kind : L.sc.kind = .function
  room : Room (k + 1) X.A
  hush : X.A.guards = some []
  calm : X.calm = true
  fn : ∀ x, fnB L x = true → X.fn x = true
  pass : Passes CXT X (WE W [])
  take : Takes X W
  lam : L.lm = true → Room (k + 3) X.A ∧ ∃ c P, X.env.code = .ref c ∧ LamX.TabB X.base X.mg c P ∧ (P, lamQ X) ∈ G.tb ∧ ∀ q ∈ G.tb, q.1 = P → q.2 = lamQ X
  wi : ∀ cv d t t' H, W cv d t H → W cv d t' H
section
variable {T : Tab} {G : GC} {cf : CallF} {k : Nat} {CXT : CXT} {W : WX} {L : LC} {X : Cx} {e : Expr} {es : List Expr} {ie a b c o : IE} {is ks : List IE} {m : Mode} {x : Str}
variable (T G cf k CXT) in
noncomputable abbrev Good (ie : IE) : Prop := ∀ (m : Mode) (L : LC) (e : Expr) (X : Cx) (W : WX), XOk T G cf k CXT W L X → chk T ie m L e = true → SemM G W cf m X e ie
variable (T G cf k CXT) in
noncomputable abbrev GoodL (is : List IE) : Prop := ∀ (L : LC) (es : List Expr) (X : Cx) (W : WX), XOk T G cf k CXT W L X → chkL T is L es = true → PA X es (rdL G W cf is) ∧ noStars es = true
variable (T G cf k CXT) in
noncomputable abbrev GoodK (is : List IE) : Prop := ∀ (L : LC) (es : List Keyword) (X : Cx) (W : WX), XOk T G cf k CXT W L X → chkK T is L es = true → PK X es (rdL G W cf is)
variable (T G cf k CXT) in
noncomputable abbrev GoodC (is : List IE) : Prop := ∀ (L : LC) (es : List Expr) (X : Cx), XOk T G cf k CXT W0 L X → chkC T is L es = true → PTs X es (rdTs G W0 cf is)
theorem XOk.gk (h : XOk T G cf k CXT W L X) : G.K = X.K := h.env.gk
theorem XOk.gw (h : XOk T G cf k CXT W L X) : G.w = X.w := h.env.gw
theorem XOk.gl (h : XOk T G cf k CXT W L X) (g : glB L.sc x = true) : Gl X x := by
  unfold glB at g
  show X.env.scope.names.lookup x = some .globalImplicit
  rw [h.sc]
  split at g
  · assumption
  · cases g
theorem XOk.gn (h : XOk T G cf k CXT W L X) (g : gnB T L x = true) : Gl X x ∧ X.mg x = none := by
  simp only [gnB, Bool.and_eq_true] at g
  exact ⟨h.gl g.1, h.env.blt x g.2⟩
theorem XOk.vis (h : XOk T G cf k CXT W L X) (g : visB L.sc x = true) : Vis X.env.scope x := by
  rw [h.sc]
  unfold visB at g
  split at g
  · exact .inl (by assumption)
  · exact .inr (.inl (by assumption))
  · exact .inr (.inr (by assumption))
  · cases g
theorem XOk.loc (h : XOk T G cf k CXT W L X) (g : locB L x = true) : Loc X.env.scope x ∧ (X.fn x = true ∨ X.env.scope.names.lookup x = some .local) := by
  rw [h.sc]
  unfold locB at g
  split at g
  · exact ⟨.inl (by assumption), .inr (by assumption)⟩
  · exact ⟨.inr (by assumption), .inl (h.fn x g)⟩
  · cases g
theorem nm_ok (h : nmOk x = true) : (x == ("__debug__" : Str)) = false ∧ (x == ("__classdict__" : Str)) = false := by
  simpa only [nmOk, Bool.and_eq_true, Bool.not_eq_true'] using h
theorem XOk.at_ {i : Nat} (h : XOk T G cf k CXT W L X) (g : L.N[i]? = some x) : X.N[i]? = some x := by rw [h.N]; exact g
theorem mv_sem (h : XOk T G cf k CXT W L X) (g : mv m e = true) (p : PE X e (rdE G W cf ie)) : SemM G W cf m X e ie := by
  cases m with
  | E => exact p
  | F => cases g
  | T => exact T_val p (true_val g)
  | W => cases g
  | I tup => exact fun tg _ => I_seq h.gk p
theorem mE_sem (g : mE m = true) (p : PE X e (rdE G W cf ie)) : SemM G W cf m X e ie := by
  cases m <;> first | exact p | cases g
theorem mF_sem (h : XOk T G cf k CXT W L X) (g : mF m = true) (p : PE X e (rdF G W cf ie)) : SemM G W cf m X e ie := by
  cases m with
  | E => exact E_ofF p
  | F => exact p
  | T => cases g
  | W => cases g
  | I tup => exact fun tg _ => I_seq h.gk (E_ofF p)
theorem mT_sem (g : mT m = true) (p : PE X e (rdE G W cf ie)) (q : PT X e (rdT G W cf ie)) : SemM G W cf m X e ie := by
  cases m <;> first | exact p | exact q | cases g
/-! one form after the other -/
theorem g_bad : Good T G cf k CXT .bad := by
  intro m L e X W h c
  simp only [chk] at c
  exact mE_sem c E_bad
theorem g_var {i : Nat} : Good T G cf k CXT (.var i) := by
  intro m L e X W h c
  simp only [chk, Bool.and_eq_true] at c
  obtain ⟨c1, c2⟩ := c
  split at c2
  · simp only [Bool.and_eq_true, decide_eq_true_eq] at c2
    obtain ⟨⟨c2, c3⟩, c4⟩ := c2
    exact mv_sem h c1 (E_var (h.at_ c2) (h.vis c3) (nm_ok c4).1 (nm_ok c4).2)
  · cases c2
theorem g_frz {i : Nat} : Good T G cf k CXT (.frz i) := by
  intro m L e X W h c
  simp only [chk, Bool.and_eq_true] at c
  obtain ⟨c1, c2⟩ := c
  split at c2
  · simp only [Bool.and_eq_true, decide_eq_true_eq] at c2
    obtain ⟨⟨c2, c3⟩, c4⟩ := c2
    exact mv_sem h c1 (E_frz (h.at_ c2) (h.vis c3) (nm_ok c4).1 (nm_ok c4).2)
  · cases c2
theorem g_cst {p : PyData} : Good T G cf k CXT (.cst p) := by
  intro m L e X W h c
  simp only [chk, Bool.and_eq_true] at c
  obtain ⟨c1, c2⟩ := c
  split at c2
  · split at c2
    · exact mv_sem h c1 E_cnon
    · rw [decide_eq_true_eq] at c2; subst c2; exact mv_sem h c1 E_cbl
    · rw [decide_eq_true_eq] at c2; subst c2; exact mv_sem h c1 E_cint
    · rw [decide_eq_true_eq] at c2; subst c2; exact mv_sem h c1 E_cstr
    · cases c2
  · cases c2
theorem same_c : ∀ {p q : PyData}, sameC p q = true → p = q
  | .none, .none, _ => rfl
  | .bool a, .bool b, h => by rw [sameC, decide_eq_true_eq] at h; rw [h]
  | .int a, .int b, h => by rw [sameC, decide_eq_true_eq] at h; rw [h]
  | .str a, .str b, h => by rw [sameC, decide_eq_true_eq] at h; rw [h]
theorem g_gcs {g : Nat} {p : PyData} : Good T G cf k CXT (.gcs g p) := by
  intro m L e X W h c
  simp only [chk, Bool.and_eq_true] at c
  obtain ⟨c1, c2⟩ := c
  split at c2
  · simp only [Bool.and_eq_true] at c2
    obtain ⟨⟨c2, c3⟩, c4⟩ := c2
    split at c4
    · rename_i y q hg
      simp only [Bool.and_eq_true, decide_eq_true_eq] at c4
      obtain ⟨rfl, c5⟩ := c4
      cases same_c c5
      obtain ⟨v, u, h1, h2, h3⟩ := h.env.gcs _ _ _ hg
      exact mv_sem h c1 (E_gcs (h.gl c2) h1 h2 (nm_ok c3).1 h3)
    · cases c4
  · cases c2
theorem g_tup (hl : GoodL T G cf k CXT is) : Good T G cf k CXT (.tup is) := by
  intro m L e X W h c
  simp only [chk, Bool.and_eq_true] at c
  obtain ⟨c1, c2⟩ := c
  split at c2
  · exact mv_sem h c1 (E_tup (hl _ _ _ _ h c2).1)
  · cases c2
theorem g_lst (hl : GoodL T G cf k CXT is) : Good T G cf k CXT (.lst is) := by
  intro m L e X W h c
  simp only [chk, Bool.and_eq_true] at c
  obtain ⟨c1, c2⟩ := c
  split at c2
  · exact mF_sem h c1 (F_lst (hl _ _ _ _ h c2).1)
  · cases c2
theorem g_new (ha : Good T G cf k CXT a) : Good T G cf k CXT (.new a) := by
  intro m L e X W h c
  simp only [chk, Bool.and_eq_true] at c
  exact mE_sem c.1 (E_new (ha .F L e X W h c.2))
theorem op_b : ∀ {op : BK} {o : Operator}, opB op o = true → OpR X (binaryOp o) (rDat X.K (lookO op) (binP op))
  | .add, .Add, _ => op_add_d
  | .sub, .Sub, _ => op_sub_d
  | .mul, .Mult, _ => op_mul_d
  | .fdv, .FloorDiv, _ => op_fdv_d
  | .mod, .Mod, _ => op_mod_d
  | .pow, .Pow, _ => op_pow_d
theorem ck_b (hu : X.A.units + 64 < cLine) : ∀ {op : CK} {o : CmpOp}, ckB op o = true → OpR X (compareOp o) (rCmp X.K (cmpP op))
  | .eq, .Eq, _ => cmp_eq_d hu
  | .ne, .NotEq, _ => cmp_ne_d hu
  | .lt, .Lt, _ => cmp_lt_d
  | .le, .LtE, _ => cmp_le_d
  | .gt, .Gt, _ => cmp_gt_d
  | .ge, .GtE, _ => cmp_ge_d
  | .inn, .In, _ => cmp_in_d
  | .nin, .NotIn, _ => cmp_nin_d
theorem g_bin {op : BK} (ha : Good T G cf k CXT a) (hb : Good T G cf k CXT b) : Good T G cf k CXT (.bin op a b) := by
  intro m L e X W h c
  simp only [chk, Bool.and_eq_true] at c
  obtain ⟨c1, c2⟩ := c
  split at c2
  · simp only [Bool.and_eq_true] at c2
    obtain ⟨c2, c3, c4⟩ := c2
    exact mv_sem h c1 (E_bin (op_b c2) h.gk (ha .E L _ X W h c3) (hb .E L _ X W h c4))
  · cases c2
theorem g_neg (ha : Good T G cf k CXT a) : Good T G cf k CXT (.neg a) := by
  intro m L e X W h c
  simp only [chk, Bool.and_eq_true] at c
  obtain ⟨c1, c2⟩ := c
  split at c2
  · exact mE_sem c1 (E_neg (ha .E L _ X W h c2))
  · cases c2
theorem g_not (ha : Good T G cf k CXT a) : Good T G cf k CXT (.not a) := by
  intro m L e X W h c
  simp only [chk] at c
  split at c
  · split at c
    · exact E_not (ha .E L _ X W h c)
    · exact T_not (ha .T L _ X W h c)
    · cases c
  · cases c
theorem g_cmp {op : CK} (ha : Good T G cf k CXT a) (hb : Good T G cf k CXT b) : Good T G cf k CXT (.cmp op a b) := by
  intro m L e X W h c
  simp only [chk, Bool.and_eq_true] at c
  obtain ⟨c1, c2⟩ := c
  split at c2
  · simp only [Bool.and_eq_true, Bool.not_eq_true'] at c2
    obtain ⟨⟨c2, c5⟩, c3, c4⟩ := c2
    have A := ha .E L _ X W h c3
    have B := hb .E L _ X W h c4
    have O := ck_b (X := X) h.room.units c2
    exact mT_sem c1 (E_cmp O h.gk A B c5) (T_cmp O h.gk A B c5)
  · cases c2
theorem g_chn {op op' : CK} (ha : Good T G cf k CXT a) (hb : Good T G cf k CXT b) (hc : Good T G cf k CXT c) : Good T G cf k CXT (.chn op op' a b c) := by
  intro m L e X W h c
  simp only [chk, Bool.and_eq_true] at c
  obtain ⟨c1, c2⟩ := c
  split at c2
  · simp only [Bool.and_eq_true, Bool.not_eq_true'] at c2
    obtain ⟨⟨⟨c2, c3⟩, c4⟩, ⟨c5, c6⟩, c7⟩ := c2
    have A := ha .E L _ X W h c5
    have B := hb .E L _ X W h c6
    have C := hc .E L _ X W h c7
    have O := ck_b (X := X) h.room.units c2
    have O' := ck_b (X := X) h.room.units c3
    exact mT_sem c1 (C_chn O O' h.gk A B C c4) (T_chn O O' h.gk A B C c4)
  · cases c2
theorem is_b {n : Bool} {o : CmpOp} (h : isB n o = true) : o = if n = true then .IsNot else .Is := by
  cases o <;> cases n <;> first | rfl | cases h
theorem g_isc {n : Bool} {p : PyData} (ha : Good T G cf k CXT a) : Good T G cf k CXT (.isc n a p) := by
  intro m L e X W h c
  simp only [chk, Bool.and_eq_true] at c
  obtain ⟨c1, c2⟩ := c
  split at c2
  · simp only [Bool.and_eq_true] at c2
    obtain ⟨⟨c2, c3⟩, c4⟩ := c2
    have A := ha .E L _ X W h c3
    split at c4
    · exact mT_sem c1 (E_isN (is_b c2) A) (T_isN (is_b c2) A)
    · rw [decide_eq_true_eq] at c4
      subst c4
      exact mT_sem c1 (E_isB (is_b c2) A) (T_isB (is_b c2) A)
    · cases c4
  · cases c2
theorem g_and (ha : Good T G cf k CXT a) (hb : Good T G cf k CXT b) : Good T G cf k CXT (.and a b) := by
  intro m L e X W h c
  simp only [chk] at c
  split at c
  · rename_i x y r pos
    cases m with
    | E =>
      simp only [Bool.and_eq_true] at c
      obtain ⟨c1, c2⟩ := c
      refine E_and (ha .E L _ X W h c1) ?_
      cases r with
      | nil => exact pe_one (hb .E L _ X W h c2)
      | cons z r => exact hb .E L _ X W h c2
    | T =>
      simp only [Bool.and_eq_true] at c
      obtain ⟨c1, c2⟩ := c
      refine PW.pt (T_and (ha .T L _ X W h c1) ?_)
      cases r with
      | nil => exact pw_and1 (hb .T L _ X W h c2)
      | cons z r => exact hb .W L _ X W h c2
    | W =>
      simp only [Bool.and_eq_true] at c
      obtain ⟨c1, c2⟩ := c
      refine T_and (ha .T L _ X W h c1) ?_
      cases r with
      | nil => exact pw_and1 (hb .T L _ X W h c2)
      | cons z r => exact hb .W L _ X W h c2
    | F => cases c
    | I t => cases c
  · cases c
theorem g_or (ha : Good T G cf k CXT a) (hb : Good T G cf k CXT b) : Good T G cf k CXT (.or a b) := by
  intro m L e X W h c
  simp only [chk] at c
  split at c
  · rename_i x y r pos
    cases m with
    | E =>
      simp only [Bool.and_eq_true] at c
      obtain ⟨c1, c2⟩ := c
      refine E_or (ha .E L _ X W h c1) ?_
      cases r with
      | nil => exact pe_one (hb .E L _ X W h c2)
      | cons z r => exact hb .E L _ X W h c2
    | T =>
      simp only [Bool.and_eq_true] at c
      obtain ⟨c1, c2⟩ := c
      refine PW.pt (T_or (ha .T L _ X W h c1) ?_)
      cases r with
      | nil => exact pw_or1 (hb .T L _ X W h c2)
      | cons z r => exact hb .W L _ X W h c2
    | W =>
      simp only [Bool.and_eq_true] at c
      obtain ⟨c1, c2⟩ := c
      refine T_or (ha .T L _ X W h c1) ?_
      cases r with
      | nil => exact pw_or1 (hb .T L _ X W h c2)
      | cons z r => exact hb .W L _ X W h c2
    | F => cases c
    | I t => cases c
  · cases c
theorem g_ite (hc : Good T G cf k CXT c) (ha : Good T G cf k CXT a) (hb : Good T G cf k CXT b) : Good T G cf k CXT (.ite c a b) := by
  intro m L e X W h c
  simp only [chk, Bool.and_eq_true] at c
  obtain ⟨c1, c2⟩ := c
  split at c2
  · simp only [Bool.and_eq_true] at c2
    obtain ⟨c2, c3, c4⟩ := c2
    exact mE_sem c1 (E_ite (hc .T L _ X W h c2) (ha .E L _ X W h c3) (hb .E L _ X W h c4))
  · simp only [Bool.and_eq_true] at c2
    obtain ⟨c2, c3, c4⟩ := c2
    obtain ⟨i, n, rfl, rfl⟩ := orvB_is c2
    exact mE_sem c1 (E_orv (ha .E L _ X W h c3) (hb .E L _ X W h c4) fun s S => sli_pure)
  · cases c2
theorem noS {e : Expr} {es : List Expr} (h : noStars (e :: es) = true) : noStar e = true ∧ noStars es = true := by
  simpa only [noStars, Bool.and_eq_true] using h
theorem ds_ok {ds : List Int} {t : FnT} (h : (ds.isEmpty || decide (ds = t.ds)) = true) : ds = [] ∨ ds = t.ds := by
  simpa only [Bool.or_eq_true, decide_eq_true_eq, List.isEmpty_iff] using h
theorem g_call {f : Nat} {ds : List Int} (hl : GoodL T G cf k CXT is) : Good T G cf k CXT (.call f is ds) := by
  intro m L e X W h c
  simp only [chk, Bool.and_eq_true] at c
  obtain ⟨c1, c2⟩ := c
  split at c2
  · rename_i x p xs pos
    split at c2
    · rename_i t ht
      simp only [Bool.and_eq_true, decide_eq_true_eq, Option.isNone_iff_eq_none] at c2
      obtain ⟨⟨⟨⟨⟨⟨c2, rfl⟩, c4⟩, c5⟩, c6⟩, c7⟩, c8⟩ := c2
      obtain ⟨fa, fd, hF, hB, _, hN, _⟩ := h.env.fn f t ht
      obtain ⟨us, hU, hB⟩ := hB ds (ds_ok c7)
      obtain ⟨h1, h2⟩ := hN c2
      obtain ⟨hA, hS⟩ := hl _ _ _ _ h c8
      have hr : Room k X.A := h.room.mono (Nat.le_succ k)
      cases xs with
      | nil =>
        cases is with
        | nil => exact mv_sem h c1 (C_call0 hF hr h.hush (h.gl c4) h1 h2 hB hU h.pass h.wi (by simpa using c6) (nm_ok c5).1)
        | cons i is => simp [chkL] at c8
      | cons y ys => exact mv_sem h c1 (C_call hF hr h.hush (h.gl c4) h1 h2 hB hU h.pass h.wi hA c6 (nm_ok c5).1 (star_cons (noS hS).1) (star_any (noS hS).2))
    · cases c2
  · cases c2
theorem g_callk {f : Nat} {perm : List Nat} (hl : GoodL T G cf k CXT is) (hk : GoodK T G cf k CXT ks) : Good T G cf k CXT (.callk f is ks perm) := by
  intro m L e X W h c
  simp only [chk, Bool.and_eq_true] at c
  obtain ⟨c1, c2⟩ := c
  split at c2
  · rename_i x p xs kws pos
    split at c2
    · rename_i t ht
      simp only [Bool.and_eq_true, decide_eq_true_eq, Option.isNone_iff_eq_none, List.contains_iff_mem] at c2
      obtain ⟨⟨⟨⟨⟨⟨⟨⟨⟨c2, rfl⟩, c4⟩, c5⟩, c6⟩, c7⟩, c8⟩, c9⟩, c10⟩, c11⟩ := c2
      obtain ⟨fa, fd, hF, _, hKB, hN, _⟩ := h.env.fn f t ht
      have hKB := hKB _ c9
      obtain ⟨h1, h2⟩ := hN c2
      obtain ⟨hA, hS⟩ := hl _ _ _ _ h c10
      have hKw := hk _ _ _ _ h c11
      have hr : Room k X.A := h.room.mono (Nat.le_succ k)
      obtain ⟨k1, k2, k3⟩ := kw_facts (env := X.env) (pos := pos) c6
      cases xs with
      | nil =>
        cases is with
        | cons i is => simp [chkL] at c10
        | nil =>
          refine mv_sem h c1 (PEmon (call_p0 hF hr h.hush (h.gl c4) h1 h2 hKB h.pass hKw k1 k2 (nm_ok c5).1 (by rw [k3]; rfl)) fun t' H Q q => ?_)
          obtain ⟨F, loc, s, S, hS', hE, p⟩ := rd_callk (np := 0) h.wi rfl c8 c7 q
          simp only [evL] at p
          exact p [] F loc H (.refl hS') .nil
      | cons y ys =>
        refine mv_sem h c1 (PEmon (call_p hF hr h.hush (h.gl c4) h1 h2 hKB h.pass hA hKw k1 k2 (nm_ok c5).1 (star_cons (noS hS).1) ?_) fun t' H Q q => rd_callk h.wi rfl c8 c7 q)
        rw [star_any hS, k3]
        rfl
    · cases c2
  · cases c2
theorem g_mk {ci f : Nat} (hl : GoodL T G cf k CXT is) : Good T G cf k CXT (.mk ci f is) := by
  intro m L e X W h c
  simp only [chk, Bool.and_eq_true] at c
  obtain ⟨c1, c2⟩ := c
  split at c2
  · rename_i x p xs pos
    split at c2
    · rename_i t ht
      simp only [Bool.and_eq_true, decide_eq_true_eq] at c2
      obtain ⟨⟨⟨⟨⟨⟨c2, c3⟩, c4⟩, c5⟩, c6⟩, c7⟩, c8⟩ := c2
      obtain ⟨fa, fd, hF, hB, _, _, hM⟩ := h.env.fn f t ht
      obtain ⟨us, hU, hB⟩ := hB [] (.inl rfl)
      cases hU
      obtain ⟨ok, h1⟩ := h.env.cl ci x c4
      have M := (hM ci c2).2 c3
      obtain ⟨hA, hS⟩ := hl _ _ _ _ h c8
      cases xs with
      | nil =>
        cases is with
        | nil => exact mv_sem h c1 (C_mk0 ok M hF h.room h.hush (h.gl c5) h1 hB h.pass h.wi (by simpa using c7) (nm_ok c6).1)
        | cons i is => simp [chkL] at c8
      | cons y ys => exact mv_sem h c1 (C_mk ok M hF h.room h.hush (h.gl c5) h1 hB h.pass h.wi hA c7 (nm_ok c6).1 (star_cons (noS hS).1) (star_any (noS hS).2))
    · cases c2
  · cases c2
theorem g_mth {ci f : Nat} {ds : List Int} (ho : Good T G cf k CXT o) (hl : GoodL T G cf k CXT is) : Good T G cf k CXT (.mth ci f o is ds) := by
  intro m L e X W h c
  simp only [chk, Bool.and_eq_true] at c
  obtain ⟨c1, c2⟩ := c
  split at c2
  · rename_i y nm apos xs pos
    split at c2
    · rename_i t ht
      simp only [Bool.and_eq_true, decide_eq_true_eq] at c2
      obtain ⟨⟨⟨⟨⟨⟨⟨⟨⟨c2, rfl⟩, hi⟩, c3⟩, c4⟩, c5⟩, c6⟩, c7⟩, c8⟩, c9⟩ := c2
      obtain ⟨fa, fd, hF, hB, _, _, hM⟩ := h.env.fn f t ht
      obtain ⟨us, hU, hB⟩ := hB ds (ds_ok c7)
      have ok := h.env.clm f t ci ht c2
      obtain ⟨hA, hS⟩ := hl _ _ _ _ h c9
      have hO := ho .E L _ X W h c8
      have hr : Room k X.A := h.room.mono (Nat.le_succ k)
      have me := (hM ci c2).1 hi
      have eq := meth_eq (env := X.env) (m := t.nm) c3 c4 hS c5
      cases xs with
      | nil =>
        cases is with
        | nil => exact mv_sem h c1 (C_mth0 hO (h.env.cok ci ok) me (fun g => h.env.fm g f t ci ht c2) hF hr h.hush hB hU h.pass h.wi (by simpa using c6) eq)
        | cons i is => simp [chkL] at c9
      | cons y ys => exact mv_sem h c1 (C_mth hO (h.env.cok ci ok) me (fun g => h.env.fm g f t ci ht c2) hF hr h.hush hB hU h.pass h.wi hA c6 (star_cons (noS hS).1) (star_any (noS hS).2) eq)
    · cases c2
  · cases c2
end
end IP
namespace IP
open PySem PySem.Spec PyProof.Rows L2

section
variable {T : Tab} {G : GC} {cf : CallF} {k : Nat} {CXT : CXT} {W : WX} {L : LC} {X : Cx} {e : Expr} {es : List Expr} {ie a b c o : IE} {is ks : List IE} {m : Mode} {x : Str}
theorem XOk.units (h : XOk T G cf k CXT W L X) : X.A.units + 200 < cLine := by
  have := h.room.un
  omega
theorem bf_new {b : BF} {n : Str} (hb : bfF b = some n) : ∀ p d, bfP b [p] = some d → ∃ ps, d = .list ps := by
  intro p d h
  cases b <;> first | (cases hb; done) | skip
  · cases p <;> first | (cases h; done) | (cases h; exact ⟨_, rfl⟩)
  · cases p <;> first | (cases h; done) | skip
    simp only [bfP, Option.bind_eq_some_iff] at h
    obtain ⟨rs, _, h⟩ := h
    split at h
    · cases h; exact ⟨_, rfl⟩
    · cases h
theorem bf_plain {b : BF} {n : Str} (h : XOk T G cf k CXT W L X) (hb : bfN b = some n) : (∃ id, bootBuiltins n = some (.builtin id) ∧ CallR X (.builtin id) (rB G b)) ∨ ∃ Ty, bootBuiltins n = some (.type Ty) ∧ CallR X (.type Ty) (rB G b) := by
  cases b <;> first | (cases hb; done) | (cases hb)
  · exact .inl ⟨_, rfl, b_len h.gk⟩
  · exact .inl ⟨_, rfl, b_abs⟩
  · exact .inl ⟨_, rfl, b_min2 h.calm⟩
  · exact .inl ⟨_, rfl, b_max2 h.calm⟩
  · exact .inr ⟨_, rfl, b_int⟩
  · exact .inr ⟨_, rfl, b_str⟩
  · exact .inl ⟨_, rfl, b_repr h.env.sys h.gk h.hush h.units⟩
  · exact .inr ⟨_, rfl, b_tuple h.gk⟩
  · exact .inl ⟨_, rfl, b_all h.calm⟩
  · exact .inl ⟨_, rfl, b_any h.calm⟩
  · exact .inl ⟨_, rfl, b_sum h.gk h.calm⟩
  · exact .inl ⟨_, rfl, b_min h.gk h.units h.calm⟩
theorem bf_list {b : BF} {n : Str} (h : XOk T G cf k CXT W L X) (hb : bfF b = some n) : (∃ id, bootBuiltins n = some (.builtin id) ∧ CallR X (.builtin id) (rN G b)) ∨ ∃ Ty, bootBuiltins n = some (.type Ty) ∧ CallR X (.type Ty) (rN G b) := by
  cases b <;> first | (cases hb; done) | (cases hb)
  · exact .inr ⟨_, rfl, b_list h.gk⟩
  · exact .inl ⟨_, rfl, b_sorted h.gk h.units⟩
theorem bfN_nm {b : BF} {n : Str} (hb : bfN b = some n) : n ≠ "__name__" ∧ (n == ("__debug__" : Str)) = false := by
  cases b <;> first | (cases hb; done) | (cases hb; exact ⟨by decide, by decide⟩)
theorem bfF_nm {b : BF} {n : Str} (hb : bfF b = some n) : n ≠ "__name__" ∧ (n == ("__debug__" : Str)) = false := by
  cases b <;> first | (cases hb; done) | (cases hb; exact ⟨by decide, by decide⟩)
theorem tk_boot (t : TK) : bootBuiltins (tkS t) = some (.type (tkN t)) ∧ tkS t ≠ "__name__" ∧ (tkS t == ("__debug__" : Str)) = false := by
  cases t <;> exact ⟨rfl, by decide, by decide⟩
theorem one_le {y : Expr} (h : XOk T G cf k CXT W L X) (hl : GoodL T G cf k CXT is) (c : chkL T is L [y] = true) : PA X [y] (rdL G W cf is) ∧ noStar y = true := by
  obtain ⟨h1, h2⟩ := hl _ _ _ _ h c
  exact ⟨h1, (noS h2).1⟩
theorem g_bf {b : BF} (hl : GoodL T G cf k CXT is) (hl1 : ∀ i, i ∈ is → Good T G cf k CXT i) : Good T G cf k CXT (.bf b is) := by
  intro m L e X W h c
  simp only [chk] at c
  split at c
  · rename_i b t
    simp only [Bool.and_eq_true] at c
    obtain ⟨c1, c2⟩ := c
    split at c2
    · rename_i x p y z p2 pos
      simp only [Bool.and_eq_true, decide_eq_true_eq] at c2
      obtain ⟨⟨⟨⟨⟨rfl, c3⟩, rfl⟩, c5⟩, c6⟩, c7⟩ := c2
      obtain ⟨g1, g2⟩ := h.gn c3
      obtain ⟨g3, g4⟩ := h.gn c5
      obtain ⟨t1, t2, t3⟩ := tk_boot t
      match is, hl1, c7 with
      | [], _, c7 => simp [chkL] at c7
      | i :: j :: is, _, c7 => simp [chkL] at c7
      | [i], hl1, c7 =>
        simp only [chkL, Bool.and_eq_true] at c7
        have A := hl1 i List.mem_cons_self .E L y X W h c7.1.2
        exact mv_sem h c1 (E_isi h.gk g1 g2 g3 g4 t1 t2 t3 A (star_cons c6) (star_cons rfl) rfl)
    · cases c2
  · split at c
    · rename_i n hn
      simp only [Bool.and_eq_true] at c
      obtain ⟨c1, c2⟩ := c
      split at c2
      · rename_i x p y pos
        simp only [Bool.and_eq_true, decide_eq_true_eq] at c2
        obtain ⟨⟨⟨rfl, c3⟩, c4⟩, c5⟩ := c2
        obtain ⟨g1, g2⟩ := h.gn c3
        obtain ⟨n1, n2⟩ := bfF_nm hn
        have A := (one_le h hl c5).1
        match is, A, c5 with
        | [], _, c5 => simp [chkL] at c5
        | i :: j :: is, _, c5 => simp [chkL] at c5
        | [i], A, _ =>
          rcases bf_list h hn with ⟨id, q1, q2⟩ | ⟨Ty, q1, q2⟩
          · exact mF_sem h c1 (F_bf (bf_new hn) q2 g1 g2 q1 A n1 n2 (star_cons c4) rfl)
          · exact mF_sem h c1 (F_bfT (bf_new hn) q2 g1 g2 q1 A n1 n2 (star_cons c4) rfl)
      · cases c2
    · split at c
      · rename_i n hn
        simp only [Bool.and_eq_true] at c
        obtain ⟨c1, c2⟩ := c
        split at c2
        · rename_i x p y ys pos
          simp only [Bool.and_eq_true, decide_eq_true_eq] at c2
          obtain ⟨⟨rfl, c3⟩, c5⟩ := c2
          obtain ⟨g1, g2⟩ := h.gn c3
          obtain ⟨n1, n2⟩ := bfN_nm hn
          obtain ⟨A, hS⟩ := hl _ _ _ _ h c5
          rcases bf_plain h hn with ⟨id, q1, q2⟩ | ⟨Ty, q1, q2⟩
          · exact mv_sem h c1 (E_bf q2 g1 g2 q1 A n1 n2 (star_cons (noS hS).1) (star_any (noS hS).2))
          · exact mv_sem h c1 (E_bfT q2 g1 g2 q1 A n1 n2 (star_cons (noS hS).1) (star_any (noS hS).2))
        · cases c2
      · cases c
/-! comprehensions -/
mutual
theorem chkP_ok (h : XOk T G cf k CXT W L X) : ∀ {p : Pt} {tg : Expr}, chkP L p tg = true → PG X tg (gOf X.K p)
  | .nm i, tg, c => by
    simp only [chkP] at c
    split at c
    · simp only [Bool.and_eq_true, decide_eq_true_eq] at c
      obtain ⟨h1, h2⟩ := h.loc c.2
      exact pg_name (by rw [h.N]; exact h.nd) (h.at_ c.1) h1 h2
    · cases c
  | .tp ps, tg, c => by
    simp only [chkP] at c
    split at c
    · rename_i es kk pos
      simp only [Bool.and_eq_true] at c
      obtain ⟨h1, h2⟩ := chkPs_ok h c.2 c.1
      exact pg_tup h.calm h1 (asg_len.trans h2) (asg_idx c.1)
    · cases c
theorem chkPs_ok (h : XOk T G cf k CXT W L X) : ∀ {ps : List Pt} {es : List Expr}, (chkPs L ps es = true) → noStars es = true → PGs X es (gsOf X.K ps) ∧ es.length = ps.length
  | [], es, c, _ => by
    simp only [chkPs] at c
    split at c
    · exact ⟨pgs_nil, rfl⟩
    · cases c
  | p :: ps, es, c, n => by
    simp only [chkPs] at c
    split at c
    · rename_i e es
      simp only [Bool.and_eq_true] at c
      obtain ⟨h1, h2⟩ := chkPs_ok h c.2 (noS n).2
      exact ⟨pgs_cons (chkP_ok h c.1) h1 (asg_cons (noS n).1), by rw [List.length_cons, List.length_cons, h2]⟩
    · cases c
end
theorem owns_map (L : LC) (own : List Nat) : (owns L own).map (·.2) = own := by
  unfold owns
  rw [List.map_map]
  exact List.map_id own
/-- within a comprehension's block -/
theorem XOk.inn {scope : Scope} (h : XOk T G cf k CXT W L X) (hk : scope.kind = .function) (s : Shared) (H : Hp) (C : Addr) (cl : List (Str × Addr)) (fp : List Addr) : XOk T G cf k CXT W0 (L.in scope) (X.blk s H scope (compEnvC scope cl C X.env) fp) where
  env := h.env
  N := h.N
  nd := h.nd
  sc := by
    show relabel scope X.env = relS scope L.sc
    rw [← h.sc]
    rfl
  kind := hk
  room := h.room
  hush := h.hush
  calm := h.calm
  fn := fun x z => z
  pass := h.env.p0 _ rfl rfl
  take := LamX.takes0
  lam := fun z => by cases z
  wi := fun _ _ _ _ _ z => z
/-- all the parts of a comprehension -/
structure CompOk (T : Tab) (G : GC) (cf : CallF) (W : WX) (X : Cx) (elt it : IE) (pt : Pt) (ifs : List IE) (own : List Nat) (N : List (Str × Nat)) (el tg iter : Expr) (cs : List Expr) (scope : Scope) : Prop where
  o : N.map (·.2) = own
  hi : PI X tg iter (rdI G W cf it)
  ok : BlkOk X.N X.env.scope scope N
  hg : ∀ (s : Shared) (H : Hp) (C : Addr) (cl : List (Str × Addr)) (fp : List Addr), PG (X.blk s H scope (compEnvC scope cl C X.env) fp) tg (gOf X.K pt)
  ht : ∀ (s : Shared) (H : Hp) (C : Addr) (cl : List (Str × Addr)) (fp : List Addr), PTs (X.blk s H scope (compEnvC scope cl C X.env) fp) cs (rdTs G W0 cf ifs)
  he : ∀ (s : Shared) (H : Hp) (C : Addr) (cl : List (Str × Addr)) (fp : List Addr), PE (X.blk s H scope (compEnvC scope cl C X.env) fp) el (rdE G W0 cf elt)
  hs : ∀ x, foldedSetIterable iter X.env x = pure x
  sl : ∀ i, i ∈ slots pt → i ∈ N.map (·.2)
theorem comp_ok {elt it : IE} {pt : Pt} {ifs : List IE} {own : List Nat} {el tg iter : Expr} {cs : List Expr} {scope : Scope} {pos : Pos} (hit : Good T G cf k CXT it) (hif : GoodC T G cf k CXT ifs) (hel : Good T G cf k CXT elt) (h : XOk T G cf k CXT W L X)
    (c : chk T (.comp elt pt it ifs own) .F L (.ListComp el [⟨tg, iter, cs, 0⟩] scope pos) = true) : CompOk T G cf W X elt it pt ifs own (owns L own) el tg iter cs scope := by
  simp only [chk, Bool.and_eq_true, mF] at c
  obtain ⟨_, ⟨⟨⟨⟨⟨c1, c2⟩, c3⟩, c4⟩, c5⟩, c6⟩, c7⟩ := c
  have B := blkOk_by c3
  refine ⟨owns_map L own, hit _ L _ X W h c1 tg rfl, ?_, fun s H C cl fp => chkP_ok (h.inn B.kind s H C cl fp) c4, fun s H C cl fp => hif _ _ _ (h.inn B.kind s H C cl fp) c5, fun s H C cl fp => hel .E _ _ _ _ (h.inn B.kind s H C cl fp) c6, set_iter c2, fun i hi => ?_⟩
  · rw [h.N, h.sc]
    exact B
  · rw [owns_map]
    have := List.all_eq_true.mp c7 i hi
    simpa using this
theorem g_comp {elt it : IE} {pt : Pt} {ifs : List IE} {own : List Nat} (hit : Good T G cf k CXT it) (hif : GoodC T G cf k CXT ifs) (hel : Good T G cf k CXT elt) : Good T G cf k CXT (.comp elt pt it ifs own) := by
  intro m L e X W h c
  have c' := c
  simp only [chk, Bool.and_eq_true] at c
  obtain ⟨c1, c2⟩ := c
  split at c2
  · rename_i el tg iter cs scope pos
    have O := comp_ok (pos := pos) hit hif hel h (by simp only [chk, Bool.and_eq_true]; exact ⟨rfl, by simpa only [Bool.and_eq_true] using c2⟩)
    refine mF_sem h c1 ?_
    have := F_comp (pos := pos) h.gk h.calm (by rw [h.N]; exact h.nd) O.hi O.ok O.hg O.ht O.he O.hs O.sl
    rw [O.o] at this
    exact this
  · cases c2
theorem g_comp2 {elt it it1 : IE} {pt pt1 : Pt} {ifs ifs1 : List IE} {own own1 : List Nat} (hit : Good T G cf k CXT it) (hif : GoodC T G cf k CXT ifs) (hit1 : Good T G cf k CXT it1) (hif1 : GoodC T G cf k CXT ifs1) (hel : Good T G cf k CXT elt) : Good T G cf k CXT (.comp2 elt pt it ifs pt1 it1 ifs1 own own1) := by
  intro m L e X W h c
  simp only [chk, Bool.and_eq_true] at c
  obtain ⟨c1, c2⟩ := c
  split at c2
  · rename_i el tg iter cs tg1 iter1 cs1 scope pos
    simp only [Bool.and_eq_true] at c2
    obtain ⟨⟨⟨⟨⟨⟨⟨a1, a2⟩, a3⟩, a4⟩, a5⟩, a6⟩, a7⟩, ⟨⟨⟨⟨b1, b2⟩, b4⟩, b5⟩, b7⟩, b8⟩ := c2
    have B := blkOk_by a3
    refine mF_sem h c1 ?_
    have := F_comp2 (G := G) (W := W) (cf := cf) (X := X) (tg := tg) (tg1 := tg1) (elt := el) (iter := iter) (iter1 := iter1) (ifs := cs) (ifs1 := cs1) (scope := scope) (pos := pos) (own := owns L own) (own1 := own1) (it := it) (ielt := elt) (it1 := it1) (pt := pt) (pt1 := pt1) (iifs := ifs) (iifs1 := ifs1) h.gk h.calm (by rw [h.N]; exact h.nd) (hit _ L _ X W h a1 tg rfl) (by rw [h.N, h.sc]; exact B)
      (fun i hi => by
        rw [owns_map]
        have := List.all_eq_true.mp b8 i hi
        simpa using this)
      (fun s H C cl fp => chkP_ok (h.inn B.kind s H C cl fp) a4) (fun s H C cl fp => hif _ _ _ (h.inn B.kind s H C cl fp) a5)
      (fun s H C cl fp => hit1 _ _ _ _ _ (h.inn B.kind s H C cl fp) b1 tg1 rfl) (fun s H C cl fp => chkP_ok (h.inn B.kind s H C cl fp) b4) (fun s H C cl fp => hif1 _ _ _ (h.inn B.kind s H C cl fp) b5)
      (fun s H C cl fp => hel .E _ _ _ _ (h.inn B.kind s H C cl fp) a6) (set_iter a2) (fun env x => set_iter b2 x)
      (fun i hi => by
        rw [owns_map]
        have := List.all_eq_true.mp a7 i hi
        simpa using this)
      (fun i hi => by
        have := List.all_eq_true.mp b7 i hi
        simpa using this)
    rw [owns_map] at this
    exact this
  · cases c2
/-! the others -/
theorem g_idx (ha : Good T G cf k CXT a) (hb : Good T G cf k CXT b) : Good T G cf k CXT (.idx a b) := by
  intro m L e X W h c
  simp only [chk, Bool.and_eq_true] at c
  obtain ⟨c1, c2⟩ := c
  split at c2
  · simp only [Bool.and_eq_true] at c2
    obtain ⟨c2, c3, c4⟩ := c2
    exact mv_sem h c1 (E_idx (ix_plain c2) h.gk (ha .E L _ X W h c3) (hb .E L _ X W h c4))
  · cases c2
theorem non_is {i : IE} (h : isNon i = true) : i = .non := by
  cases i <;> first | rfl | cases h
theorem g_sli (ha : Good T G cf k CXT a) (hb : Good T G cf k CXT b) (hc : Good T G cf k CXT c) : Good T G cf k CXT (.sli a b c) := by
  intro m L e X W h c
  simp only [chk, Bool.and_eq_true] at c
  obtain ⟨c1, c2⟩ := c
  split at c2
  · simp only [Bool.and_eq_true] at c2
    obtain ⟨⟨c2, c3⟩, c4⟩ := c2
    refine mv_sem h c1 (E_sli h.gk (ha .E L _ X W h c2) ?_ ?_)
    · split at c3
      · rw [non_is c3]; exact PO_none
      · simp only [Bool.and_eq_true, Bool.not_eq_true'] at c3
        exact PO_some c3.1 (hb .E L _ X W h c3.2)
    · split at c4
      · rw [non_is c4]; exact PO_none
      · simp only [Bool.and_eq_true, Bool.not_eq_true'] at c4
        exact PO_some c4.1 (hc .E L _ X W h c4.2)
  · cases c2
theorem g_rev (ha : Good T G cf k CXT a) : Good T G cf k CXT (.rev a) := by
  intro m L e X W h c
  simp only [chk, Bool.and_eq_true] at c
  obtain ⟨c1, c2⟩ := c
  split at c2
  · exact mv_sem h c1 (E_rev h.gk (ha .E L _ X W h c2))
  · cases c2
theorem g_fld {f : Nat} (ho : Good T G cf k CXT o) : Good T G cf k CXT (.fld o f) := by
  intro m L e X W h c
  simp only [chk, Bool.and_eq_true] at c
  obtain ⟨c1, c2⟩ := c
  split at c2
  · simp only [Bool.and_eq_true, decide_eq_true_eq] at c2
    obtain ⟨⟨c2, c3⟩, c4⟩ := c2
    obtain ⟨h1, h2⟩ := h.env.fl _ _ c3
    exact mv_sem h c1 (E_fld h1 h.env.fi h.env.cok h2 (ho .E L _ X W h c4) (base_at c2))
  · cases c2
theorem g_rg1 (ha : Good T G cf k CXT a) : Good T G cf k CXT (.rg1 a) := by
  intro m L e X W h c
  simp only [chk] at c
  split at c
  · split at c
    · simp only [Bool.and_eq_true, decide_eq_true_eq] at c
      obtain ⟨⟨⟨rfl, c2⟩, c3⟩, c4⟩ := c
      obtain ⟨g1, g2⟩ := h.gn c2
      exact fun tg _ => I_rg1 g1 g2 (ha .E L _ X W h c4) (star_cons c3)
    · cases c
  · cases c
theorem g_rg2 (ha : Good T G cf k CXT a) (hb : Good T G cf k CXT b) : Good T G cf k CXT (.rg2 a b) := by
  intro m L e X W h c
  simp only [chk] at c
  split at c
  · split at c
    · simp only [Bool.and_eq_true, decide_eq_true_eq] at c
      obtain ⟨⟨⟨⟨⟨rfl, c2⟩, c3⟩, c4⟩, c5⟩, c6⟩ := c
      obtain ⟨g1, g2⟩ := h.gn c2
      exact fun tg _ => I_rg2 g1 g2 (ha .E L _ X W h c5) (hb .E L _ X W h c6) (star_cons c3) (star_cons c4)
    · cases c
  · cases c
theorem g_zip (ha : Good T G cf k CXT a) (hb : Good T G cf k CXT b) : Good T G cf k CXT (.zip a b) := by
  intro m L e X W h c
  simp only [chk] at c
  split at c
  · split at c
    · simp only [Bool.and_eq_true, decide_eq_true_eq] at c
      obtain ⟨⟨⟨⟨⟨rfl, c2⟩, c3⟩, c4⟩, c5⟩, c6⟩ := c
      obtain ⟨g1, g2⟩ := h.gn c2
      intro tg ht
      cases tg <;> first | (cases ht; done) | exact I_zip h.gk g1 g2 (ha .E L _ X W h c5) (hb .E L _ X W h c6) (star_cons c3) (star_cons c4)
    · cases c
  · cases c
theorem g_enu (ha : Good T G cf k CXT a) : Good T G cf k CXT (.enu a) := by
  intro m L e X W h c
  simp only [chk] at c
  split at c
  · split at c
    · simp only [Bool.and_eq_true, decide_eq_true_eq] at c
      obtain ⟨⟨⟨rfl, c2⟩, c3⟩, c4⟩ := c
      obtain ⟨g1, g2⟩ := h.gn c2
      intro tg ht
      cases tg <;> first | (cases ht; done) | exact I_enu h.gk g1 g2 (ha .E L _ X W h c4) (star_cons c3)
    · cases c
  · cases c
theorem g_pop {i : Nat} (ha : Good T G cf k CXT a) : Good T G cf k CXT (.pop i a) := by
  intro m L e X W h c
  simp only [chk, Bool.and_eq_true] at c
  obtain ⟨c1, c2⟩ := c
  split at c2
  · simp only [Bool.and_eq_true, decide_eq_true_eq] at c2
    obtain ⟨⟨⟨⟨⟨⟨rfl, c2⟩, c3⟩, c4⟩, c5⟩, c6⟩, c7⟩ := c2
    refine mE_sem c1 (E_pop (h.at_ c2) (ha .E L _ X W h c7) fun {te} hv => ?_)
    refine pe_bm PySem.F.plainAttrs_list PySem.F.slot_list_pop PySem.F.type_list_pop mt_popAt (pe_var (h.at_ c2) (h.vis c3) (nm_ok c4).1 (nm_ok c4).2) (pa_cons hv pa_nil (star_cons c6)) rfl ?_ c5 (star_cons c6) rfl
    rw [star_cons c6]
    rfl
  · cases c2
theorem g_rvd (ha : Good T G cf k CXT a) : Good T G cf k CXT (.rvd a) := by
  intro m L e X W h c
  simp only [chk] at c
  split at c
  · split at c
    · simp only [Bool.and_eq_true, decide_eq_true_eq] at c
      obtain ⟨⟨⟨rfl, c2⟩, c3⟩, c4⟩ := c
      obtain ⟨g1, g2⟩ := h.gn c2
      exact fun tg _ => I_rvd h.gk g1 g2 (ha .E L _ X W h c4) (star_cons c3)
    · cases c
  · cases c
theorem g_lr1 {t : Bool} (ha : Good T G cf k CXT a) : Good T G cf k CXT (.lr1 t a) := by
  intro m L e X W h c
  simp only [chk, Bool.and_eq_true] at c
  obtain ⟨c1, c2⟩ := c
  split at c2
  · simp only [Bool.and_eq_true, decide_eq_true_eq] at c2
    obtain ⟨⟨⟨⟨⟨rfl, rfl⟩, c3⟩, c4⟩, c5⟩, c6⟩ := c2
    obtain ⟨g1, g2⟩ := h.gn c3
    obtain ⟨g3, g4⟩ := h.gn c4
    cases t with
    | true => exact mv_sem h c1 (E_lr1 h.calm g1 g2 g3 g4 (ha .E L _ X W h c6) (star_cons c5))
    | false => exact mF_sem h c1 (F_lr1 h.calm g1 g2 g3 g4 (ha .E L _ X W h c6) (star_cons c5))
  · cases c2
theorem g_lr2 {t : Bool} (ha : Good T G cf k CXT a) (hb : Good T G cf k CXT b) : Good T G cf k CXT (.lr2 t a b) := by
  intro m L e X W h c
  simp only [chk, Bool.and_eq_true] at c
  obtain ⟨c1, c2⟩ := c
  split at c2
  · simp only [Bool.and_eq_true, decide_eq_true_eq] at c2
    obtain ⟨⟨⟨⟨⟨⟨⟨rfl, rfl⟩, c3⟩, c4⟩, c5⟩, c6⟩, c7⟩, c8⟩ := c2
    obtain ⟨g1, g2⟩ := h.gn c3
    obtain ⟨g3, g4⟩ := h.gn c4
    cases t with
    | true => exact mv_sem h c1 (E_lr2 h.calm g1 g2 g3 g4 (ha .E L _ X W h c7) (hb .E L _ X W h c8) (star_cons c5) (star_cons c6))
    | false => exact mF_sem h c1 (F_lr2 h.calm g1 g2 g3 g4 (ha .E L _ X W h c7) (hb .E L _ X W h c8) (star_cons c5) (star_cons c6))
  · cases c2
theorem g_cat (ha : Good T G cf k CXT a) (hb : Good T G cf k CXT b) : Good T G cf k CXT (.cat a b) := by
  intro m L e X W h c
  simp only [chk, Bool.and_eq_true] at c
  obtain ⟨c1, c2⟩ := c
  split at c2
  · simp only [Bool.and_eq_true] at c2
    exact mF_sem h c1 (F_cat (ha .E L _ X W h c2.1) (hb .E L _ X W h c2.2))
  · cases c2
theorem g_ndc : Good T G cf k CXT .ndc := by
  intro m L e X W h c
  simp only [chk, Bool.and_eq_true] at c
  obtain ⟨c1, c2⟩ := c
  split at c2
  · exact mE_sem c1 E_ndc
  · cases c2
theorem g_dgt {i : Nat} (ha : Good T G cf k CXT a) (hb : Good T G cf k CXT b) : Good T G cf k CXT (.dgt i a b) := by
  intro m L e X W h c
  simp only [chk, Bool.and_eq_true] at c
  obtain ⟨c1, c2⟩ := c
  split at c2
  · simp only [Bool.and_eq_true, decide_eq_true_eq] at c2
    obtain ⟨⟨⟨⟨⟨⟨⟨⟨rfl, c2⟩, c3⟩, c4⟩, c5⟩, c6⟩, c7⟩, c8⟩, c9⟩ := c2
    have hr := h.units
    refine mE_sem c1 (E_dgt (by omega) (h.at_ c2) (h.vis c3) (nm_ok c4).1 (nm_ok c4).2 (ha .E L _ X W h c8) (hb .E L _ X W h c9) ⟨rfl, ?_, c5, ?_⟩)
    · rw [star_cons c6, star_cons c7]
      rfl
    · rw [star_cons c6, star_cons c7]
      rfl
  · cases c2
theorem g_dvs {i : Nat} : Good T G cf k CXT (.dvs i) := by
  intro m L e X W h c
  simp only [chk, Bool.and_eq_true] at c
  obtain ⟨c1, c2⟩ := c
  split at c2
  · simp only [Bool.and_eq_true, decide_eq_true_eq] at c2
    obtain ⟨⟨⟨⟨⟨⟨rfl, rfl⟩, c3⟩, c4⟩, c5⟩, c6⟩, c7⟩ := c2
    obtain ⟨g1, g2⟩ := h.gn c3
    exact mF_sem h c1 (F_dvs h.gk h.calm h.units g1 g2 (h.at_ c4) (h.vis c5) (nm_ok c6).1 (nm_ok c6).2 rfl c7)
  · cases c2
theorem g_sst (ha : Good T G cf k CXT a) : Good T G cf k CXT (.sst a) := by
  intro m L e X W h c
  simp only [chk, Bool.and_eq_true] at c
  obtain ⟨c1, c2⟩ := c
  split at c2
  · simp only [Bool.and_eq_true, decide_eq_true_eq] at c2
    obtain ⟨⟨⟨⟨⟨rfl, rfl⟩, c3⟩, c4⟩, c5⟩, c6⟩ := c2
    obtain ⟨g1, g2⟩ := h.gn c3
    obtain ⟨g3, g4⟩ := h.gn c4
    exact mF_sem h c1 (F_sst h.gk h.calm h.units g1 g2 g3 g4 (ha .E L _ X W h c6) (star_cons c5))
  · cases c2
theorem g_mx4 (hl : GoodL T G cf k CXT is) : Good T G cf k CXT (.mx4 is) := by
  intro m L e X W h c
  simp only [chk, Bool.and_eq_true] at c
  obtain ⟨c1, c2⟩ := c
  split at c2
  · simp only [Bool.and_eq_true, decide_eq_true_eq] at c2
    obtain ⟨⟨rfl, c3⟩, c5⟩ := c2
    obtain ⟨g1, g2⟩ := h.gn c3
    obtain ⟨A, hS⟩ := hl _ _ _ _ h c5
    exact mv_sem h c1 (E_mx4 h.calm g1 g2 A (star_cons (noS hS).1) (star_any (noS hS).2))
  · cases c2
theorem g_lset (ha : Good T G cf k CXT a) : Good T G cf k CXT (.lset a) := by
  intro m L e X W h c
  simp only [chk, Bool.and_eq_true] at c
  obtain ⟨c1, c2⟩ := c
  split at c2
  · simp only [Bool.and_eq_true, decide_eq_true_eq] at c2
    obtain ⟨⟨⟨⟨⟨rfl, rfl⟩, c3⟩, c4⟩, c5⟩, c6⟩ := c2
    obtain ⟨g1, g2⟩ := h.gn c3
    obtain ⟨g3, g4⟩ := h.gn c4
    exact mv_sem h c1 (E_lset h.gk h.calm g1 g2 g3 g4 (ha .E L _ X W h c6) (star_cons c5))
  · cases c2
theorem g_dic0 : Good T G cf k CXT .dic0 := by
  intro m L e X W h c
  simp only [chk, Bool.and_eq_true] at c
  obtain ⟨c1, c2⟩ := c
  split at c2
  · exact mv_sem h c1 E_dic0
  · cases c2
theorem ev_two {cf : CallF} {a b : Int} {s : List (Option Val)} {S : Store} : evE cf (.tup [.cst (.int a), .cst (.int b)]) s S = .ok (.dat (.tuple ([.inl a, .inl b].map keyD))) S := by
  have z : (2 : Nat) ≤ sizeLine := by rw [sizeLine_eq]; omega
  simp [evE, evL, dats, z, keyD]
theorem g_dic1 {p : PyData} (ha : Good T G cf k CXT a) : Good T G cf k CXT (.dic1 p a) := by
  intro m L e X W h c
  simp only [chk, Bool.and_eq_true] at c
  obtain ⟨c1, c2⟩ := c
  split at c2
  · simp only [Bool.and_eq_true] at c2
    obtain ⟨⟨c3, c4⟩, c5⟩ := c2
    split at c3
    · rename_i i j
      rw [decide_eq_true_eq] at c3
      subst c3
      exact mv_sem h c1 (E_dic1 (k := .inl _) pe_int (ha .E L _ X W h c5))
    · rw [decide_eq_true_eq] at c3
      subst c3
      exact mv_sem h c1 (E_dic1 (k := .inr _) pe_str (ha .E L _ X W h c5))
    · cases c3
  · simp only [Bool.and_eq_true] at c2
    obtain ⟨⟨c3, c4⟩, c5⟩ := c2
    have hr := h.units
    split at c3
    · rename_i i1 i2 j1 j2
      simp only [Bool.and_eq_true, decide_eq_true_eq] at c3
      obtain ⟨rfl, rfl⟩ := c3
      exact mv_sem h c1 (E_dic1T (k := [.inl _, .inl _]) (by omega) (E_tup (L_cons E_cint (L_cons E_cint L_nil rfl) rfl)) (fun s S => ev_two) (ha .E L _ X W h c5))
    · cases c3
  · cases c2
/-! dicts whose keys are tuples of any depth -/
theorem g_mn2 (ha : Good T G cf k CXT a) (hb : Good T G cf k CXT b) : Good T G cf k CXT (.mn2 a b) := by
  intro m L e X W h c
  simp only [chk, Bool.and_eq_true] at c
  obtain ⟨c1, c2⟩ := c
  split at c2
  · simp only [Bool.and_eq_true, decide_eq_true_eq] at c2
    obtain ⟨⟨⟨⟨⟨rfl, c3⟩, c4⟩, c5⟩, c6⟩, c7⟩ := c2
    obtain ⟨g1, g2⟩ := h.gn c3
    exact mv_sem h c1 (E_mn2 h.gk h.calm h.units g1 g2 (ha .E L _ X W h c6) (hb .E L _ X W h c7) (star_cons c4) (star_cons c5) (by rw [star_cons c5]; rfl))
  · cases c2
theorem g_nd0 : Good T G cf k CXT .nd0 := by
  intro m L e X W h c
  simp only [chk, Bool.and_eq_true] at c
  obtain ⟨c1, c2⟩ := c
  split at c2
  · exact mE_sem c1 (E_nd0 h.gw)
  · cases c2
theorem g_nd1 (ha : Good T G cf k CXT a) (hb : Good T G cf k CXT b) : Good T G cf k CXT (.nd1 a b) := by
  intro m L e X W h c
  simp only [chk, Bool.and_eq_true] at c
  obtain ⟨c1, c2⟩ := c
  split at c2
  · simp only [Bool.and_eq_true] at c2
    have hr := h.units
    exact mE_sem c1 (E_nd1 h.gw (by omega) (ha .E L _ X W h c2.1) (hb .E L _ X W h c2.2))
  · cases c2
theorem nin_op {n : Bool} {o : CmpOp} (h : ckB (if n = true then .nin else .inn) o = true) : o = ninOp n := by
  cases n <;> cases o <;> first | rfl | cases h
theorem g_nin {n : Bool} {i : Nat} (ha : Good T G cf k CXT a) : Good T G cf k CXT (.nin n a i) := by
  intro m L e X W h c
  simp only [chk, Bool.and_eq_true] at c
  obtain ⟨c1, c2⟩ := c
  split at c2
  · simp only [Bool.and_eq_true, decide_eq_true_eq, Bool.not_eq_true'] at c2
    obtain ⟨⟨⟨⟨⟨c2, c3⟩, c4⟩, c5⟩, c6⟩, c7⟩ := c2
    have hr := h.units
    cases nin_op c2
    have A := ha .E L _ X W h c7
    exact mT_sem c1 (E_nin h.gw (by omega) A (h.at_ c4) (h.vis c5) (nm_ok c6).1 (nm_ok c6).2 c3) (T_nin h.gw (by omega) A (h.at_ c4) (h.vis c5) (nm_ok c6).1 (nm_ok c6).2 c3)
  · cases c2
theorem g_nix {i : Nat} (ha : Good T G cf k CXT a) : Good T G cf k CXT (.nix i a) := by
  intro m L e X W h c
  simp only [chk, Bool.and_eq_true] at c
  obtain ⟨c1, c2⟩ := c
  split at c2
  · simp only [Bool.and_eq_true, decide_eq_true_eq] at c2
    obtain ⟨⟨⟨⟨c2, c4⟩, c5⟩, c6⟩, c7⟩ := c2
    have hr := h.units
    exact mv_sem h c1 (E_nix h.gw (by omega) (ha .E L _ X W h c7) (h.at_ c4) (h.vis c5) (nm_ok c6).1 (nm_ok c6).2 (ix_plain c2))
  · cases c2
theorem g_ngt {i : Nat} (ha : Good T G cf k CXT a) (hb : Good T G cf k CXT b) : Good T G cf k CXT (.ngt i a b) := by
  intro m L e X W h c
  simp only [chk, Bool.and_eq_true] at c
  obtain ⟨c1, c2⟩ := c
  split at c2
  · simp only [Bool.and_eq_true, decide_eq_true_eq] at c2
    obtain ⟨⟨⟨⟨⟨⟨⟨⟨rfl, c2⟩, c3⟩, c4⟩, c5⟩, c6⟩, c7⟩, c8⟩, c9⟩ := c2
    have hr := h.units
    refine mE_sem c1 (E_ngt h.gw (by omega) (ha .E L _ X W h c8) (hb .E L _ X W h c9) (h.at_ c2) (h.vis c3) (nm_ok c4).1 (nm_ok c4).2 ⟨rfl, ?_, c5, ?_⟩)
    · rw [star_cons c6, star_cons c7]
      rfl
    · rw [star_cons c6, star_cons c7]
      rfl
  · cases c2
theorem g_nks {i : Nat} : Good T G cf k CXT (.nks i) := by
  intro m L e X W h c
  simp only [chk] at c
  split at c
  · split at c
    · simp only [Bool.and_eq_true, decide_eq_true_eq] at c
      exact fun tg _ => I_nks h.gw (h.at_ c.1.1) (h.vis c.1.2) (nm_ok c.2).1 (nm_ok c.2).2
    · cases c
  · cases c
theorem g_nit {i : Nat} : Good T G cf k CXT (.nit i) := by
  intro m L e X W h c
  simp only [chk] at c
  split at c
  · split at c
    · simp only [Bool.and_eq_true, decide_eq_true_eq] at c
      obtain ⟨⟨⟨⟨rfl, c2⟩, c3⟩, c4⟩, c5⟩ := c
      intro tg ht
      cases tg <;> first | (cases ht; done) | exact I_nit h.gw (h.at_ c2) (h.vis c3) (nm_ok c4).1 (nm_ok c4).2 rfl c5
    · cases c
  · cases c
theorem g_no (hc : ∀ m L e, chk T ie m L e = false) : Good T G cf k CXT ie := fun m L e X W h c => by
  rw [hc] at c
  cases c
theorem noPar_is {a : Arguments} (h : noPar a = true) : a = { posonlyargs := [], args := [], vararg := none, kwonlyargs := [], kw_defaults := [], kwarg := none, defaults := [] } := by
  obtain ⟨a1, a2, a3, a4, a5, a6, a7⟩ := a
  simp only [noPar, Bool.and_eq_true, List.isEmpty_iff, Option.isNone_iff_eq_none] at h
  obtain ⟨⟨⟨⟨⟨⟨h1, h2⟩, h3⟩, h4⟩, h5⟩, h6⟩, h7⟩ := h
  subst h1 h2 h3 h4 h5 h6 h7
  rfl
theorem g_said (ha : Good T G cf k CXT a) : Good T G cf k CXT (.said a) := by
  intro m L e X W h c
  simp only [chk, Bool.and_eq_true] at c
  obtain ⟨c1, c2⟩ := c
  split at c2
  · rename_i x p params body scope lp pos
    simp only [Bool.and_eq_true, decide_eq_true_eq] at c2
    obtain ⟨⟨⟨⟨⟨⟨⟨s1, s2⟩, s3⟩, rfl⟩, s5⟩, s6⟩, s7⟩, s8⟩ := c2
    obtain ⟨ecl, R, hx⟩ := h.env.rf s2
    obtain ⟨SH, KH⟩ := h.env.said s1
    obtain ⟨hr, c, P, hc, TB, hm, hun⟩ := h.lam s3
    rw [← h.sc] at s7
    have LS := LamX.lamS_by s7
    have e := noPar_is s6
    subst e
    refine mv_sem h c1 (pe_said (k := k + 1) h.gk SH KH R (fun c fs cv d H e _ _ => ((hx c fs cv d H).mp e).2.2) h.env.sys h.hush hr (h.gl s5) TB hc hm hun LS rfl (fun _ _ _ _ _ => rfl) fun A outer s H E f c' r u => ?_)
    have tk : Takes (LamX.lamCx X A outer s H E scope f c') (fun cv d _ H => E cv d H) := L2.takes_of rfl rfl rfl rfl
    refine ha .E (L.lam scope) body _ _ ?_ s8
    exact { env := h.env, N := h.N, nd := h.nd, sc := rfl, kind := LS.kind, room := r, hush := u, calm := rfl, fn := fun x z => (by simp [fnB, LC.lam] at z), pass := h.env.pc (LamX.lamCx X A outer s H E scope f c') rfl rfl _ (fun _ _ _ _ _ z => z) tk, take := tk, wi := fun _ _ _ _ _ z => z, lam := fun z => (by cases z) }
  · cases c2
theorem l_nil : GoodL T G cf k CXT [] := by
  intro L es X W h c
  simp only [chkL] at c
  split at c
  · exact ⟨L_nil, rfl⟩
  · cases c
theorem l_cons (ha : Good T G cf k CXT a) (hl : GoodL T G cf k CXT is) : GoodL T G cf k CXT (a :: is) := by
  intro L es X W h c
  simp only [chkL] at c
  split at c
  · simp only [Bool.and_eq_true] at c
    obtain ⟨⟨c1, c2⟩, c3⟩ := c
    obtain ⟨h1, h2⟩ := hl _ _ _ _ h c3
    exact ⟨L_cons (ha .E L _ X W h c2) h1 (star_cons c1), by simp only [noStars, c1, h2]; rfl⟩
  · cases c
theorem k_nil : GoodK T G cf k CXT [] := by
  intro L es X W h c
  simp only [chkK] at c
  split at c
  · exact K_nil
  · cases c
theorem k_cons (ha : Good T G cf k CXT a) (hl : GoodK T G cf k CXT is) : GoodK T G cf k CXT (a :: is) := by
  intro L es X W h c
  simp only [chkK] at c
  split at c
  · rename_i kw es
    simp only [Bool.and_eq_true] at c
    obtain ⟨c1, c2⟩ := c
    obtain ⟨n, v, p⟩ := kw
    exact K_cons (ha .E L _ X W h c1) (hl _ _ _ _ h c2)
  · cases c
theorem c_nil : GoodC T G cf k CXT [] := by
  intro L es X h c
  simp only [chkC] at c
  split at c
  · exact T_nil
  · cases c
theorem c_cons (ha : Good T G cf k CXT a) : GoodC T G cf k CXT (a :: is) := by
  intro L es X h c
  simp only [chkC] at c
  split at c
  · simp only [Bool.and_eq_true, List.isEmpty_iff] at c
    obtain ⟨c1, rfl⟩ := c
    exact T_one (ha .T L _ X W0 h c1)
  · cases c
variable (T G cf k CXT)
mutual
theorem good : ∀ ie : IE, Good T G cf k CXT ie
  | .bad => g_bad
  | .var i => g_var
  | .frz i => g_frz
  | .cst p => g_cst
  | .non => g_no fun m L e => by simp only [chk]
  | .gcs g p => g_gcs
  | .tup is => g_tup (goodL is)
  | .lst is => g_lst (goodL is)
  | .new i => g_new (good i)
  | .ndc => g_ndc
  | .dgt i a b => g_dgt (good a) (good b)
  | .mn2 a b => g_mn2 (good a) (good b)
  | .nd0 => g_nd0
  | .nd1 a b => g_nd1 (good a) (good b)
  | .nin n a i => g_nin (good a)
  | .nix i a => g_nix (good a)
  | .ngt i a b => g_ngt (good a) (good b)
  | .nks i => g_nks
  | .nit i => g_nit
  | .dvs i => g_dvs
  | .sst a => g_sst (good a)
  | .mx4 es => g_mx4 (goodL es)
  | .bin op a b => g_bin (good a) (good b)
  | .neg a => g_neg (good a)
  | .not a => g_not (good a)
  | .cmp op a b => g_cmp (good a) (good b)
  | .chn op op' a b c => g_chn (good a) (good b) (good c)
  | .isc n a p => g_isc (good a)
  | .and a b => g_and (good a) (good b)
  | .or a b => g_or (good a) (good b)
  | .ite c a b => g_ite (good c) (good a) (good b)
  | .call f is ds => g_call (goodL is)
  | .callk f is ks perm => g_callk (goodL is) (goodK ks)
  | .mk c f is => g_mk (goodL is)
  | .mth c f o is ds => g_mth (good o) (goodL is)
  | .bf b is => g_bf (goodL is) (goodM is)
  | .comp elt pt it ifs own => g_comp (good it) (goodC ifs) (good elt)
  | .comp2 elt pt it ifs pt1 it1 ifs1 own own1 => g_comp2 (good it) (goodC ifs) (good it1) (goodC ifs1) (good elt)
  | .idx a i => g_idx (good a) (good i)
  | .sli a lo hi => g_sli (good a) (good lo) (good hi)
  | .rev a => g_rev (good a)
  | .fld o f => g_fld (good o)
  | .rg1 a => g_rg1 (good a)
  | .rg2 a b => g_rg2 (good a) (good b)
  | .zip a b => g_zip (good a) (good b)
  | .enu a => g_enu (good a)
  | .rvd a => g_rvd (good a)
  | .pop i a => g_pop (good a)
  | .lr1 t a => g_lr1 (good a)
  | .lr2 t a b => g_lr2 (good a) (good b)
  | .cat a b => g_cat (good a) (good b)
  | .lset a => g_lset (good a)
  | .dic0 => g_dic0
  | .dic1 k a => g_dic1 (good a)
  | .isx _ _ => g_no fun m L e => by simp only [chk]
  | .cnt _ _ => g_no fun m L e => by simp only [chk]
  | .ixo _ _ => g_no fun m L e => by simp only [chk]
  | .said a => g_said (good a)
theorem goodL : ∀ is : List IE, GoodL T G cf k CXT is
  | [] => l_nil
  | i :: is => l_cons (good i) (goodL is)
theorem goodK : ∀ is : List IE, GoodK T G cf k CXT is
  | [] => k_nil
  | i :: is => k_cons (good i) (goodK is)
theorem goodC : ∀ is : List IE, GoodC T G cf k CXT is
  | [] => c_nil
  | i :: is => c_cons (good i)
theorem goodM : ∀ is : List IE, ∀ i, i ∈ is → Good T G cf k CXT i
  | [], i, h => nomatch h
  | j :: is, i, h => by
    rcases List.mem_cons.mp h with e | h
    · rw [e]; exact good j
    · exact goodM is i h
end
end
end IP
namespace IP
open PySem PySem.Spec PyProof.Rows L2

/-! ### the checker for statements -/
noncomputable def isVr : IE → Bool
  | .var _ => true
  | .cst _ => true
  | _ => false
mutual
noncomputable def exOk : Tg → Bool
  | .nm _ => true
  | .fld o _ => isVr o
  | .sub o i => isVr o && isVr i
  | .tp ts => exOks ts
noncomputable def exOks : List Tg → Bool
  | [] => true
  | t :: ts => exOk t && exOks ts
end
mutual
noncomputable def chkG (T : Tab) (L : LC) : Tg → Expr → Bool
  | .nm i, e => match e with
    | .Name x _ => decide (L.N[i]? = some x) && locB L x
    | _ => false
  | .fld o f, e => match e with
    | .Attribute ox nm _ => decide (T.flds[f]? = some nm) && chk T o .E L ox
    | _ => false
  | .sub o i, e => match e with
    | .Subscript ox ix _ => noSlice ix && (chk T o .E L ox && chk T i .E L ix)
    | _ => false
  | .tp ts, e => match e with
    | .Tuple es _ _ => noStars es && exOks ts && chkGs T L ts es
    | _ => false
noncomputable def chkGs (T : Tab) (L : LC) : List Tg → List Expr → Bool
  | [], es => match es with
    | [] => true
    | _ => false
  | t :: ts, es => match es with
    | e :: es => chkG T L t e && chkGs T L ts es
    | _ => false
end
noncomputable def noName : Expr → Bool
  | .Name .. => false
  | _ => true
noncomputable def isLoc (L : LC) (x : Str) : Bool := match L.sc.names.lookup x with
  | some .local => true
  | _ => false
noncomputable def chkPar (T : Tab) (L : LC) (ts : List Tg) (es : List IE) (txs vs : List Expr) : Bool := match ts, txs, vs with
  | [.nm i, .nm j], [.Name x p1, .Name y p2], [a, b] => decide (L.N[i]? = some x) && decide (L.N[j]? = some y) && decide (i ≠ j) && isLoc L x && isLoc L y && chkL T es L [a, b] && decide (swS [.Name x p1, .Name y p2] [a, b] L.sc = some (some [x, y]))
  | [.nm i, .nm j, .nm l], [.Name x p1, .Name y p2, .Name z p3], [a, b, c] => decide (L.N[i]? = some x) && decide (L.N[j]? = some y) && decide (L.N[l]? = some z) && decide (i ≠ j) && decide (i ≠ l) && decide (j ≠ l) && isLoc L x && isLoc L y && isLoc L z && chkL T es L [a, b, c] && decide (swS [.Name x p1, .Name y p2, .Name z p3] [a, b, c] L.sc = some (some [x, y, z]))
  | _, _, _ => false
noncomputable def chkAsg (T : Tab) (L : LC) (t : Tg) (e : IE) (tg v : Expr) : Bool := match v with
  | .ListComp el gs scope vpos => match tg with
    | .Name y py => if swC y py vpos scope L.sc = true then (match t, gs, e with
        | .nm i, [⟨tg', iter, cs, 0⟩], .comp elt pt it ifs own => decide (L.N[i]? = some y) && chk T (.comp elt pt it ifs own) .F L (.ListComp el [⟨tg', iter, cs, 0⟩] scope vpos)
        | .nm i, [⟨tg', iter, cs, 0⟩], .new (.comp elt pt it ifs own) => decide (L.N[i]? = some y) && chk T (.comp elt pt it ifs own) .F L (.ListComp el [⟨tg', iter, cs, 0⟩] scope vpos)
        | _, _, _ => false)
      else chk T e .E L v && chkG T L t tg
    | _ => noName tg && noStar tg && chk T e .E L v && chkG T L t tg
  | _ => noComp v && noStar tg && chk T e .E L v && chkG T L t tg && (noTup tg || noTup v || (match tg, v with
    | .Tuple ts _ _, .Tuple vs _ _ => decide (swS ts vs L.sc = some none)
    | _, _ => false))
mutual
noncomputable def chkS (T : Tab) : IS → LC → Stmt → Bool
  | .bad, L, s => true
  | .nop, L, s => match s with
    | .Pass _ => true
    | .Expr (.Constant (.str _) _ _) _ => true
    | _ => false
  | .asg t e, L, s => match s with
    | .Assign [tg] v _ => chkAsg T L t e tg v
    | _ => false
  | .par ts es, L, s => match s with
    | .Assign [.Tuple txs _ _] (.Tuple vs _ _) _ => chkPar T L ts es txs vs || (decide (swS txs vs L.sc = some none) && noStars txs && exOks ts && decide (es.length ≤ 1000) && chkGs T L ts txs && chkL T es L vs)
    | _ => false
  | .exp e, L, s => match s with
    | .Expr v _ => noComp v && chk T e .E L v
    | _ => false
  | .app i e, L, s => match s with
    | .Expr (.Call (.Attribute (.Name x _) a apos) [v] [] cpos) _ => decide (a = "append") && decide (L.N[i]? = some x) && visB L.sc x && nmOk x && (apos.endLine == cpos.line) && noStar v && chk T e .E L v
    | _ => false
  | .ext i e, L, s => match s with
    | .Expr (.Call (.Attribute (.Name x _) a apos) [v] [] cpos) _ => decide (a = "extend") && decide (L.N[i]? = some x) && visB L.sc x && nmOk x && (apos.endLine == cpos.line) && noStar v && chk T e .E L v
    | _ => false
  | .dpt i a b, L, s => match s with
    | .Assign [.Subscript (.Name x _) u _] v _ => decide (L.N[i]? = some x) && visB L.sc x && nmOk x && noComp v && chk T a .E L u && chk T b .E L v
    | _ => false
  | .npt i a b, L, s => match s with
    | .Assign [.Subscript (.Name x _) u _] v _ => decide (L.N[i]? = some x) && visB L.sc x && nmOk x && noComp v && chk T a .E L u && chk T b .E L v
    | _ => false
  | .nup i j, L, s => match s with
    | .Expr (.Call (.Attribute (.Name x _) a apos) [.Name y _] [] cpos) _ => decide (a = "update") && decide (L.N[i]? = some x) && visB L.sc x && nmOk x && decide (L.N[j]? = some y) && visB L.sc y && nmOk y && (apos.endLine == cpos.line)
    | _ => false
  | .nuc i j k, L, s => match s with
    | .Expr (.Call (.Attribute (.Name x _) a apos) [.DictComp (.Name z1 _) (.Constant (.bool b) _ _) [⟨.Name z2 _, .Name y _, [], 0⟩] scope _] [] cpos) _ => decide (a = "update") && decide (L.N[i]? = some x) && visB L.sc x && nmOk x && decide (L.N[j]? = some y) && visB L.sc y && nmOk y && (apos.endLine == cpos.line) &&
        b && decide (z1 = z2) && decide (L.N[k]? = some z1) && blkC L.N L.sc scope [(z1, k)] && locB (L.in scope) z1 && visB (L.in scope).sc z1 && nmOk z1
    | _ => false
  | .ite c a b, L, s => match s with
    | .If cx as bs _ => chk T c .T L cx && chkSs T a L as && chkSs T b L bs
    | _ => false
  | .for_ pt it body, L, s => match s with
    | .For tg iter bs [] _ => chk T it (.I (isTupE tg)) L iter && noSet iter && chkP L pt tg && chkSs T body L bs
    | _ => false
  | .whl c body, L, s => match s with
    | .While cx bs [] _ => chk T c .T L cx && chkSs T body L bs
    | _ => false
  | .ret e, L, s => match s with
    | .Return (some v) _ => chk T e .E L v
    | _ => false
  | .rtn, L, s => match s with
    | .Return none _ => true
    | _ => false
  | .rse c es, L, s => match s with
    | .Raise (some (.Call (.Name x _) [.Constant (.str _) _ _] [] _)) none _ => T.rf && decide (c < 13) && es.isEmpty && decide (x = exN c) && glB L.sc x && nmOk x
    | _ => false
  | .tri b cs i h, L, s => false
noncomputable def chkSs (T : Tab) : List IS → LC → List Stmt → Bool
  | [], L, ss => match ss with
    | [] => true
    | _ => false
  | i :: is, L, ss => match ss with
    | s :: ss => chkS T i L s && chkSs T is L ss
    | _ => false
end
section
variable {T : Tab} {G : GC} {cf : CallF} {k : Nat} {CXT : CXT} {W : WX} {M : Option Nat} {L : LC} {X : Cx} {e : Expr} {es : List Expr} {ie a b c o : IE} {is ks : List IE} {x : Str} {st : Stmt} {sts : List Stmt} {pos : Pos} {t : Tg} {ts : List Tg} {tg v : Expr}
theorem vr_nox {i : IE} (h : isVr i = true) (s : Env) (S : Store) (c : Nat) (fs : List PyData) (S' : Store) : evE cf i s S ≠ .exc c fs S' := by
  cases i <;> first | (cases h; done) | skip
  · simp only [evE]
    split <;> exact fun z => by cases z
  · simp only [evE]
    exact fun z => by cases z
mutual
theorem as_nox : ∀ {t : Tg}, exOk t = true → ∀ (v : Val) (s : Env) (S : Store) (c : Nat) (fs : List PyData) (S' : Store), asT cf t v s S ≠ .exc c fs S'
  | .nm i, _, v, s, S, c, fs, S', e => by
    simp only [asT] at e
    split at e <;> cases e
  | .fld o f, h, v, s, S, c, fs, S', e => by
    simp only [exOk] at h
    simp only [asT] at e
    cases q : evE cf o s S with
    | err => rw [q] at e; cases e
    | exc c fs S1 => exact vr_nox h _ _ _ _ _ q
    | ok x S1 =>
      rw [q, Out.bind_ok] at e
      split at e
      · split at e
        · split at e <;> cases e
        · cases e
      · cases e
  | .sub o i, h, v, s, S, c, fs, S', e => by
    simp only [exOk, Bool.and_eq_true] at h
    simp only [asT] at e
    cases q : evE cf o s S with
    | err => rw [q] at e; cases e
    | exc c fs S1 => exact vr_nox h.1 _ _ _ _ _ q
    | ok x S1 =>
      rw [q, Out.bind_ok] at e
      cases q2 : evE cf i s S1 with
      | err => rw [q2] at e; cases e
      | exc c fs S2 => exact vr_nox h.2 _ _ _ _ _ q2
      | ok y S2 =>
        rw [q2, Out.bind_ok] at e
        split at e
        · split at e
          · split at e <;> cases e
          · cases e
        · cases e
  | .tp ts, h, v, s, S, c, fs, S', e => by
    simp only [exOk] at h
    simp only [asT] at e
    split at e
    · exact ass_nox h _ _ _ _ _ _ e
    · cases e
theorem ass_nox : ∀ {ts : List Tg}, exOks ts = true → ∀ (v : List Val) (s : Env) (S : Store) (c : Nat) (fs : List PyData) (S' : Store), asTs cf ts v s S ≠ .exc c fs S'
  | [], _, v, s, S, c, fs, S', e => by
    cases v <;> (simp only [asTs] at e; cases e)
  | t :: ts, h, [], s, S, c, fs, S', e => by
    simp only [asTs] at e
    cases e
  | t :: ts, h, v :: vs, s, S, c, fs, S', e => by
    simp only [exOks, Bool.and_eq_true] at h
    simp only [asTs] at e
    cases q : asT cf t v s S with
    | err => rw [q] at e; cases e
    | exc c fs S1 => exact as_nox h.1 _ _ _ _ _ _ q
    | ok s1 S1 =>
      rw [q, Out.bind_ok] at e
      exact ass_nox h.2 _ _ _ _ _ _ e
end
theorem sub_eq {o a : Expr} {env : PySem.Env} (h : noSlice a = true) (v : Value) : assign (.Subscript o a pos) env v = (do
      let ov ← holding [v] (eval o env)
      let iv ← holding [v, ov] (eval a env)
      standAt pos
      holding [v, ov, iv] (setItem ov iv v)
      release [v, ov, iv] []) := by
  cases a <;> first | rfl | cases h
mutual
theorem chkG_ok (h : XOk T G cf k CXT W L X) : ∀ {t : Tg} {tg : Expr}, chkG T L t tg = true → PG X tg (rdG G W cf t)
  | .nm i, tg, c => by
    simp only [chkG] at c
    split at c
    · simp only [Bool.and_eq_true, decide_eq_true_eq] at c
      obtain ⟨h1, h2⟩ := h.loc c.2
      exact G_nm (by rw [h.N]; exact h.nd) (h.at_ c.1) h1 h2
    · cases c
  | .fld o f, tg, c => by
    simp only [chkG] at c
    split at c
    · simp only [Bool.and_eq_true, decide_eq_true_eq] at c
      obtain ⟨h1, h2⟩ := h.env.fl _ _ c.1
      exact G_fld h1 h.env.fi h.env.cok h2 (good T G cf k CXT o .E L _ X W h c.2)
    · cases c
  | .sub o i, tg, c => by
    simp only [chkG] at c
    split at c
    · simp only [Bool.and_eq_true] at c
      exact G_sub (good T G cf k CXT o .E L _ X W h c.2.1) (good T G cf k CXT i .E L _ X W h c.2.2) (sub_eq c.1)
    · cases c
  | .tp ts, tg, c => by
    simp only [chkG] at c
    split at c
    · rename_i es kk pos
      simp only [Bool.and_eq_true] at c
      obtain ⟨⟨c1, c2⟩, c3⟩ := c
      obtain ⟨h1, h2⟩ := chkGs_ok h c3 c1
      exact G_tp h.gk h.calm h1 h2 asg_len (asg_idx c1) fun xs s S c fs S' => ass_nox c2 _ _ _ _ _ _
    · cases c
theorem chkGs_ok (h : XOk T G cf k CXT W L X) : ∀ {ts : List Tg} {es : List Expr}, chkGs T L ts es = true → noStars es = true → PGs X es (rdGs G W cf ts) ∧ es.length = ts.length
  | [], es, c, _ => by
    simp only [chkGs] at c
    split at c
    · exact ⟨Gs_nil, rfl⟩
    · cases c
  | t :: ts, es, c, n => by
    simp only [chkGs] at c
    split at c
    · rename_i e es
      simp only [Bool.and_eq_true] at c
      obtain ⟨h1, h2⟩ := chkGs_ok h c.2 (noS n).2
      exact ⟨Gs_cons h.wi (chkG_ok h c.1) h1 (asg_cons (noS n).1), by rw [List.length_cons, List.length_cons, h2]⟩
    · cases c
end
theorem rdG_nm {j : Nat} {v : V} {t : L2.St} {H : Hp} {Q : L2.St → Hp → Prop} (q : rdG G W cf (.nm j) v t H Q) : gName j v t H Q := by
  obtain ⟨F, loc, s, S, y, hS, hE, r, p⟩ := q
  simp only [asT] at p
  split at p
  · exact p _ _ _ _ (.refl hS) (hE.set r)
  · exact False.elim p
theorem loc_is (h : XOk T G cf k CXT W L X) (g : isLoc L x = true) : X.env.scope.names.lookup x = some .local := by
  rw [h.sc]
  unfold isLoc at g
  split at g
  · assumption
  · cases g
theorem sw_noname {tg el : Expr} {gs : List Comprehension} {scope : Scope} {p : Pos} {l : Nat} {env : PySem.Env} (h : noName tg = true) : swapsWithSole [tg] (.ListComp el gs scope p) l env = pure false := by
  cases tg <;> first | rfl | cases h
theorem S_comp {i : Nat} {y : Str} {py spos vpos : Pos} {elt it : IE} {pt : Pt} {ifs : List IE} {own : List Nat} {el tg' iter : Expr} {cs : List Expr} {scope : Scope} (h : XOk T G cf k CXT W L X) (hi : L.N[i]? = some y) (sw : swC y py vpos scope L.sc = true)
    (c : chk T (.comp elt pt it ifs own) .F L (.ListComp el [⟨tg', iter, cs, 0⟩] scope vpos) = true) (hie : ∀ t H Q, rdE G W cf ie t H Q → rdF G W cf (.comp elt pt it ifs own) t H Q) :
    PS X (.Assign [.Name y py] (.ListComp el [⟨tg', iter, cs, 0⟩] scope vpos) spos) (rdS G W M cf (.asg (.nm i) ie)) := by
  have O := comp_ok (good T G cf k CXT it) (goodC T G cf k CXT ifs) (good T G cf k CXT elt) h c
  have hy : X.env.scope.names.lookup y = some .local := by
    rw [h.sc]
    simp only [swC, Bool.and_eq_true, beq_iff_eq] at sw
    exact sw.1.1
  have kd : X.env.scope.kind = .function := by rw [h.sc]; exact h.kind
  have hsw : swapsWith (.ListComp el [⟨tg', iter, cs, 0⟩] scope vpos) (some (.Name y py)) spos.line X.env = pure true := by
    have := swC_ok (elt := el) (gs := [⟨tg', iter, cs, 0⟩]) (scope := scope) (pos := vpos) (py := py) (y := y) (l := spos.line) kd
    rw [h.sc, sw] at this
    exact this
  refine S_asg (ps_setLc h.calm (by rw [h.N]; exact h.nd) (h.at_ hi) hy hsw O.hi O.ok O.hg O.ht O.he O.hs) (fun t H Q q => ?_) fun v t H Q q => rdG_nm q
  have := hie t H Q q
  rw [← O.o] at this
  exact comp_rd h.gk O.sl t H Q this
theorem S_asgG (h : XOk T G cf k CXT W L X) (he : PE X v (rdE G W cf ie)) (hg : PG X tg (rdG G W cf t)) (hs : swapsWithSole [tg] v pos.line X.env = pure false) (hw : swappedStores [tg] v X.env = pure none) (hn : noStar tg = true) : PS X (.Assign [tg] v pos) (rdS G W M cf (.asg t ie)) :=
  S_asg (ps_asg he hg hs hw (asg_one hn)) (fun _ _ _ q => q) fun _ _ _ _ q => q
theorem asg_ok (h : XOk T G cf k CXT W L X) (c : chkAsg T L t ie tg v = true) : PS X (.Assign [tg] v pos) (rdS G W M cf (.asg t ie)) := by
  have kd : X.env.scope.kind = .function := by rw [h.sc]; exact h.kind
  unfold chkAsg at c
  split at c
  · rename_i el gs scope vpos
    split at c
    · rename_i y py
      split at c
      · rename_i sw
        split at c
        · simp only [Bool.and_eq_true, decide_eq_true_eq] at c
          exact S_comp h c.1 sw c.2 fun t H Q q => rdE_F q
        · simp only [Bool.and_eq_true, decide_eq_true_eq] at c
          exact S_comp h c.1 sw c.2 fun t H Q q => rdN_F q
        · cases c
      · rename_i sw
        simp only [Bool.and_eq_true] at c
        have := swC_ok (elt := el) (gs := gs) (scope := scope) (pos := vpos) (py := py) (y := y) (l := pos.line) kd
        rw [h.sc, Bool.not_eq_true _ |>.mp sw] at this
        exact S_asgG h (good T G cf k CXT ie .E L _ X W h c.1) (chkG_ok h c.2) this (st_none (.inl rfl)) rfl
    · simp only [Bool.and_eq_true] at c
      obtain ⟨⟨⟨c1, c2⟩, c3⟩, c4⟩ := c
      exact S_asgG h (good T G cf k CXT ie .E L _ X W h c3) (chkG_ok h c4) (sw_noname c1) (st_none (.inr rfl)) c2
  · simp only [Bool.and_eq_true, Bool.or_eq_true] at c
    obtain ⟨⟨⟨⟨c1, c2⟩, c3⟩, c4⟩, c5⟩ := c
    refine S_asgG h (good T G cf k CXT ie .E L _ X W h c3) (chkG_ok h c4) (sw_sole c1) ?_ c2
    rcases c5 with c5 | c5
    · exact st_none c5
    · split at c5
      · rw [decide_eq_true_eq, ← h.sc] at c5
        exact swS_ok kd c5
      · cases c5
theorem parT_ok {txs vs : List Expr} {k1 k2 : Nat} {q1 q2 : Pos} (h : XOk T G cf k CXT W L X) (c : (decide (swS txs vs L.sc = some none) && noStars txs && exOks ts && decide (is.length ≤ 1000) && chkGs T L ts txs && chkL T is L vs) = true) : PS X (.Assign [.Tuple txs k1 q1] (.Tuple vs k2 q2) pos) (rdS G W M cf (.par ts is)) := by
  have kd : X.env.scope.kind = .function := by rw [h.sc]; exact h.kind
  simp only [Bool.and_eq_true, decide_eq_true_eq] at c
  obtain ⟨⟨⟨⟨⟨c1, c2⟩, c3⟩, c4⟩, c5⟩, c6⟩ := c
  obtain ⟨h1, h2⟩ := chkGs_ok h c5 c2
  rw [← h.sc] at c1
  exact S_parT h.gk h.wi h.calm (goodL T G cf k CXT _ _ _ _ _ h c6).1 h1 h2 (Nat.le_of_lt (small1000 c4)) asg_len (asg_idx c2) (fun xs s S c fs S' => ass_nox c3 _ _ _ _ _ _) (swS_ok kd c1)
theorem par_ok {txs vs : List Expr} {k1 k2 : Nat} {q1 q2 : Pos} (h : XOk T G cf k CXT W L X) (c : chkPar T L ts is txs vs = true) : PS X (.Assign [.Tuple txs k1 q1] (.Tuple vs k2 q2) pos) (rdS G W M cf (.par ts is)) := by
  have kd : X.env.scope.kind = .function := by rw [h.sc]; exact h.kind
  have nd : X.N.Nodup := by rw [h.N]; exact h.nd
  unfold chkPar at c
  split at c
  · simp only [Bool.and_eq_true, decide_eq_true_eq] at c
    obtain ⟨⟨⟨⟨⟨⟨c1, c2⟩, c3⟩, c4⟩, c5⟩, c6⟩, c7⟩ := c
    rw [← h.sc] at c7
    exact S_par h.calm nd (h.at_ c1) (h.at_ c2) c3 (loc_is h c4) (loc_is h c5) (goodL T G cf k CXT _ _ _ _ _ h c6).1 (swS_ok kd c7)
  · simp only [Bool.and_eq_true, decide_eq_true_eq] at c
    obtain ⟨⟨⟨⟨⟨⟨⟨⟨⟨⟨c1, c2⟩, c3⟩, c4⟩, c5⟩, c6⟩, c7⟩, c8⟩, c9⟩, c10⟩, c11⟩ := c
    rw [← h.sc] at c11
    exact S_par3 h.calm nd (h.at_ c1) (h.at_ c2) (h.at_ c3) c4 c5 c6 (loc_is h c7) (loc_is h c8) (loc_is h c9) (goodL T G cf k CXT _ _ _ _ _ h c10).1 (swS_ok kd c11)
  · cases c
variable (T G cf k CXT M) in
noncomputable abbrev GoodS (i : IS) : Prop := ∀ (L : LC) (st : Stmt) (X : Cx) (W : WX), XOk T G cf k CXT W L X → PassesOwn (model X.prog X.w) X.A X.env X.xe → chkS T i L st = true → PS X st (rdS G W M cf i)
variable (T G cf k CXT M) in
noncomputable abbrev GoodSs (i : List IS) : Prop := ∀ (L : LC) (st : List Stmt) (X : Cx) (W : WX), XOk T G cf k CXT W L X → PassesOwn (model X.prog X.w) X.A X.env X.xe → chkSs T i L st = true → PSs X st (rdSs G W M cf i)
theorem s_nop : GoodS T G cf k CXT M .nop := by
  intro L st X W h own c
  simp only [chkS] at c
  split at c
  · exact S_pass
  · exact S_doc
  · cases c
theorem s_dpt {i : Nat} {ia ib : IE} : GoodS T G cf k CXT M (.dpt i ia ib) := by
  intro L st X W h own c
  simp only [chkS] at c
  split at c
  · simp only [Bool.and_eq_true, decide_eq_true_eq] at c
    obtain ⟨⟨⟨⟨⟨c2, c3⟩, c4⟩, c5⟩, c6⟩, c7⟩ := c
    have hr := h.units
    refine S_dpt (by omega) (h.at_ c2) (h.vis c3) (nm_ok c4).1 (nm_ok c4).2 (good T G cf k CXT ia .E L _ X W h c6) (good T G cf k CXT ib .E L _ X W h c7) (sw_sub c5)
  · cases c
theorem s_npt {i : Nat} {ia ib : IE} : GoodS T G cf k CXT M (.npt i ia ib) := by
  intro L st X W h own c
  simp only [chkS] at c
  split at c
  · simp only [Bool.and_eq_true, decide_eq_true_eq] at c
    obtain ⟨⟨⟨⟨⟨c2, c3⟩, c4⟩, c5⟩, c6⟩, c7⟩ := c
    have hr := h.units
    exact S_npt h.gw (by omega) (h.at_ c2) (h.vis c3) (nm_ok c4).1 (nm_ok c4).2 (good T G cf k CXT ia .E L _ X W h c6) (good T G cf k CXT ib .E L _ X W h c7) (sw_sub c5)
  · cases c
theorem s_nup {i j : Nat} : GoodS T G cf k CXT M (.nup i j) := by
  intro L st X W h own c
  simp only [chkS] at c
  split at c
  · simp only [Bool.and_eq_true, decide_eq_true_eq] at c
    obtain ⟨⟨⟨⟨⟨⟨⟨rfl, c2⟩, c3⟩, c4⟩, c5⟩, c6⟩, c7⟩, c8⟩ := c
    have hr := h.units
    exact S_nup h.gw (by omega) (h.at_ c2) (h.vis c3) (nm_ok c4).1 (nm_ok c4).2 (h.at_ c5) (h.vis c6) (nm_ok c7).1 (nm_ok c7).2 ⟨rfl, rfl, c8, rfl⟩ rfl
  · cases c
theorem s_nuc {i j kt : Nat} : GoodS T G cf k CXT M (.nuc i j kt) := by
  intro L st X W h own c
  simp only [chkS] at c
  split at c
  · simp only [Bool.and_eq_true, decide_eq_true_eq] at c
    obtain ⟨⟨⟨⟨⟨⟨⟨⟨⟨⟨⟨⟨⟨⟨rfl, c2⟩, c3⟩, c4⟩, c5⟩, c6⟩, c7⟩, c8⟩, rfl⟩, rfl⟩, c11⟩, c12⟩, c13⟩, c14⟩, c15⟩ := c
    have hr := h.units
    have B := blkOk_by c12
    have B' := B
    rw [← h.N, ← h.sc] at B'
    refine S_nuc h.calm (by rw [h.N]; exact h.nd) h.gw (by omega) (h.at_ c2) (h.vis c3) (nm_ok c4).1 (nm_ok c4).2 (h.at_ c5) (h.vis c6) (nm_ok c7).1 (nm_ok c7).2 B' (fun s H C cl fp => ?_) (fun s H C cl fp => ?_) ⟨rfl, rfl, c8, rfl⟩ rfl
    · have hb := h.inn B.kind s H C cl fp
      obtain ⟨h1, h2⟩ := hb.loc c13
      exact pg_name (by rw [hb.N]; exact hb.nd) (hb.at_ c11) h1 h2
    · have hb := h.inn B.kind s H C cl fp
      exact pe_var (hb.at_ c11) (hb.vis c14) (nm_ok c15).1 (nm_ok c15).2
  · cases c
theorem s_app {i : Nat} : GoodS T G cf k CXT M (.app i ie) := by
  intro L st X W h own c
  simp only [chkS] at c
  split at c
  · simp only [Bool.and_eq_true, decide_eq_true_eq] at c
    obtain ⟨⟨⟨⟨⟨⟨rfl, c2⟩, c3⟩, c4⟩, c5⟩, c6⟩, c7⟩ := c
    refine S_app h.gk (h.at_ c2) (h.vis c3) (nm_ok c4).1 (nm_ok c4).2 (good T G cf k CXT ie .E L _ X W h c7) (star_cons c6) (fun {te} hv => ?_) rfl
    refine pe_bm PySem.F.plainAttrs_list PySem.F.slot_list_append PySem.F.type_list_append mt_append (pe_var (h.at_ c2) (h.vis c3) (nm_ok c4).1 (nm_ok c4).2) (pa_cons hv pa_nil (star_cons c6)) rfl ?_ c5 (star_cons c6) rfl
    rw [star_cons c6]
    rfl
  · cases c
theorem s_ext {i : Nat} : GoodS T G cf k CXT M (.ext i ie) := by
  intro L st X W h own c
  simp only [chkS] at c
  split at c
  · simp only [Bool.and_eq_true, decide_eq_true_eq] at c
    obtain ⟨⟨⟨⟨⟨⟨rfl, c2⟩, c3⟩, c4⟩, c5⟩, c6⟩, c7⟩ := c
    refine S_ext h.gk (h.at_ c2) (h.vis c3) (nm_ok c4).1 (nm_ok c4).2 (good T G cf k CXT ie .E L _ X W h c7) (star_cons c6) (fun {te} hv => ?_) rfl
    refine pe_bm PySem.F.plainAttrs_list PySem.F.slot_list_extend PySem.F.type_list_extend mt_extend (pe_var (h.at_ c2) (h.vis c3) (nm_ok c4).1 (nm_ok c4).2) (pa_cons hv pa_nil (star_cons c6)) rfl ?_ c5 (star_cons c6) rfl
    rw [star_cons c6]
    rfl
  · cases c
variable (T G cf k CXT M)
mutual
theorem goodS : ∀ i : IS, GoodS T G cf k CXT M i
  | .bad => fun L st X W h own c => S_bad
  | .nop => s_nop
  | .asg t e => fun L st X W h own c => by
    simp only [chkS] at c
    split at c
    · exact asg_ok h c
    · cases c
  | .par ts es => fun L st X W h own c => by
    simp only [chkS] at c
    split at c
    · rw [Bool.or_eq_true] at c
      rcases c with c | c
      · exact par_ok h c
      · exact parT_ok h c
    · cases c
  | .exp e => fun L st X W h own c => by
    simp only [chkS] at c
    split at c
    · simp only [Bool.and_eq_true] at c
      exact S_exp (good T G cf k CXT e .E L _ X W h c.2) (sw_none c.1)
    · cases c
  | .app i e => s_app
  | .dpt i a b => s_dpt
  | .npt i a b => s_npt
  | .nup i j => s_nup
  | .nuc i j k => s_nuc
  | .ext i e => s_ext
  | .ite c a b => fun L st X W h own c' => by
    simp only [chkS] at c'
    split at c'
    · simp only [Bool.and_eq_true] at c'
      exact S_ite (good T G cf k CXT c .T L _ X W h c'.1.1) (goodSs a L _ X W h own c'.1.2) (goodSs b L _ X W h own c'.2)
    · cases c'
  | .for_ pt it body => fun L st X W h own c => by
    simp only [chkS] at c
    split at c
    · simp only [Bool.and_eq_true] at c
      obtain ⟨⟨⟨c1, c2⟩, c3⟩, c4⟩ := c
      exact S_for h.gk h.wi own h.calm (good T G cf k CXT it _ L _ X W h c1 _ rfl) (chkP_ok h c3) (goodSs body L _ X W h own c4) (set_iter c2)
    · cases c
  | .whl c body => fun L st X W h own c' => by
    simp only [chkS] at c'
    split at c'
    · simp only [Bool.and_eq_true] at c'
      exact S_whl h.wi own (good T G cf k CXT c .T L _ X W h c'.1) (goodSs body L _ X W h own c'.2)
    · cases c'
  | .ret e => fun L st X W h own c => by
    simp only [chkS] at c
    split at c
    · exact S_ret (good T G cf k CXT e .E L _ X W h c)
    · cases c
  | .rtn => fun L st X W h own c => by
    simp only [chkS] at c
    split at c
    · exact S_rtn
    · cases c
  | .rse c es => fun L st X W h own c' => by
    simp only [chkS] at c'
    split at c'
    · simp only [Bool.and_eq_true, decide_eq_true_eq, List.isEmpty_iff] at c'
      obtain ⟨⟨⟨⟨⟨c1, c2⟩, rfl⟩, rfl⟩, c5⟩, c6⟩ := c'
      obtain ⟨ecl, R, hx⟩ := h.env.rf c1
      obtain ⟨bmB, B, newId, initId, q1, q2⟩ := R.own c c2
      have l14 : c < 14 := by omega
      refine PSmon (ps_raise h.calm h.take (pmk_own q1 q2 (R.nm c l14) (R.kp c l14) (raises_own (R.ra c l14).1 (R.ra c l14).2) (h.gl c5) (nm_ok c6).1)) ?_
      rintro D t H ⟨F, loc, s, S, hS, hE, p⟩
      simp only [evS, evL, Out.bind_ok, dats] at p
      exact p _ none F loc H (.refl hS) ((hx c [] _ none H).mpr ⟨rfl, c2, rfl, rfl⟩)
    · cases c'
  | .tri b cs i hh => fun L st X W h own c' => by
    simp only [chkS] at c'
    cases c'
theorem goodSs : ∀ i : List IS, GoodSs T G cf k CXT M i
  | [] => fun L st X W h own c => by
    simp only [chkSs] at c
    split at c
    · exact Ss_nil
    · cases c
  | i :: is => fun L st X W h own c => by
    simp only [chkSs] at c
    split at c
    · simp only [Bool.and_eq_true] at c
      exact Ss_cons h.wi (goodS i L _ X W h own c.1) (goodSs is L _ X W h own c.2)
    · cases c
end
end
end IP
namespace IP
open PySem PySem.Spec PyProof.Rows L2

/-! ### a def is left -/
section
variable {G : GC} {F F' : Addr → Prop} {loc loc' : Nat → Addr} {S S' : Store} {H H' : Hp} {n : Nat}
theorem RV.shrink {v : Val} {w : V} (hn : n ≤ S.length) (b : below n v = true) (r : RV G F loc S H v w) : RV G F loc (S.take n) H v w := by
  cases v with
  | dat p => exact r
  | exn c fs => exact r
  | ref l =>
    simp only [below, decide_eq_true_eq] at b
    exact ⟨r.1, by rw [List.length_take]; omega⟩
theorem RFs.shrink (hn : n ≤ S.length) : ∀ {fs : List (Nat × Val)} {ws : List (Str × V)}, (fs.all fun p => IP.below n p.2) = true → RFs G F loc S H fs ws → RFs G F loc (S.take n) H fs ws
  | _, _, _, .nil => .nil
  | _, _, b, .cons r l => by
    simp only [List.all_cons, Bool.and_eq_true] at b
    exact .cons (r.shrink hn b.1) (RFs.shrink hn b.2 l)
theorem RO.shrink {a : Addr} {o : Ob} (hn : n ≤ S.length) (b : o.below n = true) (r : RO G F loc S H a o) : RO G F loc (S.take n) H a o := by
  cases o with
  | lst ps => exact r
  | dic ps => exact r
  | frz ps => exact r
  | nd ps => exact r
  | ndl ps => exact r
  | dead => exact r
  | ins c fs =>
    obtain ⟨ok, dx, ws, e, l⟩ := r
    exact ⟨ok, dx, ws, e, RFs.shrink hn b l⟩
theorem take_at {S : Store} {l : Nat} {o : Ob} (e : (S.take n)[l]? = some o) : S[l]? = some o ∧ l < n := by
  rw [List.getElem?_take] at e
  split at e
  · exact ⟨e, by assumption⟩
  · cases e
theorem SimS.take (h : SimS G F loc S H) (hn : n ≤ S.length) (b : (S.take n).all (·.below n) = true) : SimS G F loc (S.take n) H := by
  refine ⟨h.dom, fun l o e => ?_, fun l l' o o' e e' => h.inj l l' o o' (take_at e).1 (take_at e').1, fun l o e => h.sep l o (take_at e).1, h.ntb, h.tabs⟩
  have := List.all_eq_true.mp b o (List.mem_of_getElem? e)
  exact (h.ob l o (take_at e).1).shrink hn this
theorem Nxt.take (m : Nxt G F loc S H F' loc' S' H') (b : (S'.take S.length).all (·.below S.length) = true) : Nxt G F loc S H F' loc' (S'.take S.length) H' := by
  refine ⟨m.sub, m.keep, m.kp, m.dom, m.fin, m.loc, ?_, fun l u e al => m.neu l u (take_at e).1 al, m.sim.take m.len b⟩
  rw [List.length_take]
  have := m.len
  omega
theorem leave_post {W : WX} {t : L2.St} {v : Val} {Q : V → Hp → Prop} (p : PostV G W t F loc S H (leave S.length v S') Q) {w : V} (m : Nxt G F loc S H F' loc' S' H') (r : RV G F' loc' S' H' v w) : Q w H' := by
  unfold leave at p
  split at p
  · exact p w F' loc' H' m r
  · split at p
    · rename_i h
      exact p w F' loc' H' (m.take h.2) (r.shrink m.len h.1)
    · exact p w F' loc' H' m r
end
noncomputable def lamN (q : Str) : Str := (q ++ (".<locals>." : Str)) ++ ("<lambda>" : Str)
theorem nodup_map {A B : Type} {f : A → B} : ∀ {l : List A}, (l.map f).Nodup → ∀ {x y : A}, x ∈ l → y ∈ l → f x = f y → x = y
  | [], _, _, _, hx, _, _ => nomatch hx
  | a :: l, h, x, y, hx, hy, e => by
    rw [List.map_cons, List.nodup_cons] at h
    rcases List.mem_cons.mp hx with rfl | hx'
    · rcases List.mem_cons.mp hy with rfl | hy'
      · rfl
      · exact absurd (e ▸ List.mem_map_of_mem hy') h.1
    · rcases List.mem_cons.mp hy with rfl | hy'
      · exact absurd (e.symm ▸ List.mem_map_of_mem hx') h.1
      · exact nodup_map h.2 hx' hy' e
/-! ### a def of the table -/
noncomputable def defChk (T : Tab) (t : FnT) (N : List Str) (sc : Scope) (body : List Stmt) (d : FD) : Bool :=
  decide (d.n = t.n) && decide (t.ps.length = t.n) && decide (d.m = N.length) && decide N.Nodup && decide (sc.kind = .function) && !sc.isCoroutine && !sc.isGenerator && decide (N.take t.ps.length = t.ps) &&
    (t.ps.all fun x => decide (sc.names.lookup x = some .local) || decide (sc.names.lookup x = some .cell)) && (sc.names.all fun y => decide (y.2 ≠ .free)) && chkSs T d.body ⟨N, sc, none, t.lm⟩ body
structure DefOk (T : Tab) (PP : List (Option FD)) (K : PySem.W.Frag) (ms : List (Addr × Addr × Str)) (f : Nat) (t : FnT) (fa : Addr) (fd : FuncData) : Prop where
  ex : ∃ (N : List Str) (sc : Scope) (body : List Stmt) (d : FD) (name qual : Str) (pa : Arguments) (dV kV doc pm cdv ct oc : Value) (an od : Option Addr) (osl : Array (Option Value)),
    fd = PySem.W.fnOf name qual pa body sc dV kV doc pm an cdv ct ∧ K.lookup fa = some ⟨oc, od, .func fd, osl⟩ ∧ PySem.W.codeIn K cdv qual = true ∧ PP[f]? = some (some d) ∧ defChk T t N sc body d = true ∧ (t.lm = true → ∃ c P, cdv = .ref c ∧ (c, P, qual) ∈ ms)
/-- what the top has left, by the table -/
structure TabF (T : Tab) (G : GC) (PP : List (Option FD)) (K : PySem.W.Frag) (ms : List (Addr × Addr × Str)) (mg : Str → Option Value) : Prop where
  gk : G.K = K
  tb : G.tb = ms.map fun x => (x.2.1, lamN x.2.2)
  nd : (ms.map (·.2.1)).Nodup
  rf : T.rf = true → ∃ ecl, Refus K mg ecl ∧ ∀ c fs cv d H, G.exr c fs cv d H ↔ (fs = [] ∧ c < 13 ∧ cv = .ref (ecl c) ∧ d = none)
  said : T.said = true → SaidHave K mg ∧ KindHave K mg
  fn : ∀ f t, T.fn f = some t → ∃ fa fd, DefOk T PP K ms f t fa fd ∧ (∀ ds, ds = [] ∨ ds = t.ds → ∃ us, Vals (dflV ds) us ∧ Binds K fd t.ps us) ∧ (∀ q, q ∈ t.kws → KB K fd t.ps q.np q.ks q.perm) ∧
    (t.cl = none → mg t.nm = some (.ref fa) ∧ PySem.W.keepIn K (.ref fa) = true) ∧ (∀ c, t.cl = some c → (t.nm ≠ "__init__" → Meth K (G.cls c) t.nm fa) ∧ (t.nm = "__init__" → Mk K (G.cls c) fa))
  cl : ∀ (c : Nat) x, T.cls[c]? = some x → G.cok c ∧ mg x = some (.ref (G.cls c))
  cok : ∀ c, G.cok c → Cls K (G.cls c)
  clm : ∀ f t c, T.fn f = some t → t.cl = some c → G.cok c
  fi : ∀ f g, G.fnm f = G.fnm g → f = g
  fl : ∀ (f : Nat) x, T.flds[f]? = some x → x = G.fnm f ∧ ∀ c, G.cok c → NoAttr K (G.cls c) x
  fm : ∀ f i t c, T.fn i = some t → t.cl = some c → G.fnm f ≠ t.nm
  blt : ∀ x, T.blt.contains x = true → mg x = none
  gcs : ∀ (g : Nat) x d, T.gcs[g]? = some (x, d) → ∃ v u, mg x = some u ∧ RelV v u ∧ ∀ F H, Rp G.K F H v d
section
variable {T : Tab} {G : GC} {PP : List (Option FD)} {M : Option Nat} {P : Program} {w : World} {K : PySem.W.Frag} {ms : List (Addr × Addr × Str)} {mg : Str → Option Value} {base : Heap}
theorem spC_n {n : Nat} {g : List Val → Store → Out Val} : ∀ vs H Q E, spC G n g vs H Q E → vs.length = n := fun vs H Q E ⟨F, loc, S, args, _, r, e, _⟩ => by rw [r.length, e]
theorem fn_zero {f : Nat} {t : FnT} {fa : Addr} {fd : FuncData} (D : DefOk T PP K ms f t fa fd) : FnG P w K mg base (L2.CX P w) 0 fa fd t.n t.ps (spC G t.n (callN PP M 0 f)) := by
  obtain ⟨N, sc, body, d, name, qual, pa, dV, kV, doc, pm, cdv, ct, oc, an, od, osl, rfl, lk, hc, hd, ok, _⟩ := D.ex
  simp only [defChk, Bool.and_eq_true, decide_eq_true_eq] at ok
  refine ⟨ok.1.1.1.1.1.1.1.1.1.2, spC_n, fun A outer s H ar us vs Q E hu hr e0 hb r wish => ?_⟩
  obtain ⟨F, loc, S, args, hS, rv, ln, p⟩ := wish
  exact p.elim
theorem fn_step {k : Nat} (ih : EnvF T G (callN PP M k) (4 * k) (L2.CX P w) P w K mg base) (tb : G.tb = ms.map fun x => (x.2.1, lamN x.2.2)) (nd : (ms.map (·.2.1)).Nodup) (hT : ∀ x ∈ ms, LamX.TabB base mg x.1 x.2.1) {f : Nat} {t : FnT} {fa : Addr} {fd : FuncData} (D : DefOk T PP K ms f t fa fd) : FnG P w K mg base (L2.CX P w) (4 * (k + 1)) fa fd t.n t.ps (spC G t.n (callN PP M (k + 1) f)) := by
  obtain ⟨N, sc, body, d, name, qual, pa, dV, kV, doc, pm, cdv, ct, oc, an, od, osl, rfl, lk, hc, hd, ok, hlm⟩ := D.ex
  simp only [defChk, Bool.and_eq_true, decide_eq_true_eq, Bool.not_eq_true', List.all_eq_true, Bool.or_eq_true] at ok
  obtain ⟨⟨⟨⟨⟨⟨⟨⟨⟨⟨h1, h2⟩, h3⟩, h4⟩, h5⟩, h6⟩, h7⟩, h8⟩, h9⟩, h10⟩, h11⟩ := ok
  have SC : FnScope N t.ps sc := ⟨h5, h6, h7, h4, h8, h9, fun y hy => h10 y hy⟩
  refine FnG.of (k := 4 * k + 3) lk hc SC h2 spC_n fun A outer s H vs Q E hu hr wish => ?_
  obtain ⟨F, loc, S, args, hS, rv, ln, p⟩ := wish
  have hpl : t.n ≤ N.length := by
    have := congrArg List.length h8
    rw [List.length_take, h2] at this
    omega
  refine ⟨rdSs G (fun cv d _ H' => E cv d H') M (callN PP M k) d.body, ?_, ?_⟩
  · refine goodSs T G (callN PP M k) (4 * k) (L2.CX P w) M d.body ⟨N, sc, none, t.lm⟩ body _ _ ?_ (L2.passes_of rfl) h11
    have tk : L2.Takes (cxOf (L2.CX P w) P w K mg base N qual sc fa cdv A outer s H E) (fun cv d _ H' => E cv d H') := L2.takes_of rfl rfl rfl rfl
    have lamAt : t.lm = true → ∃ c P', cdv = .ref c ∧ LamX.TabB base mg c P' ∧ (P', lamN qual) ∈ G.tb ∧ ∀ q ∈ G.tb, q.1 = P' → q.2 = lamN qual := fun z => by
      obtain ⟨c, P', e1, e2⟩ := hlm z
      refine ⟨c, P', e1, hT _ e2, ?_, fun q hq e => ?_⟩
      · rw [tb]
        exact List.mem_map.mpr ⟨_, e2, rfl⟩
      · rw [tb] at hq
        obtain ⟨y, hy, rfl⟩ := List.mem_map.mp hq
        have : y = (c, P', qual) := nodup_map nd hy e2 e
        rw [this]
    exact { env := ih, N := rfl, nd := h4, sc := rfl, kind := h5, room := hr.mono (by omega), hush := hu, calm := rfl, fn := fun _ _ => rfl, pass := L2.passes_call tk fun cls d σ H h => h, take := tk, wi := fun _ _ _ _ _ h => h, lam := fun z => ⟨hr, lamAt z⟩ }
  · have lv : vs.length = t.n := by rw [rv.length, ln]
    refine ⟨F, loc, args.map some ++ List.replicate (d.m - d.n) none, S, hS, ⟨?_, fun i v e => ?_⟩, ?_⟩
    · unfold L2.start
      rw [List.length_append, List.length_append, List.length_map, List.length_map, List.length_replicate, List.length_replicate, ln, lv, h1, h3]
    · by_cases hi : i < args.length
      · rw [List.getElem?_append_left (by rw [List.length_map]; exact hi), List.getElem?_map] at e
        cases q : args[i]? with
        | none => rw [q] at e; cases e
        | some x =>
          rw [q] at e
          cases e
          obtain ⟨u, q1, q2⟩ := rv.getI q
          refine ⟨u, ?_, q2⟩
          unfold L2.start
          rw [List.getElem?_append_left (by rw [List.length_map, rv.length]; exact hi), List.getElem?_map, q1]
          rfl
      · rw [List.getElem?_append_right (by rw [List.length_map]; omega), List.getElem?_replicate] at e
        split at e <;> cases e
    · simp only [callN, hd, ln, h1, if_true] at p
      rw [h1]
      cases q : evSs M (callN PP M k) d.body (args.map some ++ List.replicate (d.m - t.n) none) S with
      | err => rw [q] at p; exact p.elim
      | exc c fs S' => rw [q] at p; exact fun cv dd F' loc' H' m e => p cv dd F' loc' H' m e
      | ok r S' =>
        rw [q] at p
        cases r with
        | nx s' => exact fun t' F' loc' H' m e => leave_post p m (show Rp _ _ _ _ _ from .non)
        | rt v => exact fun w' F' loc' H' m e => leave_post p m e
theorem env_of (hw : G.w = w) (hs : Sys base) (hT : ∀ x ∈ ms, LamX.TabB base mg x.1 x.2.1) (D : TabF T G PP K ms mg) : ∀ k, EnvF T G (callN PP M k) (4 * k) (L2.CX P w) P w K mg base := by
  have mk : ∀ k, (∀ f t fa fd, DefOk T PP K ms f t fa fd → FnG P w K mg base (L2.CX P w) (4 * k) fa fd t.n t.ps (spC G t.n (callN PP M k f))) → EnvF T G (callN PP M k) (4 * k) (L2.CX P w) P w K mg base := fun k h =>
    { gk := D.gk, gw := hw, fn := fun f t e => let ⟨fa, fd, d, r⟩ := D.fn f t e; ⟨fa, fd, h f t fa fd d, r⟩, cl := D.cl, cok := D.cok, clm := D.clm, fi := D.fi, fl := D.fl, fm := D.fm, blt := D.blt, gcs := D.gcs, sys := hs,
      p0 := fun X e1 e2 => by subst e1 e2; exact passL, pc := fun X e1 e2 W wi tk => by subst e1 e2; exact L2.passes_call tk fun cls d σ H h => wi cls d [] σ H h, rf := D.rf, said := D.said }
  intro k
  induction k with
  | zero => exact mk 0 fun f t fa fd d => fn_zero d
  | succ k ih => exact mk (k + 1) fun f t fa fd d => fn_step ih D.tb D.nd hT d
/-- every def of the table, at any level -/
theorem fn_all (hw : G.w = w) (hs : Sys base) (hT : ∀ x ∈ ms, LamX.TabB base mg x.1 x.2.1) (D : TabF T G PP K ms mg) (k : Nat) {f : Nat} {t : FnT} {fa : Addr} {fd : FuncData} (d : DefOk T PP K ms f t fa fd) : FnG P w K mg base (L2.CX P w) (4 * k) fa fd t.n t.ps (spC G t.n (callN PP M k f)) := by
  cases k with
  | zero => exact fn_zero d
  | succ k => exact fn_step (env_of hw hs hT D k) D.tb D.nd hT d
end
end IP
namespace IP
open PySem PySem.Spec PyProof.Rows L2

/-! ### the law's call -/
/-! with tables of code objects -/
noncomputable def scrT (ms : List (Addr × Addr × Str)) (a : Addr) (vs : List Value) (ns : List Int) : Hp := fun b => if b = a then some (.frz { cls := .type "list", data := .seq vs.toArray } (.lst (ns.map V.int))) else if b ∈ ms.map (·.2.1) then some (.tbl #[]) else none
theorem law_goT {P : Program} {w : World} {K : PySem.W.Frag} {mg mb : Str → Option Value} {k : Nat} {fa a : Addr} {fd : FuncData} {x : Str} {sp : Sp} {s : Shared} {vs : List Value} {ns : List Int} {ms : List (Addr × Addr × Str)}
    (KX : K.In s.heap) (hns : s.heap.Ns mainGlobals mg) (hb : s.heap.Ns builtinsNs mb) (hbb : ∀ x : Str, x ≠ "__name__" → mb x = bootBuiltins x) (free : s.heap.NoLimit) (seer : s.heap.NoSeer) (hg : s.gens = #[])
    (ha : s.heap.get? a = some { cls := .type "list", data := .seq vs.toArray }) (hi : IntsAre vs ns) (hl : ns.length ≤ sizeLine) (hr : Room k callerA) (na : K.lookup a = none)
    (hts : ∀ y ∈ ms, s.heap.get? y.2.1 = some { cls := .none, data := .fields #[] }) (nk : ∀ y ∈ ms, K.lookup y.2.1 = none) (ch : ∀ y ∈ ms, PySem.W.CodeHd s.heap y.1 y.2.1)
    (hbm : ∃ (bm : Addr) (ob : Obj), mg "__builtins__" = some (.ref bm) ∧ bm ≠ builtinsNs ∧ s.heap.get? bm = some ob ∧ ob.cls = .type "module" ∧ ob.dict = some builtinsNs ∧ ob.data = .plain)
    (F : ∀ base : Heap, K.In base → base.Ns mainGlobals mg → Sys base → (∀ y ∈ ms, LamX.TabB base mg y.1 y.2.1) → FnG P w K mg base (L2.CX P w) k fa fd 1 [x] sp) (hbind : ∀ (s : Shared) (u : Value), K.In s.heap → BindsTo s fd ⟨[u], []⟩ [(x, u)])
    (wish : sp [.ref a] (scrT ms a vs ns) (fun v _ => v = .bl true) fun _ _ _ => False) :
    codeAny (model P w) callerA (.call (.ref fa) ⟨[.ref a], []⟩) (fun r s' => r = .ok (.ret (.bool true)) ∧ OldK s.heap s'.heap ∧ s'.os = s.os ∧ AllBare s'.gens) s := by
  have rv := vals_ints hi
  have tabs : ∀ b, b ∈ ms.map (·.2.1) → s.heap.get? b = some { cls := .none, data := .fields #[] } := fun b hm => by
    obtain ⟨y, hy, rfl⟩ := List.mem_map.mp hm
    exact hts y hy
  have noTab : ∀ y ∈ ms, y.2.1 ≠ a := fun y hy z => by
    have e1 := hts y hy
    rw [z, ha] at e1
    exact nomatch (show Data.seq vs.toArray _ = Data.fields #[] from congrArg Obj.data (Option.some.inj e1))
  generalize hH : scrT ms a vs ns = H at wish
  have atA : H a = some (.frz { cls := .type "list", data := .seq vs.toArray } (.lst (ns.map V.int))) := by
    rw [← hH]
    exact if_pos rfl
  have atT : ∀ y ∈ ms, H y.2.1 = some (.tbl #[]) := fun y hy => by
    rw [← hH]
    exact (if_neg (noTab y hy)).trans (if_pos (List.mem_map.mpr ⟨y, hy, rfl⟩))
  have only : ∀ {b : Addr} {u : HO}, H b = some u → (b = a ∧ u = .frz { cls := .type "list", data := .seq vs.toArray } (.lst (ns.map V.int))) ∨ (b ∈ ms.map (·.2.1) ∧ u = .tbl #[]) := fun {b u} e => by
    rw [← hH] at e
    unfold scrT at e
    split at e
    · cases e
      exact .inl ⟨by assumption, rfl⟩
    · split at e
      · cases e
        exact .inr ⟨by assumption, rfl⟩
      · cases e
  have hok : HOk P w H s.heap := fun b u e => by
    rcases only e with ⟨rfl, rfl⟩ | ⟨hm, rfl⟩
    · exact ⟨ha, by rw [List.length_map]; exact hl, vs, _, rv, ha⟩
    · exact tabs b hm
  have free_of : ∀ {b : Addr} {o : Obj}, s.heap.get? b = some o → (∀ xs n, o.data ≠ .seq xs n) → o.data ≠ .fields #[] → H b = none := fun {b o} e n1 n2 => by
    cases q : H b with
    | none => rfl
    | some u =>
      rcases only q with ⟨rfl, _⟩ | ⟨hm, _⟩
      · rw [ha] at e
        cases e
        exact absurd rfl (n1 _ _)
      · rw [tabs b hm] at e
        cases e
        exact absurd rfl n2
  have space : ∀ {b : Addr} {m : Str → Option Value}, s.heap.Ns b m → (hidT s.heap H).Ns b m := fun ⟨o, es, ep, e, d, r⟩ => ⟨o, es, ep, hidT_get e (free_of e (fun xs n z => by rw [d] at z; cases z) fun z => by rw [d] at z; cases z), d, r⟩
  have inB : K.In (hidT s.heap H) := fun b o e => hidT_get (KX b o e) (by
    cases q : H b with
    | none => rfl
    | some u =>
      rcases only q with ⟨rfl, _⟩ | ⟨hm, _⟩
      · rw [na] at e
        cases e
      · obtain ⟨y, hy, rfl⟩ := List.mem_map.mp hm
        rw [nk y hy] at e
        cases e)
  have e0 : Env0 P w K mg (hidT s.heap H) callerA [] s H :=
    ⟨rfl, ⟨inB, space hns, ⟨mb, space hb, hbb⟩, let ⟨mc, h1, h2⟩ := free; ⟨mc, space h1, h2⟩⟩, fun b o e => of_hidT e, Nat.le_of_eq (hidT_size _ _), trivial, fun b hb => (by cases hb), hok, .of_eq hg⟩
  have TB : ∀ y ∈ ms, LamX.TabB (hidT s.heap H) mg y.1 y.2.1 := fun y hy => by
    obtain ⟨gn, ges, gp, g1, g2, _⟩ := hns
    refine ⟨?_, ?_, fun z => ?_⟩
    · obtain ⟨o, us, c1, c2, c3, c4, c5, c6, c7, e1, r1, r2, r3, rest⟩ := ch y hy
      refine ⟨o, us, c1, c2, c3, c4, c5, c6, c7, hidT_get e1 (free_of e1 (fun xs n z => by rw [r2] at z; cases z) fun z => ?_), r1, r2, r3, rest⟩
      rw [r2] at z
      cases z
      simp at r3
    · obtain ⟨bm, ob, b1, b2, b3, b4, b5, b6⟩ := hbm
      refine ⟨bm, ob, b1, b2, fun q => ?_, fun q => ?_, hidT_get b3 (free_of b3 (fun xs n z => by rw [b6] at z; cases z) fun z => by rw [b6] at z; cases z), b4, b5, b6⟩
      · rw [q, g1] at b3
        cases b3
        rw [g2] at b6
        cases b6
      · rw [q, hts y hy] at b3
        cases b3
        cases b6
    · rw [z, hts y hy] at g1
      cases g1
      cases g2
  refine codeAny_mono ((F _ inB (space hns) (let ⟨mm, h1, _⟩ := seer.mods; let ⟨o, _, _, e, _⟩ := space h1; ⟨o, e⟩) TB).go callerA [] s H ⟨[.ref a], []⟩ [.ref a] [.ref a] _ _ rfl hr e0 (hbind s (.ref a) KX) (.cons rfl .nil) wish) ?_
  rintro (e | fl) s' h
  · obtain ⟨_, _, _, _, _, _, _, _, _, _, _, _, z⟩ := h
    exact z.elim
  · cases fl with
    | next => exact h.elim
    | brk => exact h.elim
    | cont => exact h.elim
    | ret u =>
      obtain ⟨v, H', os, bare, un, hok', ru, rfl⟩ := h
      cases (show u = Value.bool true from ru)
      have same : ∀ b o, b ∉ ms.map (·.2.1) → s.heap.get? b = some o → s'.heap.get? b = some o := fun b o nm e => by
        cases q : H b with
        | none => exact un.keep b o e q (fun z => by cases z) (fun z => by cases z)
        | some u =>
          rcases only q with ⟨rfl, rfl⟩ | ⟨hm, _⟩
          · rw [ha] at e
            cases e
            exact (hok' b _ (un.frzs b _ _ q)).1
          · exact absurd hm nm
      have more : ∀ y ∈ ms, ∃ m : Array Value, s'.heap.get? y.2.1 = some { cls := .none, data := .fields m } := fun y hy => by
        obtain ⟨m, z⟩ := un.tbls y.2.1 #[] (atT y hy)
        exact ⟨_, hok' _ _ z⟩
      refine ⟨rfl, ⟨fun b o e => ?_, fun b o e => ?_⟩, os, bare⟩
      · by_cases hm : b ∈ ms.map (·.2.1)
        · obtain ⟨y, hy, rfl⟩ := List.mem_map.mp hm
          obtain ⟨m, hm'⟩ := more y hy
          rw [hts y hy] at e
          cases e
          exact .inr (.inl ⟨((ch y hy).tab (hts y hy)).isCodeTable, rfl, #[], m, rfl, by rw [Array.empty_append]; exact hm'⟩)
        · exact .inl (same b o hm e)
      · by_cases hm : b ∈ ms.map (·.2.1)
        · obtain ⟨y, hy, rfl⟩ := List.mem_map.mp hm
          obtain ⟨m, hm'⟩ := more y hy
          exact ⟨_, hm'⟩
        · exact ⟨o, same b o hm e⟩
end IP
namespace IP
open PySem PySem.Spec PyProof.Rows L2

/-! ### the table from the head's facts -/
noncomputable def Bd (K : PySem.W.Frag) (fd : FuncData) (t : FnT) : Prop := (∀ ds, ds = [] ∨ ds = t.ds → ∃ us, Vals (dflV ds) us ∧ Binds K fd t.ps us) ∧ ∀ q, q ∈ t.kws → KB K fd t.ps q.np q.ks q.perm
noncomputable def FnHave (T : Tab) (PP : List (Option FD)) (K : PySem.W.Frag) (ms : List (Addr × Addr × Str)) (mg : Str → Option Value) (f : Nat) (t : FnT) : Prop := ∃ fa fd, DefOk T PP K ms f t fa fd ∧ Bd K fd t ∧ mg t.nm = some (.ref fa) ∧ PySem.W.keepIn K (.ref fa) = true
noncomputable def MeHave (T : Tab) (PP : List (Option FD)) (K : PySem.W.Frag) (ms : List (Addr × Addr × Str)) (C : Addr) (f : Nat) (t : FnT) : Prop := ∃ fa fd, DefOk T PP K ms f t fa fd ∧ Bd K fd t ∧ (t.nm ≠ "__init__" → Meth K C t.nm fa) ∧ (t.nm = "__init__" → Mk K C fa)
noncomputable def AllF (Q : Nat → FnT → Prop) : Nat → List (Option FnT) → Prop
  | _, [] => True
  | i, none :: r => AllF Q (i + 1) r
  | i, some t :: r => Q i t ∧ AllF Q (i + 1) r
theorem AllF.get {Q : Nat → FnT → Prop} : ∀ {l : List (Option FnT)} {i j : Nat} {t : FnT}, AllF Q i l → l[j]? = some (some t) → Q (i + j) t
  | [], _, _, _, _, e => by simp at e
  | none :: r, i, 0, t, h, e => by simp at e
  | some u :: r, i, 0, t, h, e => by
    simp at e
    subst e
    exact h.1
  | none :: r, i, j + 1, t, h, e => by
    have := AllF.get (j := j) (t := t) (show AllF Q (i + 1) r from h) (by simpa using e)
    rwa [show i + (j + 1) = i + 1 + j by omega]
  | some u :: r, i, j + 1, t, h, e => by
    have := AllF.get (j := j) (t := t) h.2 (by simpa using e)
    rwa [show i + (j + 1) = i + 1 + j by omega]
theorem bd_none {K : PySem.W.Frag} {fd : FuncData} {t : FnT} (n : Nat) (hn : t.ps.length = n) (hd : t.ds = []) (h : ∀ us : List Value, us.length = n → bindArgs fd ⟨us, []⟩ = pure (t.ps.zip us)) (hk : ∀ q, q ∈ t.kws → KB K fd t.ps q.np q.ks q.perm) : Bd K fd t := by
  refine ⟨fun ds e => ?_, hk⟩
  have e : ds = [] := by rcases e with e | e <;> simp [e, hd]
  subst e
  exact ⟨[], .nil, .all fun us hl => h us (hl.trans hn)⟩
theorem kb_no {K : PySem.W.Frag} {fd : FuncData} {t : FnT} (h : t.kws = []) : ∀ q, q ∈ t.kws → KB K fd t.ps q.np q.ks q.perm := fun q z => by
  rw [h] at z
  cases z
theorem kb_one {K : PySem.W.Frag} {fd : FuncData} {t : FnT} {k : KwT} (h : t.kws = [k]) (z : KB K fd t.ps k.np k.ks k.perm) : ∀ q, q ∈ t.kws → KB K fd t.ps q.np q.ks q.perm := fun q m => by
  rw [h] at m
  cases List.mem_singleton.mp m
  exact z
section
variable {T : Tab} {PP : List (Option FD)} {K : PySem.W.Frag} {h : Heap} {mg : Str → Option Value} {f C : Addr} {st : Stmt} {oc dV kV dc pm cd ct : Value} {od an : Option Addr} {sl : Array (Option Value)} {qual nm : Str} {i : Nat} {t : FnT} {N : List Str} {d : FD} {ms : List (Addr × Addr × Str)}
theorem def_ok (l : K.lookup f = some ⟨oc, od, .func (PySem.W.fnOf nm qual (defArgs st) (defBody st) (defScope st) dV kV dc pm an cd ct), sl⟩) (c : PySem.W.codeIn K cd qual = true) (hd : PP[i]? = some (some d)) (ok : defChk T t N (defScope st) (defBody st) d = true) (lm : t.lm = true → ∃ c P, cd = .ref c ∧ (c, P, qual) ∈ ms) :
    DefOk T PP K ms i t f (PySem.W.fnOf nm qual (defArgs st) (defBody st) (defScope st) dV kV dc pm an cd ct) := ⟨⟨N, defScope st, defBody st, d, nm, qual, defArgs st, dV, kV, dc, pm, cd, ct, oc, an, od, sl, rfl, l, c, hd, ok, lm⟩⟩
theorem fn_have (X : K.In h) (G : h.Ns mainGlobals mg) (a : PySem.W.nsIn K mainGlobals nm = some (some (.ref f))) (l : K.lookup f = some ⟨oc, od, .func (PySem.W.fnOf nm qual (defArgs st) (defBody st) (defScope st) dV kV dc pm an cd ct), sl⟩) (c : PySem.W.codeIn K cd qual = true) (k : PySem.W.keepIn K (.ref f) = true)
    (hn : t.nm = nm) (hd : PP[i]? = some (some d)) (ok : defChk T t N (defScope st) (defBody st) d = true) (bd : Bd K (PySem.W.fnOf nm qual (defArgs st) (defBody st) (defScope st) dV kV dc pm an cd ct) t) (lm : t.lm = true → ∃ c P, cd = .ref c ∧ (c, P, qual) ∈ ms := by exact fun z => by cases z) : FnHave T PP K ms mg i t := by
  subst hn
  exact ⟨f, _, def_ok l c hd ok lm, bd, PySem.W.mg_of X G a, k⟩
structure ClHave (T : Tab) (PP : List (Option FD)) (K : PySem.W.Frag) (ms : List (Addr × Addr × Str)) (mg : Str → Option Value) (c : Nat) (x : Str) (C : Addr) : Prop where
  cl : Cls K C
  nm : mg x = some (.ref C)
  na : ∀ f, f ∈ T.flds → NoAttr K C f
  me : AllF (fun f t => t.cl = some c → MeHave T PP K ms C f t) 0 T.fns
noncomputable def fnmOf (T : Tab) (f : Nat) : Str := match T.flds[f]? with
  | some x => x
  | none => ⟨(List.replicate (f + 1) 0).toArray⟩
noncomputable def GCc (T : Tab) (K : PySem.W.Frag) (cs : List Addr) (ecl : Nat → Addr) (ms : List (Addr × Addr × Str)) (u : World) : GC := ⟨K, fun c => (cs[c]?).getD 0, fun c => c < cs.length, fnmOf T, fun c fs cv d _ => fs = [] ∧ c < 13 ∧ cv = .ref (ecl c) ∧ d = none, fun _ _ _ => True, ms.map fun x => (x.2.1, lamN x.2.2), u⟩
noncomputable def headOk (x : Str) : Bool := match x.cps.toList with
  | [] => false
  | n :: _ => decide (n ≠ 0)
noncomputable def tabChk (T : Tab) : Bool := decide T.flds.Nodup && T.flds.all headOk && (T.fns.all fun o => match o with
  | some t => match t.cl with
    | some c => decide (c < T.cls.length) && headOk t.nm && decide (t.nm ∉ T.flds)
    | none => true
  | none => true)
theorem zero_head {n : Nat} : headOk ⟨(List.replicate (n + 1) 0).toArray⟩ = false := by
  unfold headOk
  simp [List.replicate_succ]
theorem fnm_inj (h : tabChk T = true) (f g : Nat) (e : fnmOf T f = fnmOf T g) : f = g := by
  simp only [tabChk, Bool.and_eq_true, decide_eq_true_eq, List.all_eq_true] at h
  obtain ⟨⟨h1, h2⟩, _⟩ := h
  unfold fnmOf at e
  cases q1 : T.flds[f]? with
  | some x =>
    rw [q1] at e
    cases q2 : T.flds[g]? with
    | some y =>
      rw [q2] at e
      have e : x = y := e
      subst e
      obtain ⟨l1, e1⟩ := List.getElem?_eq_some_iff.mp q1
      obtain ⟨l2, e2⟩ := List.getElem?_eq_some_iff.mp q2
      exact (List.getElem_inj h1).mp (e1.trans e2.symm)
    | none =>
      rw [q2] at e
      have := h2 x (List.mem_of_getElem? q1)
      rw [show x = _ from e, zero_head] at this
      cases this
  | none =>
    rw [q1] at e
    cases q2 : T.flds[g]? with
    | some y =>
      rw [q2] at e
      have := h2 y (List.mem_of_getElem? q2)
      rw [← show _ = y from e, zero_head] at this
      cases this
    | none =>
      rw [q2] at e
      have := congrArg (fun x : Str => x.cps.toList.length) e
      simpa using this
theorem tab_fn {f : Nat} {t : FnT} (e : T.fn f = some t) : T.fns[f]? = some (some t) := by
  unfold Tab.fn at e
  split at e
  · cases e
    assumption
  · cases e
theorem tab_of (u : World) (cs : List Addr) (ecl : Nat → Addr) (nd : (ms.map (·.2.1)).Nodup) (rf : T.rf = true → Refus K mg ecl) (sd : T.said = true → SaidHave K mg ∧ KindHave K mg) (hT : tabChk T = true) (fns : AllF (fun f t => t.cl = none → FnHave T PP K ms mg f t) 0 T.fns) (hl : cs.length = T.cls.length) (cls : ∀ (c : Nat) x, T.cls[c]? = some x → ∃ C, cs[c]? = some C ∧ ClHave T PP K ms mg c x C)
    (blt : ∀ x, T.blt.contains x = true → mg x = none) (gcs : ∀ (g : Nat) x d, T.gcs[g]? = some (x, d) → ∃ v u, mg x = some u ∧ RelV v u ∧ ∀ F H, Rp K F H v d) : TabF T (GCc T K cs ecl ms u) PP K ms mg := by
  have one : ∀ f t c, T.fn f = some t → t.cl = some c → c < T.cls.length ∧ headOk t.nm = true ∧ t.nm ∉ T.flds := fun f t c e e2 => by
    simp only [tabChk, Bool.and_eq_true, List.all_eq_true] at hT
    have := hT.2 (some t) (List.mem_of_getElem? (tab_fn e))
    simp only [e2, Bool.and_eq_true, decide_eq_true_eq] at this
    exact ⟨this.1.1, this.1.2, this.2⟩
  have cat : ∀ c, c < T.cls.length → ∃ x, ClHave T PP K ms mg c x ((GCc T K cs ecl ms u).cls c) ∧ T.cls[c]? = some x := fun c hc => by
    have e := List.getElem?_eq_getElem hc
    obtain ⟨C, h1, h2⟩ := cls c _ e
    refine ⟨_, ?_, e⟩
    show ClHave T PP K ms mg c _ ((cs[c]?).getD 0)
    rw [h1]
    exact h2
  refine { gk := rfl, tb := rfl, nd := nd, rf := fun z => ⟨ecl, rf z, fun c fs cv d H => Iff.rfl⟩, said := sd, fn := fun f t e => ?_, cl := fun c x e => ?_, cok := fun c hc => ?_, clm := fun f t c e e2 => ?_, fi := fnm_inj hT, fl := fun f x e => ?_, fm := fun f i t c e e2 z => ?_, blt := blt, gcs := gcs }
  · cases q : t.cl with
    | none =>
      obtain ⟨fa, fd, h1, h2, h3, h4⟩ := (AllF.get fns (tab_fn e)) q
      rw [Nat.zero_add] at h1
      exact ⟨fa, fd, h1, h2.1, h2.2, fun _ => ⟨h3, h4⟩, fun c z => (nomatch z)⟩
    | some c =>
      obtain ⟨x, hc, _⟩ := cat c (one f t c e q).1
      obtain ⟨fa, fd, h1, h2, h3, h4⟩ := (AllF.get hc.me (tab_fn e)) q
      rw [Nat.zero_add] at h1
      exact ⟨fa, fd, h1, h2.1, h2.2, fun z => (nomatch z), fun c' z => (by cases z; exact ⟨h3, h4⟩)⟩
  · have hc : c < T.cls.length := (List.getElem?_eq_some_iff.mp e).1
    obtain ⟨x', h1, h2⟩ := cat c hc
    rw [e] at h2
    cases h2
    exact ⟨by show c < cs.length; rw [hl]; exact hc, h1.nm⟩
  · obtain ⟨x, h1, _⟩ := cat c (by have hc : c < cs.length := hc; rw [hl] at hc; exact hc)
    exact h1.cl
  · show c < cs.length
    rw [hl]
    exact (one f t c e e2).1
  · refine ⟨?_, fun c hc => ?_⟩
    · show x = fnmOf T f
      unfold fnmOf
      rw [e]
    · obtain ⟨y, h1, _⟩ := cat c (by have hc : c < cs.length := hc; rw [hl] at hc; exact hc)
      exact h1.na x (List.mem_of_getElem? e)
  · obtain ⟨_, h1, h2⟩ := one i t c e e2
    have z : fnmOf T f = t.nm := z
    unfold fnmOf at z
    cases q : T.flds[f]? with
    | some x =>
      rw [q] at z
      exact h2 (by rw [← show x = t.nm from z]; exact List.mem_of_getElem? q)
    | none =>
      rw [q] at z
      rw [← z, zero_head] at h1
      cases h1
/-- the law's own def, from the table -/
theorem law_of {G : GC} {M : Option Nat} {P : Program} {w : World} {base : Heap} {fa : Addr} {li lv : Nat} {x : Str} (D : TabF T G PP K ms mg) (hw : G.w = w) (e : T.fn li = some t) (hc : t.cl = none) (hn : t.n = 1) (hp : t.ps = [x]) (hm : mg t.nm = some (.ref fa)) :
    ∃ fd : FuncData, (∀ (s : Shared) (u : Value), K.In s.heap → BindsTo s fd ⟨[u], []⟩ [(x, u)]) ∧ ∀ base : Heap, K.In base → base.Ns mainGlobals mg → Sys base → (∀ y ∈ ms, LamX.TabB base mg y.1 y.2.1) → FnG P w K mg base (L2.CX P w) (4 * lv) fa fd 1 [x] (spC G 1 (callN PP M lv li)) := by
  obtain ⟨fa', fd, h1, h2, _, h3, _⟩ := D.fn li t e
  obtain ⟨h3, _⟩ := h3 hc
  rw [hm] at h3
  cases h3
  obtain ⟨us, hv, hB⟩ := h2 [] (.inl rfl)
  cases hv
  refine ⟨fd, fun s u X => ?_, fun base _ _ hs hT => ?_⟩
  · have := hB s [u] X (by rw [hp]; rfl)
    rw [hp] at this
    exact this
  · have := fn_all hw (M := M) (P := P) (w := w) (base := base) hs hT D lv h1
    rw [hn, hp] at this
    exact this
end
theorem FnG.imp {P : Program} {w : World} {K : PySem.W.Frag} {mg : Str → Option Value} {base : Heap} {CX : CXT} {k n : Nat} {f : Addr} {fd : FuncData} {ps : List Str} {sp sp' : Sp} (F : FnG P w K mg base CX k f fd n ps sp) (h : ∀ vs H Q E, sp' vs H Q E → sp vs H Q E) : FnG P w K mg base CX k f fd n ps sp' :=
  ⟨F.num, fun vs H Q E q => F.len vs H Q E (h _ _ _ _ q), fun A outer s H ar us vs Q E hu hr e0 hb r q => F.go A outer s H ar us vs Q E hu hr e0 hb r (h _ _ _ _ q)⟩
end IP
namespace IP
open PySem PySem.Spec PyProof.Rows L2

/-! ### a closed run in parts -/
noncomputable def finD (o : Out Fl) (n : Nat) : Out Val := match o with
  | .ok (.nx _) S' => leave n (.dat .none) S'
  | .ok (.rt v) S' => leave n v S'
  | .exc c fs S' => .exc c fs S'
  | .err => .err
theorem callN_at {P : List (Option FD)} {W : Option Nat} {k f : Nat} {vs : List Val} {S : Store} {d : FD} (h : P[f]? = some (some d)) (hl : vs.length = d.n) : callN P W (k + 1) f vs S = finD (evSs W (callN P W k) d.body (vs.map some ++ List.replicate (d.m - d.n) none) S) S.length := by
  simp only [callN, h, hl, if_true]
  rfl
noncomputable def stepF (W : Option Nat) (cf : CallF) (pt : Pt) (body : List IS) (x : PyData) (s : Env) (S : Store) : Out Fl := match bindPt pt (.dat x) s with
  | some s2 => evSs W cf body s2 S
  | none => .err
end IP
namespace IP
open PySem PySem.Spec PyProof.Rows L2

/-! ### what a run gives -/
inductive Sat {A : Type} (Q : A → Store → Prop) : Out A → Prop
  | ok {a : A} {S : Store} : Q a S → Sat Q (.ok a S)
noncomputable abbrev Out.sat {A : Type} (o : Out A) (Q : A → Store → Prop) : Prop := Sat Q o
section
variable {A B : Type} {o : Out A} {f : A → Store → Out B} {Q Q' : A → Store → Prop} {R : B → Store → Prop}
theorem sat_ok {a : A} {S : Store} (h : Q a S) : (Out.ok a S).sat Q := .ok h
theorem sat_ex (h : o.sat Q) : ∃ a S, o = .ok a S ∧ Q a S := by
  cases h with
  | ok h => exact ⟨_, _, rfl, h⟩
theorem sat_bind (h : o.sat fun a S => (f a S).sat R) : (o.bind f).sat R := by
  obtain ⟨a, S, rfl, h'⟩ := sat_ex h
  exact h'
theorem sat_mono (h : o.sat Q) (k : ∀ a S, Q a S → Q' a S) : o.sat Q' := by
  obtain ⟨a, S, rfl, h'⟩ := sat_ex h
  exact .ok (k a S h')
theorem sat_then (h : o.sat Q) (k : ∀ a S, Q a S → (f a S).sat R) : (o.bind f).sat R := sat_bind (sat_mono h k)
theorem eq_sat {a : A} {S : Store} (h : o.sat fun b S' => b = a ∧ S' = S) : o = .ok a S := by
  obtain ⟨b, S', e, rfl, rfl⟩ := sat_ex h
  exact e
end
/-! leaving a def -/
@[simp] theorem finD_nx {s : Env} {S : Store} : finD (.ok (.nx s) S) S.length = .ok (.dat .none) S := by
  simp [finD, leave]
@[simp] theorem finD_rt {v : Val} {S : Store} : finD (.ok (.rt v) S) S.length = .ok v S := by
  simp [finD, leave]
theorem leave_sat {v : Val} {n : Nat} {S : Store} {Q : Val → Store → Prop} (h1 : Q v S) (h2 : Q v (S.take n)) : (leave n v S).sat Q := by
  unfold leave
  split
  · exact .ok h1
  · split
    · exact .ok h2
    · exact .ok h1
noncomputable def retOf : Fl → Val
  | .nx _ => .dat .none
  | .rt v => v
theorem finD_sat {o : Out Fl} {n : Nat} {Q : Val → Store → Prop} (h : o.sat fun r S => Q (retOf r) S ∧ Q (retOf r) (S.take n)) : (finD o n).sat Q := by
  obtain ⟨r, S, rfl, h'⟩ := sat_ex h
  cases r <;> exact leave_sat h'.1 h'.2
theorem call_sat {P : List (Option FD)} {W : Option Nat} {k f : Nat} {vs : List Val} {S : Store} {d : FD} {Q : Val → Store → Prop} (h : P[f]? = some (some d)) (hl : vs.length = d.n)
    (b : (evSs W (callN P W k) d.body (vs.map some ++ List.replicate (d.m - d.n) none) S).sat fun r S' => Q (retOf r) S' ∧ Q (retOf r) (S'.take S.length)) : (callN P W (k + 1) f vs S).sat Q := by
  rw [callN_at h hl]
  exact finD_sat b
/-! loops -/
theorem for_inv {f : PyData → Env → Store → Out Fl} {Q : Fl → Store → Prop} (I : Nat → Env → Store → Prop) (xs : List PyData) {s : Env} {S : Store} (h0 : I 0 s S)
    (st : ∀ (i : Nat) (x : PyData) (s : Env) (S : Store), xs[i]? = some x → I i s S → (f x s S).sat fun r S' => ∃ s', r = .nx s' ∧ I (i + 1) s' S') (fin : ∀ s S, I xs.length s S → Q (.nx s) S) : (forL f xs s S).sat Q := by
  induction xs generalizing s S I with
  | nil => exact .ok (fin _ _ h0)
  | cons x xs ih =>
    unfold forL
    refine sat_then (st 0 x s S rfl h0) ?_
    rintro r S1 ⟨s', rfl, h1⟩
    refine ih (fun i => I (i + 1)) h1 (fun i y s S e h => st (i + 1) y s S (by simpa using e) h) ?_
    intro s S h
    exact fin s S h
theorem comp_map {A : Type} {f : PyData → Store → Out (Option PyData)} {h g : A → PyData} {S : Store} : ∀ {l : List A}, (∀ a, a ∈ l → f (h a) S = .ok (some (g a)) S) → compL f (l.map h) S = .ok (l.map g) S
  | [], _ => rfl
  | a :: l, k => by
    rw [List.map_cons, List.map_cons]
    unfold compL
    rw [k a List.mem_cons_self, Out.bind_ok, comp_map fun b hb => k b (List.mem_cons_of_mem _ hb)]
    rfl
theorem comp_filter {A : Type} {f : PyData → Store → Out (Option PyData)} {h g : A → PyData} {c : A → Bool} {S : Store} : ∀ {l : List A}, (∀ a, a ∈ l → f (h a) S = .ok (if c a = true then some (g a) else none) S) → compL f (l.map h) S = .ok ((l.filter c).map g) S
  | [], _ => rfl
  | a :: l, k => by
    rw [List.map_cons]
    unfold compL
    rw [k a List.mem_cons_self, Out.bind_ok, comp_filter fun b hb => k b (List.mem_cons_of_mem _ hb)]
    cases e : c a with
    | true => simp [e, consO]
    | false => simp [e, consO]
/-! values by their data -/
@[simp] theorem lookF_dat {S : Store} {p : PyData} : lookF S (.dat p) = some p := rfl
@[simp] theorem look_dat {S : Store} {p : PyData} : look S (.dat p) = some p := rfl
@[simp] theorem dats_nil : dats [] = some [] := rfl
@[simp] theorem dats_cons {p : PyData} {vs : List Val} : dats (.dat p :: vs) = (dats vs).map (p :: ·) := rfl
@[simp] theorem boolsOf_map {A : Type} {c : A → Bool} : ∀ l : List A, boolsOf (l.map fun a => PyData.bool (c a)) = some (l.map c)
  | [] => rfl
  | a :: l => by
    show (boolsOf (l.map fun a => PyData.bool (c a))).map (c a :: ·) = _
    rw [boolsOf_map l]
    rfl
@[simp] theorem intsOf_map {A : Type} {c : A → Int} : ∀ l : List A, intsOf (l.map fun a => PyData.int (c a)) = some (l.map c)
  | [] => rfl
  | a :: l => by
    show (intsOf (l.map fun a => PyData.int (c a))).map (c a :: ·) = _
    rw [intsOf_map l]
    rfl
theorem at_nat {A : Type} {l : List A} {i : Nat} {a : A} (h : l[i]? = some a) : L2.atI l (i : Int) = some a := by
  have hl : i < l.length := (List.getElem?_eq_some_iff.mp h).1
  unfold L2.atI L2.ixN
  rw [if_pos (by omega), if_pos (by omega)]
  simpa using h
@[simp] theorem at_0 {A : Type} {a : A} {l : List A} : L2.atI (a :: l) 0 = some a := at_nat (i := 0) rfl
@[simp] theorem at_1 {A : Type} {a b : A} {l : List A} : L2.atI (a :: b :: l) 1 = some b := at_nat (i := 1) rfl
@[simp] theorem at_2 {A : Type} {a b c : A} {l : List A} : L2.atI (a :: b :: c :: l) 2 = some c := at_nat (i := 2) rfl
@[simp] theorem at_3 {A : Type} {a b c d : A} {l : List A} : L2.atI (a :: b :: c :: d :: l) 3 = some d := at_nat (i := 3) rfl
/-! the evaluator's small steps, one by one -/
section
variable {xs ys : List PyData} {i j : Int} {a b : PyData} {x y : Str} {p q : Bool} {lo hi : Option Int}
theorem bf_len_t : bfP .len [.tuple xs] = some (.int xs.length) := rfl
theorem bf_len_l : bfP .len [.list xs] = some (.int xs.length) := rfl
theorem bf_abs : bfP .abs [.int i] = some (.int (if i < 0 then -i else i)) := rfl
theorem bf_min2 : bfP .min2 [.int i, .int j] = some (.int (if j < i then j else i)) := rfl
theorem bf_max2 : bfP .max2 [.int i, .int j] = some (.int (if j > i then j else i)) := rfl
theorem bf_int_b : bfP .int [.bool p] = some (.int (if p = true then 1 else 0)) := rfl
theorem bf_repr : bfP .repr [a] = if repOk a = true then some (.str a.shown) else none := rfl
theorem bf_list_l : bfP .list [.list xs] = some (.list xs) := rfl
theorem bf_list_t : bfP .list [.tuple xs] = some (.list xs) := rfl
theorem bf_tuple_l : bfP .tuple [.list xs] = some (.tuple xs) := rfl
theorem bf_tuple_t : bfP .tuple [.tuple xs] = some (.tuple xs) := rfl
theorem bf_all : bfP .all [.list xs] = (boolsOf xs).map fun bs => .bool (bs.all id) := rfl
theorem bf_any : bfP .any [.list xs] = (boolsOf xs).map fun bs => .bool (bs.any id) := rfl
theorem bf_sum : bfP .sum [.list xs] = (intsOf xs).map fun ns => .int ns.sum := rfl
theorem bf_sum_t : bfP .sum [.tuple xs] = (intsOf xs).map fun ns => .int ns.sum := rfl
theorem bf_isi {t : TK} : bfP (.isi t) [a] = some (.bool (isTy t a)) := rfl
theorem bin_add : binP .add (.int i) (.int j) = some (.int (i + j)) := rfl
theorem bin_sub : binP .sub (.int i) (.int j) = some (.int (i - j)) := rfl
theorem bin_mul : binP .mul (.int i) (.int j) = if mulOk i j = true then some (.int (i * j)) else none := rfl
theorem bin_fdv : binP .fdv (.int i) (.int j) = if divOk j = true then some (.int (i.fdiv j)) else none := rfl
theorem bin_mod : binP .mod (.int i) (.int j) = if j ≠ 0 then some (.int (i.fmod j)) else none := rfl
theorem bin_add_t : binP .add (.tuple xs) (.tuple ys) = if xs.length + ys.length ≤ sizeLine then some (.tuple (xs ++ ys)) else none := rfl
theorem bin_add_l : binP .add (.list xs) (.list ys) = if xs.length + ys.length ≤ sizeLine then some (.list (xs ++ ys)) else none := rfl
theorem bin_add_s : binP .add (.str x) (.str y) = if x.length + y.length ≤ sizeLine then some (.str (x ++ y)) else none := rfl
theorem bin_mul_t : binP .mul (.tuple xs) (.int i) = if -1000 ≤ i ∧ i ≤ 1000 ∧ xs.length ≤ 1000 then some (.tuple (List.replicate i.toNat xs).flatten) else none := rfl
theorem cmpP_eq : cmpP .eq a b = eqO (eqP a b) (eqT0 a b) := rfl
theorem eqO_s {r : Bool} {o : Option Bool} : eqO (some r) o = some r := rfl
theorem cmpP_ne : cmpP .ne a b = (eqP a b).map (!·) := rfl
theorem cmpP_lt : cmpP .lt (.int i) (.int j) = some (decide (i < j)) := rfl
theorem cmpP_le : cmpP .le (.int i) (.int j) = some (decide (i ≤ j)) := rfl
theorem cmpP_gt : cmpP .gt (.int i) (.int j) = some (decide (j < i)) := rfl
theorem cmpP_ge : cmpP .ge (.int i) (.int j) = some (decide (j ≤ i)) := rfl
theorem cmpP_in : cmpP .inn a b = inP a b := rfl
theorem cmpP_nin : cmpP .nin a b = (inP a b).map (!·) := rfl
theorem eqP_int : eqP (.int i) (.int j) = some (decide (i = j)) := rfl
theorem eqP_str : eqP (.str x) (.str y) = some (decide (x = y)) := rfl
theorem idx_t : idxP (.tuple xs) (.int i) = L2.atI xs i := rfl
theorem idx_l : idxP (.list xs) (.int i) = L2.atI xs i := rfl
theorem sli_t : sliP (.tuple xs) lo hi = some (.tuple (cutP xs lo hi)) := rfl
theorem sli_l : sliP (.list xs) lo hi = some (.list (cutP xs lo hi)) := rfl
theorem rev_t : revP (.tuple xs) = some (.tuple xs.reverse) := rfl
theorem rev_l : revP (.list xs) = some (.list xs.reverse) := rfl
theorem items_t : itemsP (.tuple xs) = some xs := rfl
theorem items_l : itemsP (.list xs) = some xs := rfl
theorem seq_t : seqP (.tuple xs) = some xs := rfl
theorem seq_l : seqP (.list xs) = some xs := rfl
theorem bools_nil : boolsOf [] = some [] := rfl
theorem bools_cons : boolsOf (.bool p :: xs) = (boolsOf xs).map (p :: ·) := rfl
theorem it_ok {S : Store} : itO (.ok (.dat a) S) = match itemsP a with
  | some xs => .ok xs S
  | none => .err := rfl
theorem datb_ : datb (.dat (.bool p)) = some p := rfl
theorem cond_t {A : Type} {u v : A} : (if true = true then u else v) = u := rfl
theorem cond_f {A : Type} {u v : A} : (if false = true then u else v) = v := rfl
theorem lookF_lst {S : Store} {l : Nat} (h : S[l]? = some (.lst xs)) : lookF S (.ref l) = some (.list xs) := by
  simp only [lookF]
  rw [h]
theorem lookF_frz {S : Store} {l : Nat} (h : S[l]? = some (.frz xs)) : lookF S (.ref l) = some (.list xs) := by
  simp only [lookF]
  rw [h]
end
/-! slices -/
theorem cut_take {A : Type} {l : List A} {n : Nat} : cutP l none (some (n : Int)) = l.take n := by
  unfold cutP
  rw [HT.sIx_none, HT.sIx_nat]
  simp
theorem cut_drop {A : Type} {l : List A} {n : Nat} : cutP l (some (n : Int)) none = l.drop n := by
  unfold cutP
  rw [HT.sIx_none, HT.sIx_nat]
  by_cases h : n ≤ l.length
  · rw [Nat.min_eq_left h, List.take_of_length_le (by rw [List.length_drop]; exact Nat.le_refl _)]
  · rw [Nat.min_eq_right (by omega), List.drop_eq_nil_of_le (by omega : l.length ≤ n), List.drop_length]
    simp
/-! sizes -/
theorem log2_le {x a : Nat} (h : x < 2 ^ a) : x.log2 ≤ a := by
  by_cases h0 : x = 0
  · subst h0
    simp
  · exact Nat.le_of_lt ((Nat.log2_lt h0).mpr h)
theorem mul_ok {i j : Int} {a b : Nat} (h1 : i.natAbs < 2 ^ a) (h2 : j.natAbs < 2 ^ b) (h : a + b < 1000000) : mulOk i j = true := by
  unfold mulOk
  have := log2_le h1
  have := log2_le h2
  exact decide_eq_true (by omega)
theorem div_ok {j : Int} (h1 : 0 < j) (h2 : j < 2 ^ 62) : divOk j = true := by
  unfold divOk
  rw [Bool.and_eq_true]
  refine ⟨decide_eq_true (by omega), decide_eq_true ?_⟩
  have : j.natAbs < 2 ^ 62 := by omega
  have := log2_le this
  omega
/-! what a thing's text is long at the most -/
structure Rk (d n : Nat) (p : PyData) : Prop where
  sh : p.showable = true
  dp : p.depth ≤ d
  ln : p.shown.length ≤ n
theorem Rk.mono {d d' n n' : Nat} {p : PyData} (h : Rk d n p) (hd : d ≤ d') (hn : n ≤ n') : Rk d' n' p := ⟨h.sh, Nat.le_trans h.dp hd, Nat.le_trans h.ln hn⟩
theorem Rk.ok {d n : Nat} {p : PyData} (h : Rk d n p) (h1 : d ≤ 64) (h2 : n ≤ 2 ^ 24) : repOk p = true := by
  unfold repOk
  rw [h.sh, decide_eq_true (Nat.le_trans h.dp h1), decide_eq_true (show p.shown.length ≤ sizeLine from Nat.le_trans h.ln h2)]
  rfl
theorem rk_int {i : Int} {a : Nat} (h : i.natAbs < 2 ^ a) (ha : a ≤ 1900) : Rk 0 (a + 3) (.int i) := by
  have hl := log2_le h
  refine ⟨decide_eq_true (show i.natAbs.log2 < 1920 by omega), Nat.le_refl _, ?_⟩
  show (Str.ofString (toString i)).length ≤ a + 3
  rw [PySem.ofString_length]
  have := int_text_length_le (a := i) (k := a + 1) (by omega) (by omega)
  omega
theorem rk_bool {b : Bool} : Rk 0 5 (.bool b) := ⟨rfl, Nat.le_refl _, by cases b <;> decide⟩
theorem rk_none : Rk 0 5 .none := ⟨rfl, Nat.le_refl _, by decide⟩
theorem join_le (ts : List Str) : (Str.join ", " ts).length ≤ piled ts := by
  by_cases h : ts = []
  · subst h
    exact Nat.le_refl _
  · have := join_length_add ts h
    omega
theorem text_le : ∀ (ts : List Str) (k : Nat) (acc : Str), (textFrom k acc ts).length ≤ acc.length + piled ts
  | [], k, acc => by simp [textFrom, piled]
  | t :: ts, k, acc => by
    have ih := text_le ts (k + 1) (acc ++ (if k > 0 then ", " else "" : String) ++ t)
    have e : (acc ++ (if k > 0 then ", " else "" : String) ++ t).length = acc.length + (if k > 0 then 2 else 0) + t.length := by
      rw [strLen_append, strLen_append]
      split <;> rfl
    rw [e] at ih
    unfold textFrom
    rw [piled_cons]
    refine Nat.le_trans ih ?_
    split <;> omega
/-! the pen: three numbers in the store -/
structure Pen (n l : Nat) (S : Store) : Prop where
  ex : ∃ a b c : Int, S[l]? = some (.lst [.int a, .int b, .int c]) ∧ 0 ≤ b ∧ b < 2 ^ 31 ∧ 0 ≤ c ∧ c ≤ n
theorem Pen.mono {n m l : Nat} {S : Store} (h : Pen n l S) (hn : n ≤ m) : Pen m l S := by
  obtain ⟨a, b, c, h1, h2, h3, h4, h5⟩ := h.ex
  exact ⟨a, b, c, h1, h2, h3, h4, by omega⟩
theorem Pen.lt {n l : Nat} {S : Store} (h : Pen n l S) : l < S.length := by
  obtain ⟨a, b, c, h1, _⟩ := h.ex
  exact (List.getElem?_eq_some_iff.mp h1).1
/-- all else stays -/
structure Fr (l : Nat) (S S' : Store) : Prop where
  len : S.length ≤ S'.length
  at_ : ∀ m, m < S.length → m ≠ l → S'[m]? = S[m]?
theorem Fr.refl {l : Nat} {S : Store} : Fr l S S := ⟨Nat.le_refl _, fun _ _ _ => rfl⟩
theorem Fr.trans {l : Nat} {S S' S'' : Store} (a : Fr l S S') (b : Fr l S' S'') : Fr l S S'' := ⟨Nat.le_trans a.len b.len, fun m h1 h2 => (b.at_ m (Nat.lt_of_lt_of_le h1 a.len) h2).trans (a.at_ m h1 h2)⟩
theorem Fr.set {l : Nat} {S : Store} {o : Ob} : Fr l S (S.set l o) := ⟨by rw [List.length_set]; exact Nat.le_refl _, fun m _ h2 => List.getElem?_set_ne (Ne.symm h2)⟩
theorem Fr.push {l : Nat} {S : Store} {o : Ob} : Fr l S (S ++ [o]) := ⟨by simp, fun m h1 _ => List.getElem?_append_left h1⟩
theorem Fr.take {l : Nat} {S S' : Store} (a : Fr l S S') : Fr l S (S'.take S.length) := ⟨by rw [List.length_take]; have := a.len; omega, fun m h1 h2 => by rw [List.getElem?_take, if_pos h1]; exact a.at_ m h1 h2⟩
theorem Pen.push {n l : Nat} {S : Store} {o : Ob} (h : Pen n l S) : Pen n l (S ++ [o]) := by
  obtain ⟨a, b, c, h1, h2⟩ := h.ex
  exact ⟨a, b, c, by rw [List.getElem?_append_left h.lt]; exact h1, h2⟩
theorem Pen.take {n l m : Nat} {S : Store} (h : Pen n l S) (hl : l < m) : Pen n l (S.take m) := by
  obtain ⟨a, b, c, h1, h2⟩ := h.ex
  exact ⟨a, b, c, by rw [List.getElem?_take, if_pos hl]; exact h1, h2⟩
theorem Pen.set {n l m : Nat} {S : Store} {o : Ob} (h : Pen n l S) (hm : m ≠ l) : Pen n l (S.set m o) := by
  obtain ⟨a, b, c, h1, h2⟩ := h.ex
  exact ⟨a, b, c, by rw [List.getElem?_set_ne hm]; exact h1, h2⟩
theorem Fr.set_new {l m : Nat} {S S' : Store} {o : Ob} (a : Fr l S S') (hm : S.length ≤ m) : Fr l S (S'.set m o) :=
  ⟨by rw [List.length_set]; exact a.len, fun i h1 h2 => by rw [List.getElem?_set_ne (by omega)]; exact a.at_ i h1 h2⟩
/-! places, lays, leaps -/
noncomputable def pl (p : Int × Int) : PyData := .tuple [.int p.1, .int p.2]
noncomputable def lay (l : List (Int × Int)) : PyData := .tuple (l.map pl)
noncomputable def lp (r : Nat × Nat) : PyData := .tuple [.int (r.1 : Int), .int (r.2 : Int)]
noncomputable def row (r : List (Nat × Nat)) : PyData := .tuple (r.map lp)
noncomputable def Bn (n : Nat) (l : List (Int × Int)) : Prop := ∀ p, p ∈ l → p.1.natAbs < 2 ^ n ∧ p.2.natAbs < 2 ^ n
theorem Bn.mono {n m : Nat} {l : List (Int × Int)} (h : Bn n l) (hn : n ≤ m) : Bn m l := fun p hp =>
  ⟨Nat.lt_of_lt_of_le (h p hp).1 (Nat.pow_le_pow_right (by decide) hn), Nat.lt_of_lt_of_le (h p hp).2 (Nat.pow_le_pow_right (by decide) hn)⟩
noncomputable def bey (p q : Int × Int) : Int × Int := (2 * q.1 - p.1, 2 * q.2 - p.2)
noncomputable def atL (l : List (Int × Int)) (i : Nat) : Int × Int := l.getD i (0, 0)
noncomputable def leap (l : List (Int × Int)) (r : Nat × Nat) : List (Int × Int) := l.set r.1 (bey (atL l r.1) (atL l r.2))
/-- a leap of a lay of n tokens -/
noncomputable def Lp (n : Nat) (r : Nat × Nat) : Prop := r.1 < n ∧ r.2 < n ∧ r.1 ≠ r.2
theorem at_lay {l : List (Int × Int)} {i : Nat} (h : i < l.length) : l[i]? = some (atL l i) := by
  unfold atL
  rw [List.getD_eq_getElem?_getD, List.getElem?_eq_getElem h]
  rfl
theorem at_mem {l : List (Int × Int)} {i : Nat} (h : i < l.length) : atL l i ∈ l := List.mem_of_getElem? (at_lay h)
theorem leap_len {l : List (Int × Int)} {r : Nat × Nat} : (leap l r).length = l.length := List.length_set ..
theorem bey_bd {n : Nat} {p q : Int × Int} (h1 : p.1.natAbs < 2 ^ n ∧ p.2.natAbs < 2 ^ n) (h2 : q.1.natAbs < 2 ^ n ∧ q.2.natAbs < 2 ^ n) : (bey p q).1.natAbs < 2 ^ (n + 2) ∧ (bey p q).2.natAbs < 2 ^ (n + 2) := by
  have e : 2 ^ (n + 2) = 4 * 2 ^ n := by rw [Nat.pow_add]; omega
  rw [e]
  unfold bey
  simp only
  omega
theorem leap_bd {n : Nat} {l : List (Int × Int)} {r : Nat × Nat} (h : Bn n l) (hr : Lp l.length r) : Bn (n + 2) (leap l r) := fun p hp => by
  rcases List.mem_or_eq_of_mem_set hp with hp | rfl
  · exact (h.mono (Nat.le_add_right n 2)) p hp
  · exact bey_bd (h _ (at_mem hr.1)) (h _ (at_mem hr.2.1))
end IP
namespace IP
open PySem PySem.Spec PyProof.Rows L2
theorem sat_okI {A : Type} {a : A} {S : Store} {Q : A → Store → Prop} : (Out.ok a S).sat Q = Q a S := propext ⟨fun h => (by cases h with | ok h => exact h), .ok⟩
theorem sat_seq {W : Option Nat} {cf : CallF} {t : IS} {ts : List IS} {s : Env} {S : Store} {Q : Fl → Store → Prop} (h : (evS W cf t s S).sat fun r S1 => match r with
    | .nx s' => (evSs W cf ts s' S1).sat Q
    | .rt v => Q (.rt v) S1) : (evSs W cf (t :: ts) s S).sat Q := by
  simp only [evSs]
  refine sat_then h ?_
  intro r S1 h
  cases r with
  | nx s' => exact h
  | rt v => exact .ok h
theorem sat_nil {W : Option Nat} {cf : CallF} {s : Env} {S : Store} {Q : Fl → Store → Prop} (h : Q (.nx s) S) : (evSs W cf [] s S).sat Q := by
  simp only [evSs]
  exact .ok h
theorem bind_assoc_ {A B C : Type} {o : Out A} {f : A → Store → Out B} {g : B → Store → Out C} : (o.bind f).bind g = o.bind fun a S => (f a S).bind g := by
  cases o <;> rfl
theorem lookF_set {S : Store} {l : Nat} {xs : List PyData} (h : l < S.length) : lookF (S.set l (.lst xs)) (.ref l) = some (.list xs) := lookF_lst (List.getElem?_set_self h)
theorem set_at {S : Store} {l : Nat} {o : Ob} (h : l < S.length) : (S.set l o)[l]? = some o := List.getElem?_set_self h
theorem ix3_0 : L2.ixN 3 0 = some 0 := rfl
theorem ix3_1 : L2.ixN 3 1 = some 1 := rfl
theorem ix3_2 : L2.ixN 3 2 = some 2 := rfl
theorem fm_nat {x m : Int} (h1 : 0 < m) (h2 : m < 2 ^ 62) : (x.fmod m).natAbs < 2 ^ 62 := by
  have := Int.fmod_nonneg_of_pos x h1
  have := Int.fmod_lt_of_pos x h1
  omega
theorem fm_ge {x m : Int} (h1 : 0 < m) : 0 ≤ x.fmod m := Int.fmod_nonneg_of_pos x h1
theorem fm_lt {x m : Int} (h1 : 0 < m) : x.fmod m < m := Int.fmod_lt_of_pos x h1
theorem call_pen {P : List (Option FD)} {W : Option Nat} {k f n l : Nat} {vs : List Val} {S : Store} {d : FD} {R : Val → Prop} (h : P[f]? = some (some d)) (hl : vs.length = d.n) (hp : l < S.length)
    (b : (evSs W (callN P W k) d.body (vs.map some ++ List.replicate (d.m - d.n) none) S).sat fun r S' => R (retOf r) ∧ Pen n l S' ∧ Fr l S S') : (callN P W (k + 1) f vs S).sat fun v S' => R v ∧ Pen n l S' ∧ Fr l S S' :=
  call_sat h hl (sat_mono b fun r S' ⟨h1, h2, h3⟩ => ⟨⟨h1, h2, h3⟩, h1, h2.take hp, h3.take⟩)
noncomputable def Spn (far : Int) (p : Int × Int) : Prop := -far ≤ p.1 ∧ p.1 ≤ far ∧ -far ≤ p.2 ∧ p.2 ≤ far
end IP
namespace IP
open PySem PySem.Spec PyProof.Rows L2
theorem rg_len {j : Int} : (intRange 0 j).length = j.toNat := by
  unfold intRange
  simp
theorem rg_at {j : Int} {i : Nat} {x : PyData} (e : (intRange 0 j)[i]? = some x) : x = .int (i : Int) ∧ i < j.toNat := by
  have hl := (List.getElem?_eq_some_iff.mp e).1
  rw [rg_len] at hl
  refine ⟨?_, hl⟩
  unfold intRange at e
  rw [Int.sub_zero, List.getElem?_map, List.getElem?_range hl] at e
  simpa using e.symm
noncomputable def clip (far x : Int) : Int := if (if x < far then x else far) > 0 - far then (if x < far then x else far) else 0 - far
theorem clip_sp {far x : Int} (h : 0 ≤ far) : -far ≤ clip far x ∧ clip far x ≤ far := by
  unfold clip
  split <;> split <;> omega
noncomputable def spc (far : Int) (p : Int × Int) : Int × Int := (clip far p.1, clip far p.2)
theorem spc_sp {far : Int} {p : Int × Int} (h : 0 ≤ far) : Spn far (spc far p) := by
  have := clip_sp (x := p.1) h
  have := clip_sp (x := p.2) h
  unfold Spn spc
  simp only
  omega
/-- a place is put at the end of a list that is made -/
structure Mk1 (n l fl : Nat) (far : Int) (S : Store) (i : Nat) (acc : List (Int × Int)) (S' : Store) : Prop where
  at_ : S'[fl]? = some (.lst (acc.map pl))
  len : acc.length = i
  sp : ∀ p, p ∈ acc → Spn far p
  pen : Pen n l S'
  fr : Fr l S S'
theorem Mk1.add {n m l fl : Nat} {far : Int} {S S' : Store} {i : Nat} {acc : List (Int × Int)} (h : Mk1 n l fl far S i acc S') (hn : n ≤ m) (h0 : 0 ≤ far) (hf : S.length ≤ fl) (hl : fl ≠ l) (p : Int × Int) : Mk1 m l fl far S (i + 1) (acc ++ [spc far p]) (S'.set fl (.lst (acc.map pl ++ [.tuple [.int (clip far p.1), .int (clip far p.2)]]))) := by
  have hlt : fl < S'.length := (List.getElem?_eq_some_iff.mp h.at_).1
  refine ⟨?_, by rw [List.length_append, h.len]; rfl, fun q hq => ?_, (h.pen.mono hn).set hl, h.fr.set_new hf⟩
  · rw [set_at hlt, List.map_append]
    rfl
  · rcases List.mem_append.mp hq with hq | hq
    · exact h.sp q hq
    · rw [List.mem_singleton.mp hq]
      exact spc_sp h0
theorem Mk1.step {n m l fl : Nat} {far : Int} {S S' S'' : Store} {i : Nat} {acc : List (Int × Int)} (h : Mk1 n l fl far S i acc S') (hl : fl ≠ l) (p : Pen m l S'') (f : Fr l S' S'') : Mk1 m l fl far S i acc S'' :=
  ⟨(f.at_ fl (List.getElem?_eq_some_iff.mp h.at_).1 hl).trans h.at_, h.len, h.sp, p, h.fr.trans f⟩
end IP
namespace IP
noncomputable def forBody (l : List IS) (i : Nat) : List IS := match l[i]? with
  | some (.for_ _ _ b) => b
  | some (.whl _ b) => b
  | _ => []
end IP
namespace IP
open PySem PySem.Spec PyProof.Rows L2
section
variable {W : Option Nat} {cf : CallF} {pt : Pt} {it a b : IE} {body : List IS} {s : Env} {S S1 S2 : Store} {xs : List PyData} {i j : Int} {Q : Fl → Store → Prop}
theorem sat_for (e : itO (evE cf it s S) = .ok xs S1) (h : (forL (stepF W cf pt body) xs s S1).sat Q) : (evS W cf (.for_ pt it body) s S).sat Q := by
  simp only [evS, e, Out.bind_ok]
  exact h
end
end IP
namespace IP
open PySem PySem.Spec PyProof.Rows L2
theorem canLay_pairs {A : Type} {h : A → PyData} (hh : ∀ a, (h a).canLay0 = true ∧ (h a).depth ≤ 60) : ∀ ls : List A, PyData.canLayAll0 (ls.map h) = true ∧ PyData.depthAll (ls.map h) ≤ 60
  | [] => ⟨rfl, Nat.zero_le _⟩
  | a :: ls => by
    obtain ⟨h1, h2⟩ := canLay_pairs hh ls
    obtain ⟨h3, h4⟩ := hh a
    exact ⟨by simp only [List.map_cons, PyData.canLayAll0, h1, h3, Bool.and_self], by simp only [List.map_cons, PyData.depthAll]; exact Nat.max_le.mpr ⟨h4, h2⟩⟩
theorem eq_nil {A : Type} {h : A → PyData} (hh : ∀ a, (h a).canLay0 = true ∧ (h a).depth ≤ 60) (ls : List A) : eqP (.list (ls.map h)) (.list []) = some (decide (ls = [])) := by
  obtain ⟨h1, h2⟩ := canLay_pairs hh ls
  have s1 : SeqAt.shaped (.list (ls.map h)) = true := by
    unfold SeqAt.shaped
    simp only [PyData.canLay0, PyData.depth, h1, Bool.true_and]
    exact decide_eq_true (by omega)
  have s2 : SeqAt.shaped (.list []) = true := by decide
  have e : eqP (.list (ls.map h)) (.list []) = if SeqAt.shaped (.list (ls.map h)) = true ∧ SeqAt.shaped (.list []) = true then some (PyData.eqv (.list (ls.map h)) (.list [])) else none := rfl
  rw [e, if_pos ⟨s1, s2⟩]
  cases ls <;> rfl
theorem lp_ok (a : Nat × Nat) : (lp a).canLay0 = true ∧ (lp a).depth ≤ 60 := ⟨rfl, by simp [lp, PyData.depth, PyData.depthAll]⟩
theorem pl_ok (a : Int × Int) : (pl a).canLay0 = true ∧ (pl a).depth ≤ 60 := ⟨rfl, by simp [pl, PyData.depth, PyData.depthAll]⟩
end IP
namespace IP
open PySem PySem.Spec PyProof.Rows L2
theorem bin_p18 : binP .pow (.int 10) (.int 18) = some (.int 1000000000000000000) := by
  unfold binP
  rfl
theorem idx_pl0 {p : Int × Int} : idxP (pl p) (.int 0) = some (.int p.1) := rfl
theorem idx_pl1 {p : Int × Int} : idxP (pl p) (.int 1) = some (.int p.2) := rfl
theorem idx_lp0 {p : Nat × Nat} : idxP (lp p) (.int 0) = some (.int (p.1 : Int)) := rfl
theorem idx_lp1 {p : Nat × Nat} : idxP (lp p) (.int 1) = some (.int (p.2 : Int)) := rfl
end IP
namespace IP
open PySem PySem.Spec PyProof.Rows L2
theorem bind_nm {i : Nat} {v : Val} {s : Env} : bindPt (.nm i) v s = if i < s.length then some (s.set i (some v)) else none := rfl
theorem bind_tp {ps : List Pt} {xs : List PyData} {s : Env} : bindPt (.tp ps) (.dat (.tuple xs)) s = bindPt.bindPts ps xs s := rfl
theorem bpts_nil {s : Env} : bindPt.bindPts [] [] s = some s := rfl
theorem bpts_cons {p : Pt} {ps : List Pt} {x : PyData} {xs : List PyData} {s : Env} : bindPt.bindPts (p :: ps) (x :: xs) s = match bindPt p (.dat x) s with
    | some s' => bindPt.bindPts ps xs s'
    | none => none := rfl
end IP
namespace IP
open PySem PySem.Spec PyProof.Rows L2
theorem Spn.bn {far : Int} {n : Nat} {L : List (Int × Int)} (h : ∀ p, p ∈ L → Spn far p) (hf : far < 2 ^ n) : Bn n L := fun p hp => by
  obtain ⟨h1, h2, h3, h4⟩ := h p hp
  have e : ((2 ^ n : Nat) : Int) = (2 : Int) ^ n := by simp
  omega
end IP
namespace IP
theorem it_bind {A : Type} {o : Out A} {f : A → Store → Out Val} : itO (o.bind f) = o.bind fun v S => itO (f v S) := by
  cases o <;> rfl
end IP
namespace IP
open PySem PySem.Spec PyProof.Rows L2
end IP
namespace IP
open PySem PySem.Spec PyProof.Rows L2
theorem fm2 (m : Nat) : (m : Int).fmod 2 = ((m % 2 : Nat) : Int) := by
  rw [Int.fmod_eq_emod_of_nonneg _ (by omega)]
  omega
section
variable {A : Type} {a b c d : A}
end
/-! runs -/
noncomputable abbrev Rn := Nat × Nat × Nat × Nat
noncomputable def rn (x : Rn) : PyData := .tuple [.int (x.1 : Int), .int (x.2.1 : Int), .int (x.2.2.1 : Int), .int (x.2.2.2 : Int)]
noncomputable def rns (r : List Rn) : PyData := .tuple (r.map rn)
structure Rok (n b : Nat) (x : Rn) : Prop where
  h1 : x.1 < n
  h2 : x.2.1 < n
  h3 : x.2.2.1 < n
  h4 : x.1 ≠ x.2.1
  h5 : x.1 ≠ x.2.2.1
  h6 : 0 < x.2.2.2
  h7 : x.2.2.2 < 2 ^ b
theorem Rok.mono {n b c : Nat} {x : Rn} (h : Rok n b x) (hb : b ≤ c) : Rok n c x := ⟨h.h1, h.h2, h.h3, h.h4, h.h5, h.h6, Nat.lt_of_lt_of_le h.h7 (Nat.pow_le_pow_right (by decide) hb)⟩
/-- the place behind a run -/
noncomputable def runP (p o q : Int × Int) (many : Nat) : Int × Int := (p.1 + ((many / 2 : Nat) : Int) * 2 * (q.1 - o.1), p.2 + ((many / 2 : Nat) : Int) * 2 * (q.2 - o.2))
noncomputable def runE (p o q : Int × Int) (many : Nat) : Int × Int := if many % 2 = 1 then bey (runP p o q many) o else runP p o q many
noncomputable def runD (l : List (Int × Int)) (x : Rn) : List (Int × Int) := l.set x.1 (runE (atL l x.1) (atL l x.2.1) (atL l x.2.2.1) x.2.2.2)
theorem runD_len {l : List (Int × Int)} {x : Rn} : (runD l x).length = l.length := List.length_set ..
theorem mul_lt {x y : Int} {a b : Nat} (h1 : x.natAbs < 2 ^ a) (h2 : y.natAbs < 2 ^ b) : (x * y).natAbs < 2 ^ (a + b) := by
  rw [Int.natAbs_mul, Nat.pow_add]
  exact Nat.mul_lt_mul'' h1 h2
theorem runP_one {n b m : Nat} {p o q : Int} (hp : p.natAbs < 2 ^ n) (ho : o.natAbs < 2 ^ n) (hq : q.natAbs < 2 ^ n) (hm : m < 2 ^ b) : (p + ((m / 2 : Nat) : Int) * 2 * (q - o)).natAbs < 2 ^ (n + b + 2) := by
  have h1 : (q - o).natAbs < 2 ^ (n + 1) := by
    rw [Nat.pow_succ]
    omega
  have h2 : (((m / 2 : Nat) : Int) * 2).natAbs < 2 ^ b := by omega
  have h3 := mul_lt h2 h1
  have e1 : 2 ^ (b + (n + 1)) = 2 * 2 ^ (n + b) := by rw [← Nat.pow_succ']; congr 1; omega
  have e2 : 2 ^ (n + b + 2) = 4 * 2 ^ (n + b) := by rw [Nat.pow_add]; omega
  have e3 : 2 ^ n ≤ 2 ^ (n + b) := Nat.pow_le_pow_right (by decide) (by omega)
  generalize ((m / 2 : Nat) : Int) * 2 * (q - o) = z at *
  omega
theorem runP_bn {n b m : Nat} {p o q : Int × Int} (hp : p.1.natAbs < 2 ^ n ∧ p.2.natAbs < 2 ^ n) (ho : o.1.natAbs < 2 ^ n ∧ o.2.natAbs < 2 ^ n) (hq : q.1.natAbs < 2 ^ n ∧ q.2.natAbs < 2 ^ n) (hm : m < 2 ^ b) : (runP p o q m).1.natAbs < 2 ^ (n + b + 2) ∧ (runP p o q m).2.natAbs < 2 ^ (n + b + 2) :=
  ⟨runP_one hp.1 ho.1 hq.1 hm, runP_one hp.2 ho.2 hq.2 hm⟩
theorem runD_bn {n b : Nat} {l : List (Int × Int)} {x : Rn} (h : Bn n l) (hx : Rok l.length b x) : Bn (n + b + 4) (runD l x) := fun p hp => by
  rcases List.mem_or_eq_of_mem_set hp with hp | rfl
  · exact (h.mono (by omega)) p hp
  · have h1 := runP_bn (h _ (at_mem hx.h1)) (h _ (at_mem hx.h2)) (h _ (at_mem hx.h3)) hx.h7
    have ho := h _ (at_mem hx.h2)
    have ho' : (atL l x.2.1).1.natAbs < 2 ^ (n + b + 2) ∧ (atL l x.2.1).2.natAbs < 2 ^ (n + b + 2) := (h.mono (show n ≤ n + b + 2 by omega)) _ (at_mem hx.h2)
    unfold runE
    split
    · exact bey_bd h1 ho'
    · have e : 2 ^ (n + b + 2) ≤ 2 ^ (n + b + 4) := Nat.pow_le_pow_right (by decide) (by omega)
      exact ⟨Nat.lt_of_lt_of_le h1.1 e, Nat.lt_of_lt_of_le h1.2 e⟩
theorem runs_ok {n b : Nat} : ∀ {r : List Rn} {l : List (Int × Int)}, Bn n l → (∀ x, x ∈ r → Rok l.length b x) → (r.foldl runD l).length = l.length ∧ Bn (n + (b + 4) * r.length) (r.foldl runD l)
  | [], l, h, _ => ⟨rfl, h⟩
  | x :: r, l, h, hr => by
    have h1 := runs_ok (n := n + b + 4) (r := r) (l := runD l x) (runD_bn h (hr x List.mem_cons_self)) fun y hy => by rw [runD_len]; exact hr y (List.mem_cons_of_mem _ hy)
    rw [List.foldl_cons, List.length_cons]
    refine ⟨h1.1.trans runD_len, h1.2.mono ?_⟩
    rw [Nat.mul_succ]
    omega
/-! a run is its leaps -/
noncomputable def alt (x : Rn) (n : Nat) : List (Nat × Nat) := (List.range n).map fun i => (x.1, if i % 2 = 0 then x.2.1 else x.2.2.1)
theorem at_set_ne {l : List (Int × Int)} {i j : Nat} {p : Int × Int} (h : i ≠ j) : atL (l.set i p) j = atL l j := by
  unfold atL
  rw [List.getD_eq_getElem?_getD, List.getElem?_set_ne h, List.getD_eq_getElem?_getD]
theorem at_set_same {l : List (Int × Int)} {i : Nat} {p : Int × Int} (h : i < l.length) : atL (l.set i p) i = p := by
  unfold atL
  rw [List.getD_eq_getElem?_getD, List.getElem?_set_self h]
  rfl
theorem runE_step (p o q : Int × Int) (m : Nat) : bey (runE p o q m) (if m % 2 = 0 then o else q) = runE p o q (m + 1) := by
  unfold runE
  by_cases h : m % 2 = 0
  · have e1 : ¬ m % 2 = 1 := by omega
    have e2 : (m + 1) % 2 = 1 := by omega
    have e3 : (m + 1) / 2 = m / 2 := by omega
    rw [if_pos h, if_neg e1, if_pos e2]
    unfold runP
    rw [e3]
  · have e1 : m % 2 = 1 := by omega
    have e2 : ¬ (m + 1) % 2 = 1 := by omega
    have e3 : (((m + 1) / 2 : Nat) : Int) = ((m / 2 : Nat) : Int) + 1 := by omega
    rw [if_neg h, if_pos e1, if_neg e2]
    unfold runP bey
    rw [e3]
    generalize ((m / 2 : Nat) : Int) = z
    ext
    · simp only [Int.add_mul, Int.mul_sub]
      omega
    · simp only [Int.add_mul, Int.mul_sub]
      omega
theorem runE_zero (p o q : Int × Int) : runE p o q 0 = p := by
  unfold runE runP
  ext <;> simp
theorem alt_ok {l : List (Int × Int)} {x : Rn} (h1 : x.1 < l.length) (h4 : x.1 ≠ x.2.1) (h5 : x.1 ≠ x.2.2.1) : ∀ n, (alt x n).foldl leap l = l.set x.1 (runE (atL l x.1) (atL l x.2.1) (atL l x.2.2.1) n)
  | 0 => by
    rw [runE_zero]
    show l = _
    apply List.ext_getElem?
    intro j
    rw [List.getElem?_set]
    split
    · rename_i e
      subst e
      exact at_lay h1
    · rfl
  | n + 1 => by
    have ih := alt_ok h1 h4 h5 n
    have e : alt x (n + 1) = alt x n ++ [(x.1, if n % 2 = 0 then x.2.1 else x.2.2.1)] := by
      unfold alt
      rw [List.range_succ, List.map_append]
      rfl
    rw [e, List.foldl_append, ih]
    show leap _ _ = _
    unfold leap
    simp only
    rw [at_set_same h1, List.set_set, ← runE_step]
    congr 2
    split
    · rw [at_set_ne h4]
    · rw [at_set_ne h5]
theorem run_leaps {l : List (Int × Int)} {x : Rn} {b : Nat} (h : Rok l.length b x) : (alt x x.2.2.2).foldl leap l = runD l x := alt_ok h.h1 h.h4 h.h5 _
end IP
namespace IP
open PySem PySem.Spec PyProof.Rows L2
theorem bin_p12 : binP .pow (.int 10) (.int 12) = some (.int 1000000000000) := by
  unfold binP
  rfl
theorem eq_nil_nil : eqP (.list []) (.list []) = some true := eq_nil (A := Nat × Nat) (h := lp) lp_ok []
theorem rg_map (n : Nat) : intRange 0 (n : Int) = (List.range n).map fun (i : Nat) => PyData.int (i : Int) := by
  unfold intRange
  simp
end IP
namespace IP
end IP
namespace IP
open PySem PySem.Spec PyProof.Rows L2
theorem perm10 {A : Type} {a b : A} : permute [1, 0] [a, b] = some [b, a] := rfl
theorem ap_at {S : Store} {o : Ob} : (S ++ [o])[S.length]? = some o := by simp
/-- the store with more behind -/
structure Ex (S S' : Store) : Prop where
  len : S.length ≤ S'.length
  at_ : ∀ m, m < S.length → S'[m]? = S[m]?
theorem Ex.refl {S : Store} : Ex S S := ⟨Nat.le_refl _, fun _ _ => rfl⟩
theorem Ex.push {S X : Store} : Ex S (S ++ X) := ⟨by simp, fun m h => List.getElem?_append_left h⟩
theorem Ex.trans {S S' S'' : Store} (a : Ex S S') (b : Ex S' S'') : Ex S S'' := ⟨Nat.le_trans a.len b.len, fun m h => (b.at_ m (Nat.lt_of_lt_of_le h a.len)).trans (a.at_ m h)⟩
theorem Ex.fr {l : Nat} {S S' : Store} (a : Ex S S') : Fr l S S' := ⟨a.len, fun m h _ => a.at_ m h⟩
theorem Ex.take {S S' : Store} (a : Ex S S') : Ex S (S'.take S.length) := ⟨by rw [List.length_take]; have := a.len; omega, fun m h => by rw [List.getElem?_take, if_pos h]; exact a.at_ m h⟩
theorem Ex.pen {n l : Nat} {S S' : Store} (a : Ex S S') (h : Pen n l S) : Pen n l S' := by
  obtain ⟨x, y, z, h1, h2⟩ := h.ex
  exact ⟨x, y, z, by rw [a.at_ l h.lt]; exact h1, h2⟩
theorem call_ex {P : List (Option FD)} {W : Option Nat} {k f : Nat} {vs : List Val} {S : Store} {d : FD} {R : Val → Prop} (h : P[f]? = some (some d)) (hl : vs.length = d.n)
    (b : (evSs W (callN P W k) d.body (vs.map some ++ List.replicate (d.m - d.n) none) S).sat fun r S' => R (retOf r) ∧ Ex S S') : (callN P W (k + 1) f vs S).sat fun v S' => R v ∧ Ex S S' :=
  call_sat h hl (sat_mono b fun r S' ⟨h1, h2⟩ => ⟨⟨h1, h2⟩, h1, h2.take⟩)
mutual
theorem eqv_self : ∀ p : PyData, p.canLay0 = true → PyData.eqv p p = true
  | .none, _ => rfl
  | .bool b, _ => by simp [PyData.eqv]
  | .int i, _ => by simp [PyData.eqv]
  | .str x, _ => by simp [PyData.eqv]
  | .list xs, h => by
    simp only [PyData.canLay0] at h
    simp only [PyData.eqv]
    exact eqv_selfs xs h
  | .tuple xs, h => by
    simp only [PyData.canLay0] at h
    simp only [PyData.eqv]
    exact eqv_selfs xs h
  | .dict kvs, h => by simp [PyData.canLay0] at h
theorem eqv_selfs : ∀ xs : List PyData, PyData.canLayAll0 xs = true → PyData.eqvAll xs xs = true
  | [], _ => rfl
  | x :: xs, h => by
    simp only [PyData.canLayAll0, Bool.and_eq_true] at h
    simp only [PyData.eqvAll, eqv_self x h.1, eqv_selfs xs h.2, Bool.and_self]
end
theorem eq_tup {A : Type} {h : A → PyData} (hh : ∀ a, (h a).canLay0 = true ∧ (h a).depth ≤ 60) (ls : List A) : eqP (.tuple (ls.map h)) (.tuple (ls.map h)) = some true := by
  obtain ⟨h1, h2⟩ := canLay_pairs hh ls
  have s1 : SeqAt.shaped (.tuple (ls.map h)) = true := by
    unfold SeqAt.shaped
    simp only [PyData.canLay0, PyData.depth, h1, Bool.true_and]
    exact decide_eq_true (by omega)
  have e : eqP (.tuple (ls.map h)) (.tuple (ls.map h)) = if SeqAt.shaped (.tuple (ls.map h)) = true ∧ SeqAt.shaped (.tuple (ls.map h)) = true then some (PyData.eqv (.tuple (ls.map h)) (.tuple (ls.map h))) else none := rfl
  rw [e, if_pos ⟨s1, s1⟩, eqv_self _ (by simp only [PyData.canLay0, h1])]
theorem rn_ok (a : Rn) : (rn a).canLay0 = true ∧ (rn a).depth ≤ 60 := ⟨rfl, by simp [rn, PyData.depth, PyData.depthAll]⟩
theorem eq_lay (l : List (Int × Int)) : eqP (lay l) (lay l) = some true := eq_tup pl_ok l
theorem eq_row (l : List (Nat × Nat)) : eqP (row l) (row l) = some true := eq_tup lp_ok l
theorem eq_rns (l : List Rn) : eqP (rns l) (rns l) = some true := eq_tup rn_ok l
noncomputable def bkR (x : Rn) : Rn := if x.2.2.2 % 2 = 1 then x else (x.1, x.2.2.1, x.2.1, x.2.2.2)
noncomputable def backR (r : List Rn) : List Rn := r.reverse.map bkR
theorem bkR_ok {n b : Nat} {x : Rn} (h : Rok n b x) : Rok n b (bkR x) := by
  unfold bkR
  split
  · exact h
  · exact ⟨h.h1, h.h3, h.h2, h.h5, h.h4, h.h6, h.h7⟩
theorem backR_ok {n b : Nat} {r : List Rn} (h : ∀ x, x ∈ r → Rok n b x) : ∀ x, x ∈ backR r → Rok n b x := fun x hx => by
  obtain ⟨y, hy, rfl⟩ := List.mem_map.mp hx
  exact bkR_ok (h y (List.mem_reverse.mp hy))
/-- the leaps of runs, how many -/
noncomputable def lvs (r : List Rn) : List (Nat × Nat) := (r.map fun x => alt x x.2.2.2).flatten
theorem alt_len {x : Rn} {n : Nat} : (alt x n).length = n := by
  unfold alt
  simp
theorem alt_mem {x : Rn} {n m b : Nat} (h : Rok m b x) : ∀ z, z ∈ alt x n → Lp m z := by
  intro z hz
  unfold alt at hz
  obtain ⟨j, _, rfl⟩ := List.mem_map.mp hz
  refine ⟨h.h1, ?_, ?_⟩
  · simp only
    split
    · exact h.h2
    · exact h.h3
  · simp only
    split
    · exact h.h4
    · exact h.h5
theorem lvs_mem {r : List Rn} {m b : Nat} (h : ∀ x, x ∈ r → Rok m b x) : ∀ z, z ∈ lvs r → Lp m z := by
  intro z hz
  unfold lvs at hz
  obtain ⟨l, hl, hz⟩ := List.mem_flatten.mp hz
  obtain ⟨x, hx, rfl⟩ := List.mem_map.mp hl
  exact alt_mem (h x hx) z hz
theorem lvs_ok {b : Nat} : ∀ {r : List Rn} {l : List (Int × Int)}, (∀ x, x ∈ r → Rok l.length b x) → (lvs r).foldl leap l = r.foldl runD l
  | [], _, _ => rfl
  | x :: r, l, h => by
    have e : lvs (x :: r) = alt x x.2.2.2 ++ lvs r := by
      unfold lvs
      rw [List.map_cons, List.flatten_cons]
    rw [e, List.foldl_append, run_leaps (h x List.mem_cons_self), List.foldl_cons]
    exact lvs_ok fun y hy => by rw [runD_len]; exact h y (List.mem_cons_of_mem _ hy)
end IP
namespace IP
theorem le_sum {x : Nat} : ∀ {l : List Nat}, x ∈ l → x ≤ l.sum
  | y :: l, h => by
    rw [List.sum_cons]
    rcases List.mem_cons.mp h with rfl | h
    · omega
    · have := le_sum h
      omega
end IP
namespace IP
open PySem PySem.Spec PyProof.Rows L2
theorem alt_get {x : Rn} {n i : Nat} : (alt x n)[i]? = if i < n then some (x.1, if i % 2 = 0 then x.2.1 else x.2.2.1) else none := by
  unfold alt
  rw [List.getElem?_map]
  by_cases h : i < n
  · rw [List.getElem?_range h, if_pos h]
    rfl
  · rw [List.getElem?_eq_none (by rw [List.length_range]; omega), if_neg h]
    rfl
theorem alt_back (x : Rn) : alt (bkR x) (bkR x).2.2.2 = (alt x x.2.2.2).reverse := by
  have e : (bkR x).2.2.2 = x.2.2.2 := by
    unfold bkR
    split <;> rfl
  rw [e]
  apply List.ext_getElem?
  intro i
  rw [alt_get]
  by_cases h : i < x.2.2.2
  · have q1 : x.2.2.2 - 1 - i < x.2.2.2 := by omega
    rw [List.getElem?_reverse (by rw [alt_len]; exact h), alt_len, alt_get]
    simp only [h, q1, if_true]
    unfold bkR
    by_cases hm : x.2.2.2 % 2 = 1
    · rw [if_pos hm]
      by_cases hi : i % 2 = 0
      · have hj : (x.2.2.2 - 1 - i) % 2 = 0 := by omega
        simp only [hi, hj, if_true]
      · have hj : ¬ (x.2.2.2 - 1 - i) % 2 = 0 := by omega
        simp only [hi, hj, if_false]
    · rw [if_neg hm]
      by_cases hi : i % 2 = 0
      · have hj : ¬ (x.2.2.2 - 1 - i) % 2 = 0 := by omega
        simp only [hi, hj, if_true, if_false]
      · have hj : (x.2.2.2 - 1 - i) % 2 = 0 := by omega
        simp only [hi, hj, if_true, if_false]
  · rw [if_neg h, List.getElem?_eq_none (by rw [List.length_reverse, alt_len]; omega)]
theorem lvs_back (r : List Rn) : lvs (backR r) = (lvs r).reverse := by
  unfold lvs backR
  rw [List.map_map, List.reverse_flatten, List.map_map, ← List.map_reverse]
  congr 1
  apply List.map_congr_left
  intro x _
  exact alt_back x
/-! leaps there and back -/
theorem bey_bey (p q : Int × Int) : bey (bey p q) q = p := by
  unfold bey
  ext <;> simp only <;> omega
theorem leap_leap {l : List (Int × Int)} {r : Nat × Nat} (h : Lp l.length r) : leap (leap l r) r = l := by
  unfold leap
  rw [at_set_same h.1, at_set_ne h.2.2, List.set_set, bey_bey]
  apply List.ext_getElem?
  intro j
  rw [List.getElem?_set]
  split
  · rename_i e
    subst e
    rw [if_pos h.1, at_lay h.1]
  · rfl
theorem back_ok : ∀ (r : List (Nat × Nat)) (l : List (Int × Int)), (∀ x, x ∈ r → Lp l.length x) → r.reverse.foldl leap (r.foldl leap l) = l
  | [], _, _ => rfl
  | x :: r, l, h => by
    have ih := back_ok r (leap l x) fun y hy => by rw [leap_len]; exact h y (List.mem_cons_of_mem _ hy)
    rw [List.foldl_cons, List.reverse_cons, List.foldl_append, ih]
    exact leap_leap (h x List.mem_cons_self)
theorem runs_there_back {b : Nat} {r : List Rn} {l : List (Int × Int)} (h : ∀ x, x ∈ r → Rok l.length b x) : (backR r).foldl runD (r.foldl runD l) = l := by
  have e : (r.foldl runD l).length = l.length := (runs_ok (n := (l.map fun p => p.1.natAbs + p.2.natAbs).sum) (b := b) (r := r) (l := l) (fun p hp => by
    have h1 : p.1.natAbs + p.2.natAbs ≤ (l.map fun p => p.1.natAbs + p.2.natAbs).sum := le_sum (List.mem_map_of_mem hp)
    have h2 := Nat.lt_two_pow_self (n := (l.map fun p => p.1.natAbs + p.2.natAbs).sum)
    omega) h).1
  rw [← lvs_ok (b := b) (by rw [e]; exact backR_ok h), lvs_back, ← lvs_ok h]
  exact back_ok _ _ (lvs_mem h)
end IP
namespace IP
open PySem PySem.Spec PyProof.Rows L2
theorem add_rns {a b : List Rn} : binP .add (rns a) (rns b) = if a.length + b.length ≤ sizeLine then some (rns (a ++ b)) else none := by
  have e : binP .add (rns a) (rns b) = if (a.map rn).length + (b.map rn).length ≤ sizeLine then some (.tuple (a.map rn ++ b.map rn)) else none := rfl
  rw [e, List.length_map, List.length_map]
  unfold rns
  rw [List.map_append]
/-- numbers that are left, each once -/
noncomputable def nums (ts : List Nat) : List PyData := ts.map fun (i : Nat) => PyData.int (i : Int)
end IP
namespace IP
open PySem PySem.Spec PyProof.Rows L2
/-- two runs in the making -/
structure Two (b l tl ul : Nat) (ts : List Nat) (as : List Nat) (S0 : Store) (m : Nat) (i : Nat) (acc : List Rn) (S : Store) : Prop where
  u : S[ul]? = some (.lst (acc.map rn))
  t : S[tl]? = some (.lst (nums ts))
  p : Pen m l S
  f : Fr l S0 S
  n : acc.length = i
  a : ∀ (j : Nat) x, acc[j]? = some x → as[j]? = some x.1 ∧ x.2.1 ∈ ts ∧ x.2.2.1 ∈ ts ∧ 0 < x.2.2.2 ∧ x.2.2.2 < 2 ^ b
end IP
namespace IP
open PySem PySem.Spec PyProof.Rows L2
end IP
namespace IP
open PySem PySem.Spec PyProof.Rows L2

/-! ### a law that looks at the script -/
noncomputable def noList (K : PySem.W.Frag) : Bool := K.all fun p => match p.2.cls with
  | .type n => !(n == "list")
  | _ => true
theorem lookup_mem {K : PySem.W.Frag} {a : Addr} {o : Obj} (h : K.lookup a = some o) : ∃ b, (b, o) ∈ K := by
  induction K with
  | nil => cases h
  | cons p K ih =>
    obtain ⟨b, u⟩ := p
    rw [List.lookup_cons] at h
    split at h
    · cases h
      exact ⟨b, List.mem_cons_self⟩
    · obtain ⟨c, hc⟩ := ih h
      exact ⟨c, List.mem_cons_of_mem _ hc⟩
theorem no_list {K : PySem.W.Frag} {a : Addr} {o : Obj} (h : noList K = true) (e : K.lookup a = some o) : o.cls ≠ .type "list" := fun z => by
  obtain ⟨b, hb⟩ := lookup_mem e
  have := List.all_eq_true.mp h _ hb
  simp only [z] at this
  exact absurd this (by decide)
noncomputable def spScr (T : List (Addr × Str)) : Sp := fun vs H Q E => ∃ (a : Addr) (o : Obj) (ns : List Int), vs = [V.ref a] ∧ ns.length ≤ 63 ∧ H a = some (.frz o (.lst (ns.map V.int))) ∧ LamX.Tabs T H ∧ ∀ v H', v = V.bl true → Q v H'
theorem tabs_scr {ms : List (Addr × Addr × Str)} {a : Addr} {vs : List Value} {ns : List Int} (na : ∀ y ∈ ms, y.2.1 ≠ a) : LamX.Tabs (ms.map fun x => (x.2.1, lamN x.2.2)) (scrT ms a vs ns) := fun p hp => by
  obtain ⟨y, hy, rfl⟩ := List.mem_map.mp hp
  exact .nil ((if_neg (na y hy)).trans (if_pos (List.mem_map.mpr ⟨y, hy, rfl⟩)))
theorem walk_scr {l : PySem.W.OpenLaw} {k : Nat} {q : Program} {loose : List Str} {XP : (Str → Option Value) → Heap → Prop} {YP : World → Heap → Prop} {d : DefRec} {K : Params → PySem.W.Frag} {x : Str}
    (hi : importsNone q = true) (hn : l.most = some 63) (hdf : d.params.defaults = []) (hr : Room k callerA)
    (hY : ∀ (w : World) (h : Heap), YP w h → (K w.params).In h)
    (F : ∀ (w : World) (mg : Str → Option Value) (fa : Addr) (h : Heap), YP w h → (K w.params).In h → h.Ns mainGlobals mg → mg d.name = some (.ref fa) →
      ∃ (ms : List (Addr × Addr × Str)) (fd : FuncData), (∀ y ∈ ms, h.get? y.2.1 = some { cls := .none, data := .fields #[] }) ∧ (∀ y ∈ ms, (K w.params).lookup y.2.1 = none) ∧ (∀ y ∈ ms, PySem.W.CodeHd h y.1 y.2.1) ∧ (∀ (s : Shared) (u : Value), (K w.params).In s.heap → BindsTo s fd ⟨[u], []⟩ [(x, u)]) ∧
        ∀ base : Heap, (K w.params).In base → base.Ns mainGlobals mg → Sys base → (∀ y ∈ ms, LamX.TabB base mg y.1 y.2.1) → FnG l.prog w (K w.params) mg base (L2.CX l.prog w) k fa fd 1 [x] (spScr (ms.map fun x => (x.2.1, lamN x.2.2))))
    (nl : ∀ P, noList (K P) = true) :
    PySem.W.WalkO q loose XP YP l.row.toRowW d [] (fun f vs => PySem.call f vs) := by
  refine Att.attach_call hn hdf fun w s₀ s₁ mg mb fa o pm cd doc a vs ns G Y ho hd hcd hmg hobj hints hlen hg => ?_
  have KX := hY w _ Y
  obtain ⟨ms, fd, hts, nk, ch, hb, hF⟩ := F w mg fa _ Y KX G.T.g hmg
  have hk : (K w.params).lookup a = none := by
    cases e : (K w.params).lookup a with
    | none => rfl
    | some u =>
      have h1 := KX a u e
      rw [hobj] at h1
      cases h1
      exact absurd rfl (no_list (nl _) e)
  have noT : ∀ y ∈ ms, y.2.1 ≠ a := fun y hy z => by
    have e1 := hts y hy
    rw [z, hobj] at e1
    exact nomatch (show Data.seq vs.toArray _ = Data.fields #[] from congrArg Obj.data (Option.some.inj e1))
  exact law_goT KX G.T.g G.T.b G.T.builtins G.T.nolimit (G.T.seer hi) hg hobj hints (Nat.le_trans hlen (by rw [sizeLine_eq]; omega)) hr hk hts nk ch G.T.bmain hF hb ⟨a, _, ns, rfl, hlen, if_pos rfl, tabs_scr noT, fun v H' e => e⟩
theorem script_imp {G : GC} {g : List Val → Store → Out Val} (h : ∀ ns : List Int, ns.length ≤ 63 → ∃ S', g [.ref 0] [.frz (ns.map .int)] = .ok (.dat (.bool true)) S') : ∀ vs H Q E, spScr G.tb vs H Q E → spC G 1 g vs H Q E := by
  rintro vs H Q E ⟨a, u, ns, rfl, hl, hA, hT, q⟩
  obtain ⟨S', e⟩ := h ns hl
  have one : ∀ (l : Nat) (o : Ob), ([.frz (ns.map .int)] : Store)[l]? = some o → l = 0 ∧ o = .frz (ns.map .int) := fun l o e => by
    cases l with
    | zero => exact ⟨rfl, by simpa using e.symm⟩
    | succ l => simp at e
  refine ⟨fun _ => False, fun _ => a, [.frz (ns.map .int)], [.ref 0], ⟨fun _ z => z.elim, fun l o e => ?_, fun l l' o o' e e' _ _ _ => (one l o e).1.trans (one l' o' e').1.symm, fun l o _ _ z => z, fun _ _ z => z.elim, hT⟩, .cons ⟨rfl, by simp⟩ .nil, rfl, ?_⟩
  · obtain ⟨rfl, rfl⟩ := one l o e
    exact ⟨_, _, hA, RpL.ints ns⟩
  · rw [e]
    intro w F' loc' H' n r
    cases (show Rp G.K F' H' w (.bool true) from r)
    exact q _ _ rfl
end IP
/-! the classes of refusals, from the written part -/
namespace IP
open PySem PySem.Spec PyProof.Rows L2
end IP
namespace IP
open PySem PySem.Spec PyProof.Rows L2

/-! ### a law that draws by cells, so many laps each -/
end IP
namespace IP
open PySem PySem.Spec PyProof.Rows L2
noncomputable def cellsOf (cellF penF : Nat) (N : Int) (body : List IS) : List IS :=
  [.for_ (.nm 1) (.rg1 (.bf .max2 [.cst (.int 1), .bf .min2 [.bf .len [.var 0], .cst (.int N)]])) (.asg (.nm 2) (.call penF [.call cellF [.var 0, .var 1] []] []) :: body), .ret (.cst (.bool true))]
end IP
/-! nets in the plane, by plain numbers -/
namespace Net
noncomputable abbrev P2 := Int × Int
noncomputable def det (u v : P2) : Int := u.1 * v.2 - u.2 * v.1
/-- all that ways span -/
inductive Sn (ws : List P2) : P2 → Prop
  | zero : Sn ws (0, 0)
  | add {v w : P2} (k : Int) : Sn ws v → w ∈ ws → Sn ws (v.1 + k * w.1, v.2 + k * w.2)
section
variable {ws bs : List P2} {u v w : P2} {d : Int}
theorem Sn.mem (h : w ∈ ws) : Sn ws w := by
  have := Sn.add (ws := ws) 1 .zero h
  simpa using this
theorem Sn.plus (hu : Sn ws u) (hv : Sn ws v) : Sn ws (u.1 + v.1, u.2 + v.2) := by
  induction hv with
  | zero => simpa using hu
  | add k _ hw ih =>
    have := Sn.add k ih hw
    simp only at this ⊢
    rw [← Int.add_assoc, ← Int.add_assoc]
    exact this
theorem Sn.times (k : Int) (hv : Sn ws v) : Sn ws (k * v.1, k * v.2) := by
  induction hv with
  | zero => simpa using Sn.zero
  | add m _ hw ih =>
    have := Sn.add (k * m) ih hw
    simp only at this ⊢
    rw [Int.mul_add, Int.mul_add, ← Int.mul_assoc, ← Int.mul_assoc]
    exact this
theorem Sn.lin (a b : Int) (hu : Sn ws u) (hv : Sn ws v) : Sn ws (a * u.1 + b * v.1, a * u.2 + b * v.2) := (hu.times a).plus (hv.times b)
theorem Sn.trans (h : ∀ w, w ∈ ws → Sn bs w) (hv : Sn ws v) : Sn bs v := by
  induction hv with
  | zero => exact .zero
  | add k _ hw ih => exact ih.plus ((h _ hw).times k)
theorem Sn.dvd1 (h : ∀ w, w ∈ ws → d ∣ w.1) (hv : Sn ws v) : d ∣ v.1 := by
  induction hv with
  | zero => exact Int.dvd_zero d
  | add k _ hw ih => exact Int.dvd_add ih (Int.dvd_mul_of_dvd_right (h _ hw))
theorem Sn.dvd2 (h : ∀ w, w ∈ ws → d ∣ w.2) (hv : Sn ws v) : d ∣ v.2 := by
  induction hv with
  | zero => exact Int.dvd_zero d
  | add k _ hw ih => exact Int.dvd_add ih (Int.dvd_mul_of_dvd_right (h _ hw))
theorem det_add (k : Int) : det u (v.1 + k * w.1, v.2 + k * w.2) = det u v + k * det u w := by
  unfold det
  simp only [Int.mul_add, Int.mul_sub]
  rw [Int.mul_left_comm u.1 k w.2, Int.mul_left_comm u.2 k w.1]
  omega
theorem det_swap : det v u = - det u v := by
  unfold det
  rw [Int.mul_comm v.1 u.2, Int.mul_comm v.2 u.1]
  omega
theorem Sn.dvd_det1 (h : ∀ w, w ∈ ws → d ∣ det u w) (hv : Sn ws v) : d ∣ det u v := by
  induction hv with
  | zero =>
    unfold det
    simp
  | add k _ hw ih =>
    rw [det_add]
    exact Int.dvd_add ih (Int.dvd_mul_of_dvd_right (h _ hw))
theorem Sn.dvd_det (h : ∀ u, u ∈ ws → ∀ w, w ∈ ws → d ∣ det u w) (hu : Sn ws u) (hv : Sn ws v) : d ∣ det u v := by
  refine Sn.dvd_det1 (fun w hw => ?_) hv
  rw [det_swap]
  exact Int.dvd_neg.mpr (Sn.dvd_det1 (fun x hx => h w hw x hx) hu)
end
/-! what divides all numbers, all pairs -/
noncomputable def D1 (ws : List P2) (d : Int) : Prop := ∀ w, w ∈ ws → d ∣ w.1
noncomputable def D2 (ws : List P2) (d : Int) : Prop := ∀ w, w ∈ ws → d ∣ w.2
noncomputable def DD (ws : List P2) (d : Int) : Prop := ∀ u, u ∈ ws → ∀ w, w ∈ ws → d ∣ det u w
/-- one spans the other -/
noncomputable def Le (ws bs : List P2) : Prop := ∀ w, w ∈ ws → Sn bs w
theorem Le.d1 {ws bs : List P2} {d : Int} (h : Le ws bs) (k : D1 bs d) : D1 ws d := fun w hw => Sn.dvd1 k (h w hw)
theorem Le.d2 {ws bs : List P2} {d : Int} (h : Le ws bs) (k : D2 bs d) : D2 ws d := fun w hw => Sn.dvd2 k (h w hw)
theorem Le.dd {ws bs : List P2} {d : Int} (h : Le ws bs) (k : DD bs d) : DD ws d := fun u hu w hw => Sn.dvd_det k (h u hu) (h w hw)
theorem Le.refl {ws : List P2} : Le ws ws := fun w hw => Sn.mem hw
theorem Le.trans {ws bs cs : List P2} (a : Le ws bs) (b : Le bs cs) : Le ws cs := fun w hw => Sn.trans b (a w hw)
theorem Le.snoc {ws bs : List P2} {v : P2} (a : Le ws bs) (h : Sn bs v) : Le (ws ++ [v]) bs := fun w hw => by
  rcases List.mem_append.mp hw with hw | hw
  · exact a w hw
  · rw [List.mem_singleton.mp hw]
    exact h
theorem Le.left {ws bs : List P2} : Le ws (ws ++ bs) := fun w hw => Sn.mem (List.mem_append_left _ hw)
/-! the greatest numbers -/
/-- g is the greatest number that divides as told -/
noncomputable def IsG (p : Int → Prop) (g : Nat) : Prop := ∀ d : Int, d ∣ (g : Int) ↔ p d
theorem IsG.uniq {p : Int → Prop} {g h : Nat} (a : IsG p g) (b : IsG p h) : g = h := by
  have h1 : (g : Int) ∣ (h : Int) := (b _).mpr ((a _).mp (Int.dvd_refl _))
  have h2 : (h : Int) ∣ (g : Int) := (a _).mpr ((b _).mp (Int.dvd_refl _))
  exact Nat.dvd_antisymm (Int.natCast_dvd_natCast.mp h1) (Int.natCast_dvd_natCast.mp h2)
theorem IsG.congr {p q : Int → Prop} {g : Nat} (a : IsG p g) (h : ∀ d, p d ↔ q d) : IsG q g := fun d => (a d).trans (h d)
/-! a basis: one step, or two of which the second goes up -/
theorem two_sn {x y z : Int} {v : P2} : Sn [(x, y), (0, z)] v ↔ ∃ a b : Int, v = (a * x, a * y + b * z) := by
  constructor
  · intro h
    induction h with
    | zero => exact ⟨0, 0, by simp⟩
    | add k _ hw ih =>
      obtain ⟨a, b, e⟩ := ih
      rw [e]
      simp only [List.mem_cons, List.not_mem_nil, or_false] at hw
      rcases hw with rfl | rfl
      · exact ⟨a + k, b, by ext <;> simp only [Int.add_mul] <;> omega⟩
      · exact ⟨a, b + k, by ext <;> simp only [Int.add_mul, Int.mul_zero] <;> omega⟩
  · rintro ⟨a, b, rfl⟩
    have := Sn.lin a b (Sn.mem (ws := [(x, y), (0, z)]) (w := (x, y)) (by simp)) (Sn.mem (w := (0, z)) (by simp))
    simpa using this
theorem one_sn {x y : Int} {v : P2} : Sn [(x, y)] v ↔ ∃ a : Int, v = (a * x, a * y) := by
  constructor
  · intro h
    induction h with
    | zero => exact ⟨0, by simp⟩
    | add k _ hw ih =>
      obtain ⟨a, e⟩ := ih
      rw [e]
      rw [List.mem_singleton.mp hw]
      exact ⟨a + k, by ext <;> simp only [Int.add_mul]⟩
  · rintro ⟨a, rfl⟩
    exact (Sn.mem (ws := [(x, y)]) (w := (x, y)) (by simp)).times a
end Net
namespace IP
open PySem PySem.Spec PyProof.Rows L2

/-! ### a while that ends -/
section
variable {c : Env → Store → Out Bool} {b : Env → Store → Out Fl} {s : Env} {S : Store} {Q : Fl → Store → Prop}
end
end IP
namespace Net
/-! the remainder way -/
end Net
namespace Net
end Net
namespace IP
open PySem PySem.Spec PyProof.Rows L2
noncomputable def waysOf (l : List (Int × Int)) : List (Int × Int) := l.map fun p => (p.1 - (atL l 0).1, p.2 - (atL l 0).2)
end IP
namespace Net
end Net
namespace IP
open PySem PySem.Spec PyProof.Rows L2
/-! a step with its numbers, as the program keeps it -/
structure Rw where
  p : Int × Int
  ns : List Int
noncomputable def rw_ (r : Rw) : PyData := .tuple [pl r.p, .tuple (r.ns.map .int)]
/-- a row so often another one added -/
noncomputable def sumR (r q : Rw) (m : Int) : Rw := ⟨(r.p.1 + m * q.p.1, r.p.2 + m * q.p.2), List.zipWith (fun a b => a + m * b) r.ns q.ns⟩
noncomputable def timR (r : Rw) (m : Int) : Rw := ⟨(0 + m * r.p.1, 0 + m * r.p.2), r.ns.map fun a => m * a⟩
/-- all numbers of a row are within so many bits -/
noncomputable def Rb (n : Nat) (r : Rw) : Prop := r.p.1.natAbs < 2 ^ n ∧ r.p.2.natAbs < 2 ^ n ∧ ∀ a, a ∈ r.ns → a.natAbs < 2 ^ n
theorem Rb.mono {n m : Nat} {r : Rw} (h : Rb n r) (hn : n ≤ m) : Rb m r := by
  have e := Nat.pow_le_pow_right (n := 2) (by decide) hn
  exact ⟨Nat.lt_of_lt_of_le h.1 e, Nat.lt_of_lt_of_le h.2.1 e, fun a ha => Nat.lt_of_lt_of_le (h.2.2 a ha) e⟩
end IP
namespace Net
/-- one step of the remainder way: what grows is kept below by what gets less -/
theorem euc {B x F t r : Nat} (e : x = t * F + r) (hr : r < F) : B * (1 + t) * (F * r) ≤ B * (x * F) := by
  have h1 : (1 + t) * r ≤ x := by
    rw [e, Nat.add_mul, Nat.one_mul]
    have := Nat.mul_le_mul_left t (Nat.le_of_lt hr)
    omega
  calc B * (1 + t) * (F * r) = B * ((1 + t) * r * F) := by rw [Nat.mul_assoc, Nat.mul_comm F r, Nat.mul_assoc (1 + t)]
    _ ≤ B * (x * F) := Nat.mul_le_mul_left B (Nat.mul_le_mul_right F h1)
end Net
namespace IP
open PySem
end IP
namespace IP
open PySem PySem.Spec PyProof.Rows L2
theorem kob_0 {a b : Val} : [(0, a), (1, b)].lookup (0 : Nat) = some a := rfl
theorem kob_1 {a b : Val} : [(0, a), (1, b)].lookup (1 : Nat) = some b := rfl
theorem kput_0 {a b v : Val} : putFd 0 v [(0, a), (1, b)] = [(0, v), (1, b)] := rfl
theorem kput_1 {a b v : Val} : putFd 1 v [(0, a), (1, b)] = [(0, a), (1, v)] := rfl
theorem idx_rw0 {r : Rw} : idxP (rw_ r) (.int 0) = some (pl r.p) := rfl
/-- all numbers of a row are at most so great -/
noncomputable def Rm (B : Nat) (r : Rw) : Prop := r.p.1.natAbs ≤ B ∧ r.p.2.natAbs ≤ B ∧ ∀ a, a ∈ r.ns → a.natAbs ≤ B
theorem Rm.mono {B C : Nat} {r : Rw} (h : Rm B r) (k : B ≤ C) : Rm C r := ⟨Nat.le_trans h.1 k, Nat.le_trans h.2.1 k, fun a ha => Nat.le_trans (h.2.2 a ha) k⟩
theorem Rm.rb {B n : Nat} {r : Rw} (h : Rm B r) (k : B < 2 ^ n) : Rb n r := ⟨Nat.lt_of_le_of_lt h.1 k, Nat.lt_of_le_of_lt h.2.1 k, fun a ha => Nat.lt_of_le_of_lt (h.2.2 a ha) k⟩
theorem add_mul_le {a m b : Int} {B : Nat} (h1 : a.natAbs ≤ B) (h2 : b.natAbs ≤ B) : (a + m * b).natAbs ≤ B * (1 + m.natAbs) := by
  have h3 : (m * b).natAbs ≤ m.natAbs * B := by
    rw [Int.natAbs_mul]
    exact Nat.mul_le_mul_left _ h2
  have h4 : B * (1 + m.natAbs) = B + m.natAbs * B := by rw [Nat.mul_add, Nat.mul_one, Nat.mul_comm B]
  generalize m * b = z at *
  omega
noncomputable def pts : Option Rw → List (Int × Int)
  | none => []
  | some r => [r.p]
end IP
namespace Net
/-- a step and another one so often: the same span -/
theorem pair_swap {p q : P2} {m : Int} : Le [q, (p.1 + m * q.1, p.2 + m * q.2)] [q, p] ∧ Le [q, p] [q, (p.1 + m * q.1, p.2 + m * q.2)] := by
  constructor
  · intro w hw
    simp only [List.mem_cons, List.not_mem_nil, or_false] at hw
    rcases hw with rfl | rfl
    · exact Sn.mem (by simp)
    · have := Sn.lin 1 m (Sn.mem (ws := [q, p]) (w := p) (by simp)) (Sn.mem (w := q) (by simp))
      simpa using this
  · intro w hw
    simp only [List.mem_cons, List.not_mem_nil, or_false] at hw
    rcases hw with rfl | rfl
    · exact Sn.mem (by simp)
    · have := Sn.lin 1 (-m) (Sn.mem (ws := [q, (w.1 + m * q.1, w.2 + m * q.2)]) (w := (w.1 + m * q.1, w.2 + m * q.2)) (by simp)) (Sn.mem (w := q) (by simp))
      simp only [Int.one_mul, Int.neg_mul] at this
      have e : (w.1 + m * q.1 + -(m * q.1), w.2 + m * q.2 + -(m * q.2)) = w := by
        ext <;> simp only <;> omega
      rw [e] at this
      exact this
theorem Le.swap {p q : P2} : Le [p, q] [q, p] := fun w hw => Sn.mem (by simp only [List.mem_cons, List.not_mem_nil, or_false] at hw ⊢; exact hw.symm)
/-- the first step of the remainder way, whatever the sign -/
theorem euc0 {B F : Nat} {z t : Int} {r : Nat} (e : z = t * F + r) (hr : r < F) : B * (1 + t.natAbs) * (F * r) ≤ B * (F * (2 * F + z.natAbs)) := by
  have h1 : (1 + t.natAbs) * r ≤ 2 * F + z.natAbs := by
    have h2 : t.natAbs * F ≤ F + z.natAbs := by
      have : ((t.natAbs * F : Nat) : Int) = t.natAbs * F := by simp
      rcases Int.le_total 0 t with h | h
      · have e2 : ((t.natAbs : Nat) : Int) = t := by omega
        have : ((t.natAbs * F : Nat) : Int) = t * F := by rw [Int.natCast_mul, e2]
        generalize t * (F : Int) = tf at *
        omega
      · have e2 : ((t.natAbs : Nat) : Int) = -t := by omega
        have : ((t.natAbs * F : Nat) : Int) = -(t * F) := by rw [Int.natCast_mul, e2, Int.neg_mul]
        generalize t * (F : Int) = tf at *
        omega
    have h3 : t.natAbs * r ≤ t.natAbs * F := Nat.mul_le_mul_left _ (Nat.le_of_lt hr)
    rw [Nat.add_mul, Nat.one_mul]
    omega
  calc B * (1 + t.natAbs) * (F * r) = B * (F * ((1 + t.natAbs) * r)) := by rw [Nat.mul_assoc, Nat.mul_left_comm (1 + t.natAbs) F r]
    _ ≤ B * (F * (2 * F + z.natAbs)) := Nat.mul_le_mul_left B (Nat.mul_le_mul_left F h1)
end Net
namespace IP
open PySem PySem.Spec PyProof.Rows L2
/-- a basis in the making, of steps straight up -/
structure Lw (C : Rw → Prop) (g : Option Rw) : Prop where
  z : ∀ q, g = some q → q.p.1 = 0 ∧ 0 < q.p.2 ∧ C q
/-- the one number that gets less is within a bits, all others within b -/
noncomputable def Mb (a b : Nat) (r : Rw) : Prop := r.p.2.natAbs < 2 ^ a ∧ r.p.1.natAbs < 2 ^ b ∧ ∀ x, x ∈ r.ns → x.natAbs < 2 ^ b
theorem Mb.mono {a a' b b' : Nat} {r : Rw} (h : Mb a b r) (ha : a ≤ a') (hb : b ≤ b') : Mb a' b' r := by
  have e1 := Nat.pow_le_pow_right (n := 2) (by decide) ha
  have e2 := Nat.pow_le_pow_right (n := 2) (by decide) hb
  exact ⟨Nat.lt_of_lt_of_le h.1 e1, Nat.lt_of_lt_of_le h.2.1 e2, fun x hx => Nat.lt_of_lt_of_le (h.2.2 x hx) e2⟩
theorem Mb.rb {a b n : Nat} {r : Rw} (h : Mb a b r) (ha : a ≤ n) (hb : b ≤ n) : Rb n r :=
  ⟨Nat.lt_of_lt_of_le h.2.1 (Nat.pow_le_pow_right (by decide) hb), Nat.lt_of_lt_of_le h.1 (Nat.pow_le_pow_right (by decide) ha), fun x hx => Nat.lt_of_lt_of_le (h.2.2 x hx) (Nat.pow_le_pow_right (by decide) hb)⟩
/-- all but the one are at most so great -/
noncomputable def Ro (B : Nat) (r : Rw) : Prop := r.p.1.natAbs ≤ B ∧ ∀ a, a ∈ r.ns → a.natAbs ≤ B
theorem Ro.mono {B C : Nat} {r : Rw} (h : Ro B r) (k : B ≤ C) : Ro C r := ⟨Nat.le_trans h.1 k, fun a ha => Nat.le_trans (h.2 a ha) k⟩
theorem sum_ro {B : Nat} {r q : Rw} {m : Int} (h1 : Ro B r) (h2 : Ro B q) : Ro (B * (1 + m.natAbs)) (sumR r q m) := by
  refine ⟨add_mul_le h1.1 h2.1, fun a ha => ?_⟩
  unfold sumR at ha
  obtain ⟨i, hi, rfl⟩ := List.mem_iff_getElem.mp ha
  rw [List.getElem_zipWith]
  exact add_mul_le (h1.2 _ (List.getElem_mem _)) (h2.2 _ (List.getElem_mem _))
theorem Mb.ro {a b : Nat} {r : Rw} (h : Mb a b r) : Ro (2 ^ b - 1) r := ⟨by have := h.2.1; omega, fun x hx => by have := h.2.2 x hx; omega⟩
/-- how great the numbers may be on the way -/
inductive Ph (a b : Nat) : Option Rw → Rw → Prop
  | beg {g : Option Rw} {r : Rw} : Mb a b r → (∀ q, g = some q → Mb a b q) → Ph a b g r
  | mid {q r : Rw} (B : Nat) : Ro B r → Ro B q → r.p.2.natAbs < 2 ^ a → q.p.2.natAbs < 2 ^ a → 0 < r.p.2 → 0 < q.p.2 → B * (r.p.2.natAbs * q.p.2.natAbs) ≤ 2 ^ (b + 2 * a + 2) → Ph a b (some q) r
  | fin {g : Option Rw} {r : Rw} : r.p.2 = 0 → (∀ q, g = some q → Mb a (b + 2 * a + 3) q) → Ph a b g r
theorem ro_mb {a b B : Nat} {r : Rw} (h : Ro B r) (h1 : r.p.2.natAbs < 2 ^ a) (k : B < 2 ^ b) : Mb a b r := ⟨h1, Nat.lt_of_le_of_lt h.1 k, fun x hx => Nat.lt_of_le_of_lt (h.2 x hx) k⟩
theorem mid_lt {a b B x y : Nat} (hx : 0 < x) (hy : 0 < y) (h : B * (x * y) ≤ 2 ^ (b + 2 * a + 2)) : B < 2 ^ (b + 2 * a + 3) := by
  have p1 : 1 ≤ x * y := Nat.mul_pos hx hy
  have p2 : B * 1 ≤ B * (x * y) := Nat.mul_le_mul_left B p1
  have p3 : 2 ^ (b + 2 * a + 2) < 2 ^ (b + 2 * a + 3) := Nat.pow_lt_pow_right (by decide) (by omega)
  omega
theorem ph_low {a b : Nat} {g : Option Rw} {r : Rw} (h : Ph a b g r) : ∀ q, g = some q → Mb a (b + 2 * a + 3) q := by
  cases h with
  | beg h1 h2 => exact fun q e => (h2 q e).mono (Nat.le_refl _) (by omega)
  | @mid q r B h1 h2 h6 h7 h3 h4 h5 =>
    intro q' e
    cases e
    exact ro_mb h2 h7 (mid_lt (by omega) (by omega) h5)
  | fin h1 h2 => exact h2
theorem ph_row {a b : Nat} {q r : Rw} (h : Ph a b (some q) r) (h0 : r.p.2 ≠ 0) : Mb a (b + 2 * a + 3) r := by
  cases h with
  | beg h1 h2 => exact h1.mono (Nat.le_refl _) (by omega)
  | mid B h1 h2 h6 h7 h3 h4 h5 => exact ro_mb h1 h6 (mid_lt (by omega) (by omega) h5)
  | fin h1 h2 => exact absurd h1 h0
/-- one turn -/
theorem ph_turn {a b : Nat} {q r : Rw} {t : Int} (h : Ph a b (some q) r) (hq : 0 < q.p.2) (h0 : r.p.2 ≠ 0) (ht : t = r.p.2.fdiv q.p.2) (hz : 0 < (sumR r q (0 - t)).p.2) : Ph a b (some (sumR r q (0 - t))) q := by
  have e := Int.mul_fdiv_add_fmod r.p.2 q.p.2
  have f1 := fm_ge (x := r.p.2) hq
  have f2 := fm_lt (x := r.p.2) hq
  have ez : (sumR r q (0 - t)).p.2 = r.p.2.fmod q.p.2 := by
    show r.p.2 + (0 - t) * q.p.2 = _
    rw [Int.zero_sub, Int.neg_mul, ht, Int.mul_comm]
    omega
  rw [ez] at hz
  have en : (0 - t).natAbs = t.natAbs := by omega
  have e2 : r.p.2 = t * (q.p.2.natAbs : Int) + ((r.p.2.fmod q.p.2).natAbs : Int) := by
    rw [ht]
    have e3 : ((q.p.2.natAbs : Nat) : Int) = q.p.2 := by omega
    have e4 : (((r.p.2.fmod q.p.2).natAbs : Nat) : Int) = r.p.2.fmod q.p.2 := by omega
    rw [e3, e4, Int.mul_comm]
    omega
  cases h with
  | beg h1 h2 =>
    have h2 := h2 q rfl
    have p0 : 1 ≤ 2 ^ b := Nat.one_le_two_pow
    have m1 := h1.ro
    have m2 := h2.ro
    have m3 := sum_ro (m := 0 - t) m1 m2
    rw [en] at m3
    refine .mid ((2 ^ b - 1) * (1 + t.natAbs)) (m2.mono (Nat.le_mul_of_pos_right _ (by omega))) m3 h2.1 (by rw [ez]; have := h2.1; omega) hq (by rw [ez]; exact hz) ?_
    rw [ez]
    have b1 := Net.euc0 (B := 2 ^ b - 1) e2 (show (r.p.2.fmod q.p.2).natAbs < q.p.2.natAbs by omega)
    refine Nat.le_trans b1 ?_
    have c1 : q.p.2.natAbs ≤ 2 ^ a := by have := h2.1; omega
    have c2 : 2 * q.p.2.natAbs + r.p.2.natAbs ≤ 4 * 2 ^ a := by have := h2.1; have := h1.1; omega
    have c3 : (2 ^ b - 1) * (q.p.2.natAbs * (2 * q.p.2.natAbs + r.p.2.natAbs)) ≤ 2 ^ b * (2 ^ a * (4 * 2 ^ a)) := Nat.mul_le_mul (by omega) (Nat.mul_le_mul c1 c2)
    have c4 : 2 ^ b * (2 ^ a * (4 * 2 ^ a)) = 2 ^ (b + 2 * a + 2) := by
      rw [show b + 2 * a + 2 = b + (a + (2 + a)) by omega, Nat.pow_add, Nat.pow_add, Nat.pow_add]
    omega
  | mid B h1 h2 h6 h7 h3 h4 h5 =>
    have m3 := sum_ro (m := 0 - t) h1 h2
    rw [en] at m3
    refine .mid (B * (1 + t.natAbs)) (h2.mono (Nat.le_mul_of_pos_right _ (by omega))) m3 h7 (by rw [ez]; omega) hq (by rw [ez]; exact hz) ?_
    rw [ez]
    have t0 : 0 ≤ t := by
      rw [ht]
      exact Int.fdiv_nonneg (by omega) (by omega)
    have e5 : r.p.2.natAbs = t.natAbs * q.p.2.natAbs + (r.p.2.fmod q.p.2).natAbs := by
      have : ((t.natAbs * q.p.2.natAbs : Nat) : Int) = t * (q.p.2.natAbs : Int) := by
        rw [Int.natCast_mul]
        congr 1
        omega
      omega
    exact Nat.le_trans (Net.euc e5 (by omega)) h5
  | fin h1 h2 => exact absurd h1 h0
end IP
namespace IP
open PySem PySem.Spec PyProof.Rows L2
/-- what rows keep, however they are put together -/
structure Clo (N : Nat) (C : Rw → Prop) : Prop where
  len : ∀ r, C r → r.ns.length = N
  sum : ∀ r q m, C r → C q → C (sumR r q m)
  tim : ∀ r m, C r → C (timR r m)
/-- what is kept while a step straight up is put in -/
structure Lo (C : Rw → Prop) (a b : Nat) (g0 : Option Rw) (r0 : Rw) (g : Option Rw) (r : Rw) : Prop where
  w : Lw C g
  x : r.p.1 = 0
  l : C r
  ph : Ph a b g r
  le : Net.Le (pts g ++ [r.p]) (pts g0 ++ [r0.p])
  ge : Net.Le (pts g0 ++ [r0.p]) (pts g ++ [r.p])
theorem Lo.turn {N a b : Nat} {C : Rw → Prop} (hC : Clo N C) {g0 : Option Rw} {r0 q r : Rw} {t : Int} (h : Lo C a b g0 r0 (some q) r) (h0 : r.p.2 ≠ 0) (ht : t = r.p.2.fdiv q.p.2) :
    (0 < (sumR r q (0 - t)).p.2 → Lo C a b g0 r0 (some (sumR r q (0 - t))) q ∧ (sumR r q (0 - t)).p.2.natAbs < q.p.2.natAbs) ∧
    ((sumR r q (0 - t)).p.2 = 0 → Lo C a b g0 r0 (some q) (sumR r q (0 - t))) ∧ 0 ≤ (sumR r q (0 - t)).p.2 := by
  obtain ⟨q1, q2, q3⟩ := h.w.z q rfl
  have e := Int.mul_fdiv_add_fmod r.p.2 q.p.2
  have f1 := fm_ge (x := r.p.2) q2
  have f2 := fm_lt (x := r.p.2) q2
  have ez : (sumR r q (0 - t)).p.2 = r.p.2.fmod q.p.2 := by
    show r.p.2 + (0 - t) * q.p.2 = _
    rw [Int.zero_sub, Int.neg_mul, ht, Int.mul_comm]
    omega
  have ex : (sumR r q (0 - t)).p.1 = 0 := by
    show r.p.1 + (0 - t) * q.p.1 = 0
    rw [h.x, q1]
    simp
  have el : C (sumR r q (0 - t)) := hC.sum _ _ _ h.l q3
  have sw := Net.pair_swap (p := r.p) (q := q.p) (m := 0 - t)
  have le := h.le
  have ge := h.ge
  simp only [pts, List.singleton_append] at le ge
  have s1 : Net.Le [q.p, (sumR r q (0 - t)).p] (pts g0 ++ [r0.p]) := sw.1.trans le
  have s2 : Net.Le (pts g0 ++ [r0.p]) [q.p, (sumR r q (0 - t)).p] := ge.trans sw.2
  refine ⟨fun hz => ⟨⟨⟨fun p hp => ?_⟩, q1, q3, ph_turn h.ph q2 h0 ht hz, ?_, ?_⟩, by rw [ez]; omega⟩, fun hz => ⟨h.w, ex, el, .fin hz (ph_low h.ph), s1, s2⟩, by rw [ez]; exact f1⟩
  · cases hp
    exact ⟨ex, hz, el⟩
  · exact Net.Le.swap.trans s1
  · exact s2.trans Net.Le.swap
end IP
namespace IP
open PySem PySem.Spec PyProof.Rows L2
end IP
namespace IP
open PySem PySem.Spec PyProof.Rows L2
/-- how great a row is that the last turn leaves -/
theorem ph_last {a b : Nat} {q r : Rw} {t : Int} (h : Ph a b (some q) r) (hq : 0 < q.p.2) (h0 : r.p.2 ≠ 0) (ht : t = r.p.2.fdiv q.p.2) (hz : (sumR r q (0 - t)).p.2 = 0) : Mb a (b + 2 * a + 4) (sumR r q (0 - t)) := by
  have e := Int.mul_fdiv_add_fmod r.p.2 q.p.2
  have ez : (sumR r q (0 - t)).p.2 = r.p.2.fmod q.p.2 := by
    show r.p.2 + (0 - t) * q.p.2 = _
    rw [Int.zero_sub, Int.neg_mul, ht, Int.mul_comm]
    omega
  have hz0 := hz
  rw [ez] at hz
  have en : (0 - t).natAbs = t.natAbs := by omega
  have e2 : r.p.2.natAbs = q.p.2.natAbs * t.natAbs := by
    rw [← Int.natAbs_mul, ht]
    congr 1
    omega
  have q1 : 1 ≤ q.p.2.natAbs := by omega
  have t1 : t.natAbs ≤ r.p.2.natAbs := by
    rw [e2]
    exact Nat.le_mul_of_pos_left _ q1
  have p0 : 0 < 2 ^ a := Nat.two_pow_pos a
  have z0 : (sumR r q (0 - t)).p.2.natAbs < 2 ^ a := by rw [hz0]; exact p0
  cases h with
  | beg h1 h2 =>
    have h2 := h2 q rfl
    have m3 := sum_ro (m := 0 - t) h1.ro h2.ro
    rw [en] at m3
    refine ro_mb m3 z0 ?_
    have pb : 0 < 2 ^ b := Nat.two_pow_pos b
    have c1 : (2 ^ b - 1) * (1 + t.natAbs) ≤ 2 ^ b * 2 ^ a := Nat.mul_le_mul (by omega) (by have := h1.1; omega)
    have c2 : 2 ^ b * 2 ^ a = 2 ^ (b + a) := (Nat.pow_add ..).symm
    have c3 : 2 ^ (b + a) < 2 ^ (b + 2 * a + 4) := Nat.pow_lt_pow_right (by decide) (by omega)
    omega
  | mid B h1 h2 h6 h7 h3 h4 h5 =>
    have m3 := sum_ro (m := 0 - t) h1 h2
    rw [en] at m3
    refine ro_mb m3 z0 ?_
    have r1 : 1 ≤ r.p.2.natAbs := by omega
    have d1 : r.p.2.natAbs * 1 ≤ r.p.2.natAbs * q.p.2.natAbs := Nat.mul_le_mul_left _ q1
    have c1 : B * (1 + t.natAbs) ≤ B * (2 * (r.p.2.natAbs * q.p.2.natAbs)) := Nat.mul_le_mul_left B (by omega)
    have c2 : B * (2 * (r.p.2.natAbs * q.p.2.natAbs)) = 2 * (B * (r.p.2.natAbs * q.p.2.natAbs)) := Nat.mul_left_comm ..
    have c3 : 2 * 2 ^ (b + 2 * a + 2) = 2 ^ (b + 2 * a + 3) := by
      rw [show b + 2 * a + 3 = (b + 2 * a + 2) + 1 by omega, Nat.pow_succ 2 (b + 2 * a + 2), Nat.mul_comm]
    have c4 : 2 ^ (b + 2 * a + 3) < 2 ^ (b + 2 * a + 4) := Nat.pow_lt_pow_right (by decide) (by omega)
    omega
  | fin h1 h2 => exact absurd h1 h0
/-- a row with its step turned over -/
noncomputable def swR (r : Rw) : Rw := ⟨(r.p.2, r.p.1), r.ns⟩
structure Fw (C : Rw → Prop) (g : Option Rw) : Prop where
  z : ∀ q, g = some q → 0 < q.p.1 ∧ C q
/-- what is kept while a step is put in first -/
structure Fo (C : Rw → Prop) (a b : Nat) (g0 : Option Rw) (r0 : Rw) (g : Option Rw) (r : Rw) : Prop where
  w : Fw C g
  l : C r
  ph : Ph a b (g.map swR) (swR r)
  e : r.p.1 = 0 → Mb a (b + 2 * a + 4) (swR r)
  le : Net.Le (pts g ++ [r.p]) (pts g0 ++ [r0.p])
  ge : Net.Le (pts g0 ++ [r0.p]) (pts g ++ [r.p])
section
variable {N a b : Nat} {C : Rw → Prop} {g0 g : Option Rw} {r0 q r : Rw} {t : Int}
theorem Fo.low (h : Fo C a b g0 r0 g r) : ∀ q, g = some q → Mb a (b + 2 * a + 3) (swR q) := fun q e => ph_low h.ph (swR q) (by rw [e]; rfl)
theorem Fo.row (h : Fo C a b g0 r0 (some q) r) (h0 : r.p.1 ≠ 0) : Mb a (b + 2 * a + 3) (swR r) := ph_row (q := swR q) h.ph h0
theorem Fo.turn (hC : Clo N C) (h : Fo C a b g0 r0 (some q) r) (h0 : r.p.1 ≠ 0) (ht : t = r.p.1.fdiv q.p.1) :
    (0 < (sumR r q (0 - t)).p.1 → Fo C a b g0 r0 (some (sumR r q (0 - t))) q ∧ (sumR r q (0 - t)).p.1.natAbs < q.p.1.natAbs) ∧
    ((sumR r q (0 - t)).p.1 = 0 → Fo C a b g0 r0 (some q) (sumR r q (0 - t))) ∧ 0 ≤ (sumR r q (0 - t)).p.1 := by
  obtain ⟨q2, q3⟩ := h.w.z q rfl
  have e := Int.mul_fdiv_add_fmod r.p.1 q.p.1
  have f1 := fm_ge (x := r.p.1) q2
  have f2 := fm_lt (x := r.p.1) q2
  have ez : (sumR r q (0 - t)).p.1 = r.p.1.fmod q.p.1 := by
    show r.p.1 + (0 - t) * q.p.1 = _
    rw [Int.zero_sub, Int.neg_mul, ht, Int.mul_comm]
    omega
  have el : C (sumR r q (0 - t)) := hC.sum _ _ _ h.l q3
  have sw := Net.pair_swap (p := r.p) (q := q.p) (m := 0 - t)
  have le := h.le
  have ge := h.ge
  simp only [pts, List.singleton_append] at le ge
  have s1 : Net.Le [q.p, (sumR r q (0 - t)).p] (pts g0 ++ [r0.p]) := sw.1.trans le
  have s2 : Net.Le (pts g0 ++ [r0.p]) [q.p, (sumR r q (0 - t)).p] := ge.trans sw.2
  refine ⟨fun hz => ⟨⟨⟨fun p hp => ?_⟩, q3, ph_turn (q := swR q) (r := swR r) h.ph q2 h0 ht hz, fun a => absurd a (by omega), ?_, ?_⟩, by rw [ez]; omega⟩, fun hz => ⟨h.w, el, .fin hz (ph_low h.ph), fun _ => ph_last (q := swR q) (r := swR r) h.ph q2 h0 ht hz, s1, s2⟩, by rw [ez]; exact f1⟩
  · cases hp
    exact ⟨hz, el⟩
  · exact Net.Le.swap.trans s1
  · exact s2.trans Net.Le.swap
end
/-- the rows that are handed out -/
noncomputable def rowsOf : Option Rw → Option Rw → List Rw
  | some f, some g => [sumR f g (0 - f.p.2.fdiv g.p.2), g]
  | some f, none => [f]
  | none, some g => [g]
  | none, none => []
/-- the form of a net -/
inductive Nf : List (Int × Int) → Prop
  | nil : Nf []
  | one {x y : Int} : 0 < x → Nf [(x, y)]
  | low {z : Int} : 0 < z → Nf [(0, z)]
  | two {x y z : Int} : 0 < x → 0 ≤ y → y < z → Nf [(x, y), (0, z)]
/-- bits of the rows after so many steps -/
noncomputable def bF (n i : Nat) : Nat := n + 8 + i * (2 * n + 4)
noncomputable def bA (n : Nat) : Nat := bF n 6
noncomputable def bG (n i : Nat) : Nat := bA n + i * (2 * bA n + 4)
/-- the numbers of the row for a token -/
noncomputable def numsOf (N : Nat) (t : Int) : List Int := (List.range N).map fun (a : Nat) => (if decide ((a : Int) = t) = true then 1 else 0) - (if decide ((a : Int) = 0) = true then 1 else 0)
/-- what comes of places taken so often -/
noncomputable def cmb : List Int → List (Int × Int) → Int × Int
  | n :: ns, p :: l => (n * p.1 + (cmb ns l).1, n * p.2 + (cmb ns l).2)
  | _, _ => (0, 0)
/-- a row's numbers show its step -/
noncomputable def Cf (l : List (Int × Int)) (r : Rw) : Prop := r.ns.length = l.length ∧ r.ns.sum = 0 ∧ r.p = cmb r.ns l
/-- what the program's Known holds after so many steps -/
structure Ko (l : List (Int × Int)) (n i : Nat) (f g : Option Rw) : Prop where
  fw : Fw (Cf l) f
  gw : Lw (Cf l) g
  fb : ∀ q, f = some q → Mb n (bF n i) (swR q)
  gb : ∀ q, g = some q → Mb (bA n) (bG n i) q
  le : Net.Le (pts f ++ pts g) ((waysOf l).take (i + 1))
  ge : Net.Le ((waysOf l).take (i + 1)) (pts f ++ pts g)
/-- what is told of a net -/
structure Nt (l nt : List (Int × Int)) : Prop where
  nf : Nf nt
  le : Net.Le nt (waysOf l)
  ge : Net.Le (waysOf l) nt
end IP
namespace Net
theorem least {p : Nat → Prop} (h : ∃ n, p n) : ∃ n, p n ∧ ∀ m, p m → n ≤ m := by
  obtain ⟨n, hn⟩ := h
  induction n using Nat.strongRecOn with
  | ind n ih =>
    by_cases q : ∃ m, m < n ∧ p m
    · obtain ⟨m, hm, pm⟩ := q
      exact ih m hm pm
    · exact ⟨n, hn, fun m pm => Classical.byContradiction fun hm => q ⟨m, by omega, pm⟩⟩
end Net
namespace IP
open PySem PySem.Spec PyProof.Rows L2
open Classical in
/-- whether a step is of what is spanned -/
noncomputable def snB (ws : List (Int × Int)) (v : Int × Int) : Bool := decide (Net.Sn ws v)
end IP
namespace IP
open PySem PySem.Spec PyProof.Rows L2
/-- the number of a place that a step of a basis is measured by -/
noncomputable def ax (s p : Int × Int) : Int := if s.1 ≠ 0 then p.1 else p.2
noncomputable def mor (p s : Int × Int) (m : Int) : Int × Int := (p.1 + m * s.1, p.2 + m * s.2)
noncomputable def brg1 (p s : Int × Int) : Int × Int := mor p s (0 - (ax s p).fdiv (2 * ax s s) * 2)
noncomputable def brg (nt : List (Int × Int)) (p : Int × Int) : Int × Int := nt.foldl brg1 p
/-! ### alike by halves -/
noncomputable def Al (ws : List (Int × Int)) (p q : Int × Int) : Prop := ∃ s, Net.Sn ws s ∧ p = (q.1 + 2 * s.1, q.2 + 2 * s.2)
noncomputable def alB (ws : List (Int × Int)) (p q : Int × Int) : Bool := decide ((p.1 - q.1).fmod 2 = 0) && (decide ((p.2 - q.2).fmod 2 = 0) && snB ws ((p.1 - q.1).fdiv 2, (p.2 - q.2).fdiv 2))
section
variable {ws : List (Int × Int)} {p q r : Int × Int}
theorem Al.refl : Al ws p p := ⟨(0, 0), .zero, by simp⟩
theorem Al.symm (h : Al ws p q) : Al ws q p := by
  obtain ⟨s, hs, rfl⟩ := h
  exact ⟨(-1 * s.1, -1 * s.2), hs.times (-1), by ext <;> simp only <;> omega⟩
theorem Al.trans (h : Al ws p q) (k : Al ws q r) : Al ws p r := by
  obtain ⟨s, hs, rfl⟩ := h
  obtain ⟨t, ht, rfl⟩ := k
  exact ⟨(s.1 + t.1, s.2 + t.2), hs.plus ht, by ext <;> simp only <;> omega⟩
theorem Al.le {vs : List (Int × Int)} (h : Al ws p q) (k : Net.Le ws vs) : Al vs p q := by
  obtain ⟨s, hs, rfl⟩ := h
  exact ⟨s, Net.Sn.trans k hs, rfl⟩
end
theorem mor_al {ws : List (Int × Int)} {s p : Int × Int} {m : Int} (h : Net.Sn ws s) : Al ws (mor p s (m * 2)) p := by
  refine ⟨(m * s.1, m * s.2), h.times m, ?_⟩
  unfold mor
  ext
  · simp only
    rw [Int.mul_comm m 2, Int.mul_assoc]
  · simp only
    rw [Int.mul_comm m 2, Int.mul_assoc]
theorem brg_al : ∀ {nt ws : List (Int × Int)} {p : Int × Int}, (∀ s, s ∈ nt → Net.Sn ws s) → Al ws (brg nt p) p
  | [], _, _, _ => .refl
  | s :: nt, ws, p, h => by
    have h1 : Al ws (brg1 p s) p := by
      unfold brg1
      rw [Int.zero_sub, ← Int.neg_mul]
      exact mor_al (h s List.mem_cons_self)
    exact (brg_al (nt := nt) (p := brg1 p s) fun t ht => h t (List.mem_cons_of_mem _ ht)).trans h1
/-- where the stand may lie -/
noncomputable def InC : List (Int × Int) → Int × Int → Int × Int → Prop
  | [], p, q => q = p
  | [s], _, q => if s.1 ≠ 0 then 0 ≤ q.1 ∧ q.1 < 2 * s.1 else 0 ≤ q.2 ∧ q.2 < 2 * s.2
  | s :: t :: _, _, q => (0 ≤ q.1 ∧ q.1 < 2 * s.1) ∧ 0 ≤ q.2 ∧ q.2 < 2 * t.2
theorem two_fm {a x : Int} (hx : 0 < x) : a + (0 - a.fdiv (2 * x) * 2) * x = a.fmod (2 * x) := by
  have e := Int.mul_fdiv_add_fmod a (2 * x)
  have e2 : (0 - a.fdiv (2 * x) * 2) * x = -(2 * x * a.fdiv (2 * x)) := by
    rw [Int.zero_sub, Int.neg_mul, Int.mul_assoc, Int.mul_comm]
  rw [e2]
  omega
theorem brg_in {nt : List (Int × Int)} (h : Nf nt) (p : Int × Int) : InC nt p (brg nt p) := by
  cases h with
  | nil => rfl
  | @one x y hx =>
    have e1 : ∀ p, ax (x, y) p = p.1 := fun p => by unfold ax; rw [if_pos (by simp only; omega)]
    simp only [brg, List.foldl_cons, List.foldl_nil, brg1, mor, e1, InC]
    rw [if_pos (by omega), two_fm hx]
    exact ⟨Int.fmod_nonneg_of_pos _ (by omega), Int.fmod_lt_of_pos _ (by omega)⟩
  | @low z hz =>
    have e1 : ∀ p, ax (0, z) p = p.2 := fun p => by unfold ax; rw [if_neg (by simp)]
    simp only [brg, List.foldl_cons, List.foldl_nil, brg1, mor, e1, InC]
    rw [if_neg (by simp), two_fm hz]
    exact ⟨Int.fmod_nonneg_of_pos _ (by omega), Int.fmod_lt_of_pos _ (by omega)⟩
  | @two x y z hx hy hz =>
    have e1 : ∀ p, ax (x, y) p = p.1 := fun p => by unfold ax; rw [if_pos (by simp only; omega)]
    have e2 : ∀ p, ax (0, z) p = p.2 := fun p => by unfold ax; rw [if_neg (by simp)]
    simp only [brg, List.foldl_cons, List.foldl_nil, brg1, mor, e1, e2, InC, Int.mul_zero, Int.add_zero]
    rw [two_fm hx, two_fm (by omega)]
    exact ⟨⟨Int.fmod_nonneg_of_pos _ (by omega), Int.fmod_lt_of_pos _ (by omega)⟩, Int.fmod_nonneg_of_pos _ (by omega), Int.fmod_lt_of_pos _ (by omega)⟩
/-- there is just one such place -/
theorem mul_near {a x : Int} (hx : 0 < x) (h1 : -x < a * x) (h2 : a * x < x) : a = 0 := by
  rcases Int.lt_trichotomy a 0 with h | h | h
  · have := Int.mul_le_mul_of_nonneg_right (show a ≤ -1 by omega) (show 0 ≤ x by omega)
    omega
  · exact h
  · have := Int.mul_le_mul_of_nonneg_right (show 1 ≤ a by omega) (show 0 ≤ x by omega)
    omega
theorem in_uniq {nt : List (Int × Int)} (h : Nf nt) {p q r p' : Int × Int} (h1 : InC nt p q) (h2 : InC nt p' r) (hp : nt = [] → p = p') (k : Al nt q r) : q = r := by
  obtain ⟨s, hs, e⟩ := k
  cases h with
  | nil =>
    have e1 : q = p := h1
    have e2 : r = p' := h2
    rw [e1, e2]
    exact hp rfl
  | @one x y hx =>
    obtain ⟨a, rfl⟩ := Net.one_sn.mp hs
    simp only [InC] at h1 h2
    rw [if_pos (by omega)] at h1 h2
    have e1 := congrArg Prod.fst e
    simp only at e1
    have a0 : a = 0 := mul_near hx (by omega) (by omega)
    rw [e, a0]
    simp
  | @low z hz =>
    obtain ⟨a, rfl⟩ := Net.one_sn.mp hs
    simp only [InC] at h1 h2
    rw [if_neg (by simp)] at h1 h2
    have e1 := congrArg Prod.snd e
    simp only at e1
    have a0 : a = 0 := mul_near hz (by omega) (by omega)
    rw [e, a0]
    simp
  | @two x y z hx hy hz =>
    obtain ⟨a, b, rfl⟩ := Net.two_sn.mp hs
    simp only [InC] at h1 h2
    have e1 := congrArg Prod.fst e
    have e2 := congrArg Prod.snd e
    simp only at e1 e2
    have a0 : a = 0 := mul_near hx (by omega) (by omega)
    subst a0
    simp only [Int.zero_mul, Int.zero_add] at e2
    have b0 : b = 0 := mul_near (show 0 < z by omega) (by omega) (by omega)
    rw [e, b0]
    simp
/-- alike places are brought to one -/
theorem brg_eq {nt : List (Int × Int)} (h : Nf nt) {p q : Int × Int} : brg nt p = brg nt q ↔ Al nt p q := by
  have a1 : Al nt (brg nt p) p := brg_al fun s hs => Net.Sn.mem hs
  have a2 : Al nt (brg nt q) q := brg_al fun s hs => Net.Sn.mem hs
  constructor
  · intro e
    rw [e] at a1
    exact a1.symm.trans a2
  · intro k
    refine in_uniq h (brg_in h p) (brg_in h q) (fun e => ?_) (a1.trans (k.trans a2.symm))
    subst e
    obtain ⟨s, hs, e⟩ := k
    have h3 : Net.Le ([] : List (Int × Int)) [(0, 0)] := nofun
    obtain ⟨a, e2⟩ := Net.one_sn.mp (Net.Sn.trans h3 hs)
    rw [e, e2]
    simp
/-! sizes -/
end IP
namespace IP
open PySem PySem.Spec PyProof.Rows L2
/-- a loop that may be left -/
theorem for_ret {f : PyData → Env → Store → Out Fl} {Q : Fl → Store → Prop} (I : Nat → Env → Store → Prop) (xs : List PyData) {s : Env} {S : Store} (h0 : I 0 s S)
    (st : ∀ (i : Nat) (x : PyData) (s : Env) (S : Store), xs[i]? = some x → I i s S → (f x s S).sat fun r S' => (∃ s', r = .nx s' ∧ I (i + 1) s' S') ∨ ∃ v, r = .rt v ∧ Q (.rt v) S') (fin : ∀ s S, I xs.length s S → Q (.nx s) S) : (forL f xs s S).sat Q := by
  induction xs generalizing s S I with
  | nil => exact .ok (fin _ _ h0)
  | cons x xs ih =>
    unfold forL
    refine sat_then (st 0 x s S rfl h0) ?_
    rintro r S1 (⟨s', rfl, h1⟩ | ⟨v, rfl, h1⟩)
    · refine ih (fun i => I (i + 1)) h1 (fun i y s S e h => st (i + 1) y s S (by simpa using e) h) ?_
      intro s S h
      exact fin s S h
    · exact .ok h1
end IP
namespace IP
open PySem PySem.Spec PyProof.Rows L2
/-- the places of a cell -/
noncomputable def cor (nt : List (Int × Int)) : List (Int × Int) := nt.foldl (fun f s => f ++ f.map fun p => mor p s 1) [(0, 0)]
/-- where a token stands at home -/
noncomputable def hm1 (nt : List (Int × Int)) (p0 p : Int × Int) : Int × Int := (((cor nt).map fun c => mor (brg nt p0) c 1).filter fun c => decide (brg nt c = brg nt p)).headD (0, 0)
noncomputable def hmL (nt l : List (Int × Int)) : List (Int × Int) := l.map (hm1 nt (atL l 0))
theorem par (a : Int) : ∃ k : Int, ∃ e : Int, a = e + 2 * k ∧ (e = 0 ∨ e = 1) := ⟨a.fdiv 2, a.fmod 2, by have := Int.mul_fdiv_add_fmod a 2; omega, by
  have h1 := Int.fmod_nonneg_of_pos a (show (0 : Int) < 2 by decide)
  have h2 := Int.fmod_lt_of_pos a (show (0 : Int) < 2 by decide)
  omega⟩
/-! ### what leaps keep -/
theorem diff_sn {l : List (Int × Int)} {p q : Int × Int} (hp : p ∈ l) (hq : q ∈ l) : Net.Sn (waysOf l) (p.1 - q.1, p.2 - q.2) := by
  have h1 : Net.Sn (waysOf l) (p.1 - (atL l 0).1, p.2 - (atL l 0).2) := Net.Sn.mem (List.mem_map.mpr ⟨p, hp, rfl⟩)
  have h2 : Net.Sn (waysOf l) (q.1 - (atL l 0).1, q.2 - (atL l 0).2) := Net.Sn.mem (List.mem_map.mpr ⟨q, hq, rfl⟩)
  have t := h1.plus (h2.times (-1))
  have e : (p.1 - (atL l 0).1 + -1 * (q.1 - (atL l 0).1), p.2 - (atL l 0).2 + -1 * (q.2 - (atL l 0).2)) = (p.1 - q.1, p.2 - q.2) := by ext <;> simp only <;> omega
  simp only at t
  rw [e] at t
  exact t
/-- lays of which each place is alike -/
noncomputable def AlL (l l' : List (Int × Int)) : Prop := l'.length = l.length ∧ ∀ i, i < l.length → Al (waysOf l) (atL l' i) (atL l i)
theorem AlL.le {l l' : List (Int × Int)} (h : AlL l l') : Net.Le (waysOf l') (waysOf l) := by
  intro w hw
  unfold waysOf at hw
  obtain ⟨p, hp, rfl⟩ := List.mem_map.mp hw
  obtain ⟨i, hi, rfl⟩ := List.mem_iff_getElem.mp hp
  have hl := h.1
  have e1 : l'[i] = atL l' i := by
    have := at_lay hi
    rw [List.getElem?_eq_getElem hi] at this
    exact Option.some.inj this
  obtain ⟨s, hs, es⟩ := h.2 i (by omega)
  obtain ⟨t, ht, et⟩ := h.2 0 (by omega)
  rw [e1, es, et]
  have d := diff_sn (at_mem (show i < l.length by omega)) (at_mem (show 0 < l.length by omega))
  have z := (d.plus (hs.times 2)).plus (ht.times (-2))
  simp only at z
  have e : ((atL l i).1 + 2 * s.1 - ((atL l 0).1 + 2 * t.1), (atL l i).2 + 2 * s.2 - ((atL l 0).2 + 2 * t.2)) = ((atL l i).1 - (atL l 0).1 + 2 * s.1 + -2 * t.1, (atL l i).2 - (atL l 0).2 + 2 * s.2 + -2 * t.2) := by ext <;> simp only <;> omega
  rw [e]
  exact z
/-- both nets are one, each token's places are alike -/
structure Same (l l' : List (Int × Int)) : Prop where
  al : AlL l l'
  le : Net.Le (waysOf l') (waysOf l)
  ge : Net.Le (waysOf l) (waysOf l')
theorem Same.refl {l : List (Int × Int)} : Same l l := ⟨⟨rfl, fun _ _ => .refl⟩, .refl, .refl⟩
theorem Same.symm {l l' : List (Int × Int)} (h : Same l l') : Same l' l := by
  refine ⟨⟨h.al.1.symm, fun i hi => ?_⟩, h.ge, h.le⟩
  exact (h.al.2 i (by rw [← h.al.1]; exact hi)).symm.le h.ge
theorem Same.trans {l l' l'' : List (Int × Int)} (h : Same l l') (k : Same l' l'') : Same l l'' := by
  refine ⟨⟨k.al.1.trans h.al.1, fun i hi => ?_⟩, k.le.trans h.le, h.ge.trans k.ge⟩
  exact ((k.al.2 i (by rw [h.al.1]; exact hi)).le h.le).trans (h.al.2 i hi)
theorem Nt.same {l l' nt : List (Int × Int)} (N : Nt l nt) (h : Same l l') : Nt l' nt := ⟨N.nf, N.le.trans h.ge, h.le.trans N.ge⟩
end IP
namespace IP
open PySem PySem.Spec PyProof.Rows L2
/-! ### a law that draws by cells of a slice -/
end IP
namespace IP
open PySem PySem.Spec PyProof.Rows L2
/-! ### things of any kind, none of them great -/
mutual
noncomputable def gI (b : Nat) : PyData → Bool
  | .none => true
  | .bool _ => true
  | .int i => decide (i.natAbs < 2 ^ b)
  | .str s => decide ((PyData.str s).shown.length ≤ 98)
  | .list xs => gIs b xs
  | .tuple xs => gIs b xs
  | .dict kvs => (PyData.dict kvs).showable && decide ((PyData.dict kvs).shown.length ≤ 98)
noncomputable def gIs (b : Nat) : List PyData → Bool
  | [] => true
  | x :: xs => gI b x && gIs b xs
end
mutual
noncomputable def wt : PyData → Nat
  | .none => 5
  | .bool _ => 5
  | .int _ => 80
  | .str _ => 100
  | .list xs => wts xs + 3
  | .tuple xs => wts xs + 3
  | .dict _ => 100
noncomputable def wts : List PyData → Nat
  | [] => 0
  | x :: xs => wt x + 2 + wts xs
end
mutual
theorem gI_mono {b c : Nat} (h : b ≤ c) : ∀ p, gI b p = true → gI c p = true
  | .none, _ => rfl
  | .bool _, _ => rfl
  | .int i, q => by
    simp only [gI, decide_eq_true_eq] at q ⊢
    exact Nat.lt_of_lt_of_le q (Nat.pow_le_pow_right (by decide) h)
  | .str s, q => q
  | .list xs, q => by simp only [gI] at q ⊢; exact gIs_mono h xs q
  | .tuple xs, q => by simp only [gI] at q ⊢; exact gIs_mono h xs q
  | .dict _, q => q
theorem gIs_mono {b c : Nat} (h : b ≤ c) : ∀ p, gIs b p = true → gIs c p = true
  | [], _ => rfl
  | x :: xs, q => by
    simp only [gIs, Bool.and_eq_true] at q ⊢
    exact ⟨gI_mono h x q.1, gIs_mono h xs q.2⟩
end
mutual
theorem gI_sh {b : Nat} (hb : b ≤ 62) : ∀ p, gI b p = true → p.showable = true ∧ p.shown.length ≤ wt p
  | .none, _ => ⟨rfl, rk_none.ln⟩
  | .bool _, _ => ⟨rfl, rk_bool.ln⟩
  | .int i, q => by
    simp only [gI, decide_eq_true_eq] at q
    have r := rk_int q (by omega)
    exact ⟨r.sh, by have := r.ln; simp only [wt]; omega⟩
  | .str s, q => by
    simp only [gI, decide_eq_true_eq] at q
    exact ⟨rfl, by simp only [wt]; omega⟩
  | .list xs, q => by
    simp only [gI] at q
    obtain ⟨h1, h2⟩ := gIs_sh hb xs q
    refine ⟨by simpa only [PyData.showable] using h1, ?_⟩
    show (listText (PyData.shownAll xs)).length ≤ _
    unfold listText
    rw [strLen_append]
    have := text_le (PyData.shownAll xs) 0 "["
    have e1 : ((("[" : String) : Str)).length = 1 := rfl
    have e2 : ((("]" : String) : Str)).length = 1 := rfl
    simp only [wt]
    omega
  | .tuple xs, q => by
    simp only [gI] at q
    obtain ⟨h1, h2⟩ := gIs_sh hb xs q
    refine ⟨by simpa only [PyData.showable] using h1, ?_⟩
    show (tupleText (PyData.shownAll xs)).length ≤ _
    unfold tupleText
    rw [strLen_append, strLen_append]
    have e1 : ((("(" : String) : Str)).length = 1 := rfl
    have e3 : (((if (PyData.shownAll xs).length == 1 then ",)" else ")" : String) : Str)).length ≤ 2 := by split <;> decide
    have := join_le (PyData.shownAll xs)
    simp only [wt]
    omega
  | .dict kvs, q => by
    simp only [gI, Bool.and_eq_true, decide_eq_true_eq] at q
    exact ⟨q.1, by simp only [wt]; omega⟩
theorem gIs_sh {b : Nat} (hb : b ≤ 62) : ∀ xs, gIs b xs = true → PyData.showableAll xs = true ∧ piled (PyData.shownAll xs) ≤ wts xs
  | [], _ => ⟨rfl, Nat.le_refl _⟩
  | x :: xs, q => by
    simp only [gIs, Bool.and_eq_true] at q
    obtain ⟨h1, h2⟩ := gI_sh hb x q.1
    obtain ⟨h3, h4⟩ := gIs_sh hb xs q.2
    refine ⟨by simp only [PyData.showableAll, h1, h3, Bool.and_self], ?_⟩
    simp only [PyData.shownAll, piled_cons, wts]
    omega
end
structure Gd (b d n : Nat) (p : PyData) : Prop where
  gi : gI b p = true
  dp : p.depth ≤ d
  w : wt p ≤ n
structure Gs (b d n : Nat) (xs : List PyData) : Prop where
  gi : gIs b xs = true
  dp : PyData.depthAll xs ≤ d
  w : wts xs ≤ n
section
variable {b b' d d' m n n' : Nat} {p x : PyData} {xs ys : List PyData}
theorem Gd.mono (h : Gd b d n p) (hb : b ≤ b') (hd : d ≤ d') (hn : n ≤ n') : Gd b' d' n' p := ⟨gI_mono hb p h.gi, Nat.le_trans h.dp hd, Nat.le_trans h.w hn⟩
theorem Gs.mono (h : Gs b d n xs) (hb : b ≤ b') (hd : d ≤ d') (hn : n ≤ n') : Gs b' d' n' xs := ⟨gIs_mono hb xs h.gi, Nat.le_trans h.dp hd, Nat.le_trans h.w hn⟩
theorem Gd.ok (h : Gd b d n p) (hb : b ≤ 62) (hd : d ≤ 64) (hn : n ≤ 2 ^ 24) : repOk p = true := by
  obtain ⟨h1, h2⟩ := gI_sh hb p h.gi
  unfold repOk
  rw [h1, decide_eq_true (Nat.le_trans h.dp hd), decide_eq_true (show p.shown.length ≤ sizeLine from Nat.le_trans h2 (Nat.le_trans h.w hn))]
  rfl
theorem Gd.rk (h : Gd b d n p) (hb : b ≤ 62) : Rk d n p := by
  obtain ⟨h1, h2⟩ := gI_sh hb p h.gi
  exact ⟨h1, h.dp, Nat.le_trans h2 h.w⟩
theorem Gs.nil : Gs b d n [] := ⟨rfl, Nat.zero_le _, Nat.zero_le _⟩
theorem Gs.cons (h : Gd b d m x) (k : Gs b d n xs) : Gs b d (m + 2 + n) (x :: xs) := by
  refine ⟨by simp only [gIs, h.gi, k.gi, Bool.and_self], by simp only [PyData.depthAll]; exact Nat.max_le.mpr ⟨h.dp, k.dp⟩, ?_⟩
  have := h.w
  have := k.w
  simp only [wts]
  omega
theorem Gs.app (h : Gs b d m xs) (k : Gs b d n ys) : Gs b d (m + n) (xs ++ ys) := by
  induction xs generalizing m with
  | nil => exact k.mono (Nat.le_refl _) (Nat.le_refl _) (by omega)
  | cons x xs ih =>
    have h1 := h.gi
    have h2 := h.dp
    have h3 := h.w
    simp only [gIs, Bool.and_eq_true] at h1
    simp only [PyData.depthAll] at h2
    simp only [wts] at h3
    have r := ih (m := m - (wt x + 2)) ⟨h1.2, Nat.le_trans (Nat.le_max_right _ _) h2, by omega⟩
    exact (Gs.cons (m := wt x) ⟨h1.1, Nat.le_trans (Nat.le_max_left _ _) h2, Nat.le_refl _⟩ r).mono (Nat.le_refl _) (Nat.le_refl _) (by omega)
theorem Gs.head (h : Gs b d n (x :: xs)) : Gd b d n x ∧ Gs b d n xs := by
  have h1 := h.gi
  have h2 := h.dp
  have h3 := h.w
  simp only [gIs, Bool.and_eq_true] at h1
  simp only [PyData.depthAll] at h2
  simp only [wts] at h3
  exact ⟨⟨h1.1, Nat.le_trans (Nat.le_max_left _ _) h2, by omega⟩, h1.2, Nat.le_trans (Nat.le_max_right _ _) h2, by omega⟩
theorem Gs.sub (h : Gs b d n xs) (s : ys.Sublist xs) : Gs b d n ys := by
  induction s generalizing n with
  | slnil => exact h
  | cons x _ ih => exact ih h.head.2
  | @cons_cons l1 l2 x s ih =>
    have h3 := h.w
    simp only [wts] at h3
    have k : Gs b d (n - (wt x + 2)) l2 := ⟨h.head.2.gi, h.head.2.dp, by omega⟩
    exact (Gs.cons (m := wt x) ⟨h.head.1.gi, h.head.1.dp, Nat.le_refl _⟩ (ih k)).mono (Nat.le_refl _) (Nat.le_refl _) (by omega)
theorem Gs.take (h : Gs b d n xs) (k : Nat) : Gs b d n (xs.take k) := h.sub (List.take_sublist k xs)
theorem Gs.drop (h : Gs b d n xs) (k : Nat) : Gs b d n (xs.drop k) := h.sub (List.drop_sublist k xs)
theorem Gs.rev (h : Gs b d n xs) : Gs b d n xs.reverse := by
  induction xs generalizing n with
  | nil => exact h
  | cons x xs ih =>
    have h3 := h.w
    simp only [wts] at h3
    have k : Gs b d (n - (wt x + 2)) xs := ⟨h.head.2.gi, h.head.2.dp, by omega⟩
    rw [List.reverse_cons]
    exact ((ih k).app (Gs.cons (m := wt x) (n := 0) (xs := []) ⟨h.head.1.gi, h.head.1.dp, Nat.le_refl _⟩ .nil)).mono (Nat.le_refl _) (Nat.le_refl _) (by omega)
theorem Gs.mem (h : Gs b d n xs) (hx : x ∈ xs) : Gd b d n x := by
  induction xs with
  | nil => cases hx
  | cons y xs ih =>
    rcases List.mem_cons.mp hx with rfl | hx
    · exact h.head.1
    · exact ih h.head.2 hx
theorem Gs.tup (h : Gs b d n xs) : Gd b (d + 1) (n + 3) (.tuple xs) := ⟨by simp only [gI]; exact h.gi, by have := h.dp; simp only [PyData.depth]; omega, by have := h.w; simp only [wt]; omega⟩
theorem Gs.lst (h : Gs b d n xs) : Gd b (d + 1) (n + 3) (.list xs) := ⟨by simp only [gI]; exact h.gi, by have := h.dp; simp only [PyData.depth]; omega, by have := h.w; simp only [wt]; omega⟩
end
/-! ### what things are -/
end IP
/-! what shows that a place is a step, or none -/
namespace IP
open PySem PySem.Spec PyProof.Rows L2
/-! parting -/
/-- three numbers part a place from what ways span -/
structure Pts (ws : List (Int × Int)) (p : Int × Int) (t : Int × Int × Int) : Prop where
  two : 2 ≤ t.1
  all : ∀ w, w ∈ ws → t.1 ∣ t.2.1 * w.1 + t.2.2 * w.2
  not : ¬ t.1 ∣ t.2.1 * p.1 + t.2.2 * p.2
theorem sn_lin {ws : List (Int × Int)} {v : Int × Int} {m a b : Int} (h : ∀ w, w ∈ ws → m ∣ a * w.1 + b * w.2) (hv : Net.Sn ws v) : m ∣ a * v.1 + b * v.2 := by
  induction hv with
  | zero => simp
  | @add v w k _ hw ih =>
    have e : a * (v.1 + k * w.1) + b * (v.2 + k * w.2) = (a * v.1 + b * v.2) + k * (a * w.1 + b * w.2) := by
      simp only [Int.mul_add]
      rw [Int.mul_left_comm a k, Int.mul_left_comm b k]
      omega
    simp only [e]
    exact Int.dvd_add ih (Int.dvd_mul_of_dvd_right (h w hw))
/-! bounds of them -/
/-! what shows it -/
theorem intsOf_ints : ∀ ns : List Int, intsOf (ns.map .int) = some ns
  | [] => rfl
  | n :: ns => by
    rw [List.map_cons]
    simp only [intsOf, intsOf_ints ns, Option.map_some]
/-- what is told of a place -/
inductive Tld (l : List (Int × Int)) (p : Int × Int) (B : Nat) : PyData → Prop
  | sums (ns : List Int) : ns.length = l.length → ns.sum = 0 → cmb ns l = p → (∀ x, x ∈ ns → x.natAbs < 2 ^ B) → Net.Sn (waysOf l) p → Tld l p B (.tuple [.str "sums", .tuple (ns.map .int)])
  | apart (t : Int × Int × Int) : Pts (waysOf l) p t → t.1.natAbs < 2 ^ B → t.2.1.natAbs < 2 ^ B → t.2.2.natAbs < 2 ^ B → ¬ Net.Sn (waysOf l) p → Tld l p B (.tuple [.str "apart", .int t.1, .int t.2.1, .int t.2.2])
/-! things with no great numbers -/
noncomputable def elB (b : Nat) : PyData → Bool
  | .int i => decide (i.natAbs < 2 ^ b)
  | .tuple ys => decide (ys.length ≤ 1000) && ys.all fun y => match y with
    | .int i => decide (i.natAbs < 2 ^ b)
    | _ => true
  | _ => true
noncomputable def thB (b : Nat) : PyData → Bool
  | .tuple xs => decide (xs.length ≤ 1000) && xs.all (elB b)
  | _ => true
structure Th (t : PyData) : Prop where
  b : thB 1900 t = true
  r : Rk 8 400000 t
theorem bin_mul_ll {a : List PyData} {n : Nat} (h : n ≤ 1000) (ha : a.length ≤ 1) : binP .mul (.list a) (.int (n : Int)) = some (.list (List.replicate n a).flatten) := by
  simp only [binP]
  rw [if_pos, Int.toNat_natCast]
  refine ⟨by omega, by omega, ?_⟩
  rw [Int.toNat_natCast, sizeLine_eq]
  have : a.length * n ≤ 1 * n := Nat.mul_le_mul_right _ ha
  omega
theorem ev_bin_gen {op : BK} {cf : CallF} {a b : IE} {s : Env} {S : Store} {p q : PyData} {z : Option PyData} (ha : evE cf a s S = .ok (.dat p) S) (hb : evE cf b s S = .ok (.dat q) S) (e : binP op p q = z) :
    evE cf (.bin op a b) s S = optD z S := by
  subst e
  simp only [evE, ha, hb, Out.bind_ok]
  cases op <;> rfl
theorem ev_mul_ll {cf : CallF} {a b : IE} {s : Env} {S : Store} {xs : List PyData} {n : Nat} (ha : evE cf a s S = .ok (.dat (.list xs)) S) (hb : evE cf b s S = .ok (.dat (.int (n : Int))) S) (h : n ≤ 1000) (hx : xs.length ≤ 1) :
    evE cf (.bin .mul a b) s S = .ok (.dat (.list (List.replicate n xs).flatten)) S :=
  (ev_bin_gen ha hb (bin_mul_ll h hx)).trans (optD_some _ _)
/-- parts of things -/
structure El (x : PyData) : Prop where
  b : elB 1900 x = true
  r : Rk 1 60000 x
end IP
/-! stores without loose ends: a call that leaves all as it was leaves the very store -/
namespace IP
open PySem PySem.Spec PyProof.Rows L2
noncomputable def Wf (S : Store) : Prop := S.all (·.below S.length) = true
theorem wf_lst {S : Store} {xs : List PyData} (h : Wf S) : Wf (S ++ [.lst xs]) := by
  unfold Wf at h ⊢
  rw [List.all_append, Bool.and_eq_true, List.length_append]
  refine ⟨List.all_eq_true.mpr fun o ho => ?_, rfl⟩
  have := List.all_eq_true.mp h o ho
  cases o with
  | ins c fs =>
    simp only [Ob.below, List.all_eq_true] at this ⊢
    intro x hx
    have := this x hx
    cases q : x.2 with
    | ref l =>
      rw [q] at this
      simp only [below, decide_eq_true_eq] at this ⊢
      omega
    | _ => rfl
  | _ => rfl
/-- what the pen's calls leave -/
theorem wf_of {l : Nat} {S S' : Store} {xs : List PyData} (h : Wf S) (hl : S.length = S'.length) (hp : S'[l]? = some (.lst xs)) (f : ∀ m, m < S.length → m ≠ l → S'[m]? = S[m]?) : Wf S' := by
  unfold Wf at h ⊢
  rw [List.all_eq_true] at h ⊢
  intro o ho
  obtain ⟨m, hm⟩ := List.mem_iff_getElem?.mp ho
  have lm := (List.getElem?_eq_some_iff.mp hm).1
  by_cases e : m = l
  · subst e
    rw [hp] at hm
    cases hm
    rfl
  · rw [f m (by omega) e] at hm
    rw [← hl]
    exact h o (List.mem_of_getElem? hm)
theorem leave_wf {n l : Nat} {v : Val} {S0 S S' : Store} {xs : List PyData} {d : PyData} (h : Wf S0) (hn : S0.length = n) (e : leave n v S = .ok (.dat d) S') (hl : l < n)
    (hp : S'[l]? = some (.lst xs)) (f : ∀ m, m < S0.length → m ≠ l → S'[m]? = S0[m]?) (len : S0.length ≤ S'.length) : S0.length = S'.length ∧ Wf S' := by
  suffices H : S0.length = S'.length from ⟨H, wf_of h H hp f⟩
  unfold leave at e
  split at e
  · rename_i h1
    cases e
    omega
  · split at e
    · rename_i h1 h2
      cases e
      rw [List.length_take] at len ⊢
      omega
    · rename_i h1 h2
      cases e
      refine absurd ⟨rfl, ?_⟩ h2
      rw [List.all_eq_true]
      intro o ho
      obtain ⟨m, hm⟩ := List.mem_iff_getElem?.mp ho
      have lm := (List.getElem?_eq_some_iff.mp hm).1
      rw [List.length_take] at lm
      rw [List.getElem?_take] at hm
      split at hm
      · by_cases e : m = l
        · subst e
          rw [hp] at hm
          cases hm
          rfl
        · rw [f m (by omega) e] at hm
          have := List.all_eq_true.mp h o (List.mem_of_getElem? hm)
          rw [hn] at this
          exact this
      · cases hm
theorem leave_same {n : Nat} {v : Val} {S0 S S' : Store} {d : PyData} (h : Wf S0) (hn : S0.length = n) (e : leave n v S = .ok (.dat d) S') (X : Ex S0 S') : S' = S0 := by
  have tk : S'.take S0.length = S0 := by
    apply List.ext_getElem?
    intro m
    rw [List.getElem?_take]
    split
    · rename_i hm
      exact X.at_ m hm
    · rename_i hm
      rw [List.getElem?_eq_none (by omega)]
  have len := X.len
  have H : S'.length = S0.length := by
    unfold leave at e
    split at e
    · rename_i h1
      cases e
      omega
    · split at e
      · rename_i h1 h2
        cases e
        rw [List.length_take] at len ⊢
        omega
      · rename_i h1 h2
        cases e
        refine absurd ⟨rfl, ?_⟩ h2
        rw [← hn, tk]
        exact h
  rw [List.take_of_length_le (by omega)] at tk
  exact tk
theorem callN_leave {P : List (Option FD)} {W : Option Nat} {k f : Nat} {vs : List Val} {S S' : Store} {v : Val} (e : callN P W k f vs S = .ok v S') : ∃ w S1, leave S.length w S1 = .ok v S' := by
  cases k with
  | zero => cases e
  | succ k =>
    unfold callN at e
    split at e
    · split at e
      · split at e
        · exact ⟨_, _, e⟩
        · exact ⟨_, _, e⟩
        · cases e
        · cases e
      · cases e
    · cases e
/-- a call of the pen -/
theorem wf_pen {P : List (Option FD)} {W : Option Nat} {k f n l : Nat} {vs : List Val} {S : Store} {R : Val → Prop} (h : Wf S) (hl : l < S.length) (hR : ∀ v, R v → ∃ d, v = Val.dat d)
    (c : (callN P W k f vs S).sat fun v S' => R v ∧ Pen n l S' ∧ Fr l S S') : (callN P W k f vs S).sat fun v S' => R v ∧ Pen n l S' ∧ Fr l S S' ∧ Wf S' := by
  obtain ⟨v, S', e, r, p, fr⟩ := sat_ex c
  rw [e]
  obtain ⟨w, S1, e1⟩ := callN_leave e
  obtain ⟨d, rfl⟩ := hR v r
  obtain ⟨a, b, c, hp, _⟩ := p.ex
  exact .ok ⟨r, p, fr, (leave_wf h rfl e1 hl hp fr.at_ fr.len).2⟩
/-- a call that leaves all as it was -/
theorem wf_ex {P : List (Option FD)} {W : Option Nat} {k f : Nat} {vs : List Val} {S : Store} {R : Val → Prop} (h : Wf S) (hR : ∀ v, R v → ∃ d, v = Val.dat d)
    (c : (callN P W k f vs S).sat fun v S' => R v ∧ Ex S S') : ∃ v, callN P W k f vs S = .ok v S ∧ R v := by
  obtain ⟨v, S', e, r, X⟩ := sat_ex c
  obtain ⟨w, S1, e1⟩ := callN_leave e
  obtain ⟨d, rfl⟩ := hR v r
  have := leave_same h rfl e1 X
  rw [this] at e
  exact ⟨_, e, r⟩
theorem cells_okW {W : Option Nat} {cf : CallF} {cellF penF c : Nat} {N : Int} {body : List IS} {ns : List Int} (n0 : 0 ≤ N) (n1 : N ≤ 1000)
    (hcell : ∀ (i : Nat) (S : Store), S[0]? = some (.frz (ns.map .int)) → ∃ x : Int, cf cellF [.ref 0, .dat (.int (i : Int))] S = .ok (.dat (.int x)) S)
    (hpen : ∀ (x : Int) (S : Store), ∃ a b : Int, cf penF [.dat (.int x)] S = .ok (.ref S.length) (S ++ [.lst [.int a, .int b, .int 0]]) ∧ 0 ≤ b ∧ b < 2 ^ 31)
    (hbody : ∀ (l : Nat) (S : Store) (v1 : Option Val) (rest : Env), rest.length = c → Pen 0 l S → l ≠ 0 → Wf S → S[0]? = some (.frz (ns.map .int)) →
      (evSs W cf body (some (.ref 0) :: v1 :: some (.ref l) :: rest) S).sat fun r S' => ∃ v1' v2' rest', r = .nx (some (.ref 0) :: v1' :: v2' :: rest') ∧ rest'.length = c ∧ Fr l S S' ∧ Wf S') (v1 v2 : Option Val) (rest : Env) (hr : rest.length = c) :
    (evSs W cf (cellsOf cellF penF N body) (some (.ref 0) :: v1 :: v2 :: rest) [.frz (ns.map .int)]).sat fun r S' => retOf r = .dat (.bool true) := by
  unfold cellsOf
  refine sat_seq ?_
  obtain ⟨m, hm, m0', m1'⟩ : ∃ m : Int, (if N < ((ns.map PyData.int).length : Int) then N else ((ns.map PyData.int).length : Int)) = m ∧ 0 ≤ m ∧ m ≤ 1000 := ⟨_, rfl, by split <;> omega, by split <;> omega⟩
  obtain ⟨q, hq, q0, q1⟩ : ∃ q : Int, (if m > 1 then m else 1) = q ∧ 0 ≤ q ∧ q ≤ 1000 := ⟨_, rfl, by split <;> omega, by split <;> omega⟩
  refine sat_for (xs := intRange 0 q) (S1 := [.frz (ns.map .int)]) ?_ ?_
  · simp only [evE, evL, Out.bind_ok, List.getElem?_cons_zero, lookF_frz (S := [.frz (ns.map .int)]) (l := 0) rfl, lookF_dat, bf_len_l, bf_min2, bf_max2, optD_some]
    rw [hm, hq, small_of (by omega) (by omega)]
    rfl
  refine for_inv (fun i s S' => (∃ v1 v2 rest, s = some (Val.ref 0) :: v1 :: v2 :: rest ∧ rest.length = c) ∧ Wf S' ∧ S'[0]? = some (.frz (ns.map .int))) _ ⟨⟨_, _, _, rfl, hr⟩, rfl, rfl⟩ ?_ ?_
  · rintro i x s S e ⟨⟨v1, v2, rest, rfl, hr⟩, wf, h0⟩
    obtain ⟨rfl, hi⟩ := rg_at e
    obtain ⟨x, hx⟩ := hcell i S h0
    obtain ⟨a, b, hp, b0, b1⟩ := hpen x S
    have sl : 0 < S.length := (List.getElem?_eq_some_iff.mp h0).1
    have l1 : (1 : Nat) < (some (Val.ref 0) :: v1 :: v2 :: rest).length := by simp
    have l2 : ∀ u, (2 : Nat) < (some (Val.ref 0) :: u :: v2 :: rest).length := fun u => by simp
    simp only [stepF, bind_nm, l1, if_true]
    simp only [List.set_cons_zero, List.set_cons_succ]
    refine sat_seq ?_
    simp only [evS, evE, evL, Out.bind_ok, List.getElem?_cons_zero, List.getElem?_cons_succ, dfl, List.map_nil, List.append_nil, hx, hp, asT, l2, if_true, List.set_cons_zero, List.set_cons_succ, sat_okI]
    have w1 : Wf (S ++ [Ob.lst [PyData.int a, .int b, .int 0]]) := wf_lst wf
    generalize hS1 : S ++ [Ob.lst [PyData.int a, .int b, .int 0]] = S1 at w1 ⊢
    have P1 : Pen 0 S.length S1 := ⟨a, b, 0, by rw [← hS1]; simp, b0, b1, by omega, by omega⟩
    have h1 : S1[0]? = some (.frz (ns.map .int)) := by rw [← hS1, List.getElem?_append_left sl]; exact h0
    have sl1 : 0 < S1.length := (List.getElem?_eq_some_iff.mp h1).1
    refine sat_mono (hbody S.length S1 _ rest hr P1 (by omega) w1 h1) ?_
    rintro r S2 ⟨x1, x2, rest', rfl, hr', F2, w2⟩
    exact ⟨_, rfl, ⟨_, _, _, rfl, hr'⟩, w2, by rw [F2.at_ 0 sl1 (by omega)]; exact h1⟩
  · rintro s S ⟨⟨v1, v2, rest, rfl, hr⟩, wf, h0⟩
    refine sat_seq ?_
    simp only [evS, evE, Out.bind_ok, sat_okI, retOf]
end IP
/-! what is refused: things that are no lays, no rows, no runs -/
namespace IP
open PySem PySem.Spec PyProof.Rows L2
theorem finD_exc {c : Nat} {fs : List PyData} {S : Store} {n : Nat} : finD (.exc c fs S) n = .exc c fs S := rfl
theorem said_ok {p : PyData} {S : Store} : saidO (.ok (.dat p) S) = optD (bfP .repr [p]) S := rfl
theorem said_0 {S : Store} : saidO (.exc 0 [] S) = .ok (.dat (.str "! lay")) S := rfl
theorem said_1 {S : Store} : saidO (.exc 1 [] S) = .ok (.dat (.str "! place")) S := rfl
theorem said_2 {S : Store} : saidO (.exc 2 [] S) = .ok (.dat (.str "! token")) S := rfl
theorem said_3 {S : Store} : saidO (.exc 3 [] S) = .ok (.dat (.str "! leap")) S := rfl
theorem said_4 {S : Store} : saidO (.exc 4 [] S) = .ok (.dat (.str "! row")) S := rfl
theorem said_5 {S : Store} : saidO (.exc 5 [] S) = .ok (.dat (.str "! run")) S := rfl
theorem said_6 {S : Store} : saidO (.exc 6 [] S) = .ok (.dat (.str "! runs")) S := rfl
theorem said_7 {S : Store} : saidO (.exc 7 [] S) = .ok (.dat (.str "! number")) S := rfl
theorem said_8 {S : Store} : saidO (.exc 8 [] S) = .ok (.dat (.str "! wishes")) S := rfl
theorem said_9 {S : Store} : saidO (.exc 9 [] S) = .ok (.dat (.str "! unlike")) S := rfl
theorem said_10 {S : Store} : saidO (.exc 10 [] S) = .ok (.dat (.str "! deed")) S := rfl
theorem said_11 {S : Store} : saidO (.exc 11 [] S) = .ok (.dat (.str "! text")) S := rfl
theorem said_12 {S : Store} : saidO (.exc 12 [] S) = .ok (.dat (.str "! line")) S := rfl
/-- not as long as the greatest list -/
noncomputable def few : PyData → Prop
  | .tuple xs => xs.length < sizeLine
  | _ => True
theorem wts_len : ∀ xs : List PyData, xs.length ≤ wts xs
  | [] => Nat.le_refl _
  | x :: xs => by
    have := wts_len xs
    simp only [wts, List.length_cons]
    omega
theorem Gd.few {b d n : Nat} {p : PyData} (h : Gd b d n p) (hn : n ≤ 100000) : few p := by
  cases p with
  | tuple xs =>
    have h1 := h.w
    have h2 := wts_len xs
    simp only [wt] at h1
    show xs.length < sizeLine
    rw [sizeLine_eq]
    omega
  | _ => exact True.intro
theorem cut_last {A : Type} {l : List A} : cutP l none (some (-1)) = l.take (l.length - 1) := by
  have e : HT.sIx l.length l.length (some (-1)) = l.length - 1 := by
    unfold HT.sIx
    cases l with
    | nil => rfl
    | cons x l =>
      simp only [List.length_cons]
      first | (split <;> omega) | (simp; omega) | omega
  unfold cutP
  rw [e]
  rfl
theorem all_nil {A : Type} {Q : A → Prop} : ∀ x, x ∈ ([] : List A) → Q x := fun x h => nomatch h
theorem all_cons {A : Type} {Q : A → Prop} {a : A} {l : List A} (h : Q a) (k : ∀ x, x ∈ l → Q x) : ∀ x, x ∈ a :: l → Q x := fun x hx => by
  rcases List.mem_cons.mp hx with rfl | hx
  · exact h
  · exact k x hx
end IP
/-! a run that ends within so many turns of each while ends the same without a limit -/
namespace IP
open PySem PySem.Spec PyProof.Rows L2
/-- o' is o, where o is told -/
noncomputable def Le {A : Type} (o o' : Out A) : Prop := o ≠ .err → o' = o
theorem le_refl {A : Type} {o : Out A} : Le o o := fun _ => rfl
section
variable {cf cf' : CallF}
end
end IP
namespace IP
open PySem PySem.Spec PyProof.Rows L2

/-! ### lots: who stands where -/
noncomputable def lotG (G : List ((Int × Int) × List Int)) (p : Int × Int) : List Int := ((G.find? fun g => decide (g.1 = p)).map (·.2)).getD []
noncomputable def putG (G : List ((Int × Int) × List Int)) (p : Int × Int) (r : List Int) : List ((Int × Int) × List Int) :=
  if (G.any fun g => decide (g.1 = p)) = true then G.map fun g => if g.1 = p then (g.1, r) else g else G ++ [(p, r)]
/-- rows are small, of tokens below t -/
structure LotB (t : Nat) (G : List ((Int × Int) × List Int)) : Prop where
  len : G.length ≤ t
  row : ∀ g ∈ G, g.2 ≠ [] ∧ g.2.length ≤ t ∧ ∀ x ∈ g.2, 0 ≤ x ∧ x < t
theorem lotG_mem {G : List ((Int × Int) × List Int)} {p : Int × Int} : lotG G p = [] ∨ ∃ g ∈ G, g.1 = p ∧ g.2 = lotG G p := by
  unfold lotG
  cases h : G.find? (fun g => decide (g.1 = p)) with
  | none => exact .inl rfl
  | some g => exact .inr ⟨g, List.mem_of_find?_eq_some h, by simpa using List.find?_some h, rfl⟩
theorem LotB.put {t : Nat} {G : List ((Int × Int) × List Int)} (h : LotB t G) (p : Int × Int) : LotB (t + 1) (putG G p (lotG G p ++ [(t : Int)])) := by
  have nr : lotG G p ++ [(t : Int)] ≠ [] ∧ (lotG G p ++ [(t : Int)]).length ≤ t + 1 ∧ ∀ x ∈ lotG G p ++ [(t : Int)], 0 ≤ x ∧ x < ((t + 1 : Nat) : Int) := by
    refine ⟨by simp, ?_, fun x hx => ?_⟩
    · rw [List.length_append, List.length_singleton]
      rcases lotG_mem (G := G) (p := p) with e | ⟨g, hg, _, e⟩
      · rw [e]
        simp
      · rw [← e]
        have := (h.row g hg).2.1
        omega
    · rcases List.mem_append.mp hx with hx | hx
      · rcases lotG_mem (G := G) (p := p) with e | ⟨g, hg, _, e⟩
        · rw [e] at hx
          cases hx
        · rw [← e] at hx
          have := (h.row g hg).2.2 x hx
          omega
      · rw [List.mem_singleton.mp hx]
        omega
  have old : ∀ g ∈ G, g.2 ≠ [] ∧ g.2.length ≤ t + 1 ∧ ∀ x ∈ g.2, 0 ≤ x ∧ x < ((t + 1 : Nat) : Int) := fun g hg => by
    obtain ⟨a, b, c⟩ := h.row g hg
    exact ⟨a, by omega, fun x hx => by have := c x hx; omega⟩
  unfold putG
  split
  · refine ⟨by rw [List.length_map]; have := h.len; omega, fun g hg => ?_⟩
    obtain ⟨g0, h0, rfl⟩ := List.mem_map.mp hg
    by_cases e : g0.1 = p
    · rw [if_pos e]
      exact nr
    · rw [if_neg e]
      exact old g0 h0
  · refine ⟨by rw [List.length_append, List.length_singleton]; have := h.len; omega, fun g hg => ?_⟩
    rcases List.mem_append.mp hg with hg | hg
    · exact old g hg
    · rw [List.mem_singleton.mp hg]
      exact nr
theorem LotB.nil : LotB 0 [] := ⟨Nat.le_refl _, fun _ h => by cases h⟩
/-! lots by what stands alike -/
noncomputable def rowAt (Q : List (Int × Int)) (p : Int × Int) : List Int := (Q.zipIdx.filter (fun z => decide (z.1 = p))).map fun z => (z.2 : Int)
theorem rowsAt_snoc {Q : List (Int × Int)} {q p : Int × Int} : rowAt (Q ++ [q]) p = rowAt Q p ++ (if q = p then [(Q.length : Int)] else []) := by
  unfold rowAt
  rw [List.zipIdx_append, List.filter_append, List.map_append]
  congr 1
  by_cases h : q = p <;> simp [h]
theorem find_put {p q : Int × Int} {r : List Int} : ∀ G : List ((Int × Int) × List Int), ((G.map fun g => if g.1 = p then (g.1, r) else g).find? fun g => decide (g.1 = q)).map (·.2) = ((G.find? fun g => decide (g.1 = q))).map fun g => if q = p then r else g.2
  | [] => rfl
  | g :: G => by
    rw [List.map_cons, List.find?_cons, List.find?_cons]
    have e : (if g.1 = p then (g.1, r) else g).1 = g.1 := by split <;> rfl
    rw [e]
    by_cases h : g.1 = q
    · rw [decide_eq_true h]
      show some (if g.1 = p then (g.1, r) else g).2 = some (if q = p then r else g.2)
      by_cases h2 : q = p
      · rw [if_pos (h.trans h2), if_pos h2]
      · rw [if_neg (fun z => h2 (h.symm.trans z)), if_neg h2]
    · rw [decide_eq_false h]
      exact find_put G
theorem lotG_put {G : List ((Int × Int) × List Int)} {p q : Int × Int} {r : List Int} : lotG (putG G p r) q = if q = p then r else lotG G q := by
  unfold putG
  split
  · rename_i h
    unfold lotG
    rw [find_put]
    by_cases e : q = p
    · rw [if_pos e, e]
      obtain ⟨g, hg, h2⟩ := List.any_eq_true.mp h
      have : (G.find? fun g => decide (g.1 = p)).isSome = true := List.find?_isSome.mpr ⟨g, hg, h2⟩
      cases z : G.find? fun g => decide (g.1 = p) with
      | none => rw [z] at this; cases this
      | some y => simp
    · simp only [if_neg e]
  · rename_i h
    unfold lotG
    rw [List.find?_append]
    by_cases e : q = p
    · rw [if_pos e, e]
      have : (G.find? fun g => decide (g.1 = p)) = none := List.find?_eq_none.mpr fun g hg z => h (List.any_eq_true.mpr ⟨g, hg, z⟩)
      rw [this]
      simp
    · rw [if_neg e]
      have : ([(p, r)] : List ((Int × Int) × List Int)).find? (fun g => decide (g.1 = q)) = none := List.find?_eq_none.mpr fun g hg z => by
        rw [List.mem_singleton.mp hg] at z
        exact e (of_decide_eq_true z).symm
      rw [this]
      simp
structure LotI (Q : List (Int × Int)) (G : List ((Int × Int) × List Int)) : Prop where
  nd : (G.map (·.1)).Nodup
  lot : ∀ p, lotG G p = rowAt Q p
  own : ∀ g ∈ G, g.2 = rowAt Q g.1
  key : ∀ p, p ∈ G.map (·.1) ↔ p ∈ Q
theorem LotI.put {Q : List (Int × Int)} {G : List ((Int × Int) × List Int)} (h : LotI Q G) (p : Int × Int) : LotI (Q ++ [p]) (putG G p (lotG G p ++ [(Q.length : Int)])) := by
  have er : lotG G p ++ [(Q.length : Int)] = rowAt (Q ++ [p]) p := by rw [h.lot, rowsAt_snoc, if_pos rfl]
  have oth : ∀ q, q ≠ p → rowAt (Q ++ [p]) q = rowAt Q q := fun q hq => by rw [rowsAt_snoc, if_neg (Ne.symm hq), List.append_nil]
  have kin : (G.any fun g => decide (g.1 = p)) = true ↔ p ∈ Q := by
    rw [← h.key p, List.any_eq_true, List.mem_map]
    constructor
    · rintro ⟨g, hg, e⟩
      exact ⟨g, hg, of_decide_eq_true e⟩
    · rintro ⟨g, hg, e⟩
      exact ⟨g, hg, decide_eq_true e⟩
  refine ⟨?_, fun q => ?_, fun g hg => ?_, fun q => ?_⟩
  · unfold putG
    split
    · have : (G.map fun g => if g.1 = p then (g.1, lotG G p ++ [(Q.length : Int)]) else g).map (·.1) = G.map (·.1) := by
        rw [List.map_map]
        refine List.map_congr_left fun g _ => ?_
        show (if g.1 = p then (g.1, lotG G p ++ [(Q.length : Int)]) else g).1 = g.1
        split <;> rfl
      rw [this]
      exact h.nd
    · rename_i k
      rw [List.map_append]
      refine List.nodup_append.mpr ⟨h.nd, by simp, fun a ha b hb e => ?_⟩
      rw [List.map_singleton, List.mem_singleton] at hb
      rw [e, hb] at ha
      exact k (kin.mpr ((h.key p).mp ha))
  · rw [lotG_put]
    by_cases e : q = p
    · rw [if_pos e, e]
      exact er
    · rw [if_neg e, oth q e]
      exact h.lot q
  · unfold putG at hg
    split at hg
    · obtain ⟨g0, h0, rfl⟩ := List.mem_map.mp hg
      by_cases e : g0.1 = p
      · rw [if_pos e]
        show lotG G p ++ _ = rowAt _ g0.1
        rw [e]
        exact er
      · rw [if_neg e, oth _ e]
        exact h.own g0 h0
    · rename_i k
      rcases List.mem_append.mp hg with h0 | h0
      · rw [oth _ fun e => k (kin.mpr ((h.key p).mp (e ▸ List.mem_map.mpr ⟨g, h0, rfl⟩)))]
        exact h.own g h0
      · rw [List.mem_singleton.mp h0]
        exact er
  · unfold putG
    split
    · rename_i k
      have : (G.map fun g => if g.1 = p then (g.1, lotG G p ++ [(Q.length : Int)]) else g).map (·.1) = G.map (·.1) := by
        rw [List.map_map]
        refine List.map_congr_left fun g _ => ?_
        show (if g.1 = p then (g.1, lotG G p ++ [(Q.length : Int)]) else g).1 = g.1
        split <;> rfl
      rw [this, h.key, List.mem_append, List.mem_singleton]
      constructor
      · exact .inl
      · rintro (z | rfl)
        · exact z
        · exact kin.mp k
    · rw [List.map_append, List.mem_append, h.key, List.mem_append, List.map_singleton]
end IP
namespace IP
open PySem PySem.Spec PyProof.Rows L2

/-! ### what stays behind leaps: net, stands, lots -/
theorem ways_mem {l : List (Int × Int)} {w : Int × Int} : w ∈ waysOf l ↔ ∃ i, i < l.length ∧ w = ((atL l i).1 - (atL l 0).1, (atL l i).2 - (atL l 0).2) := by
  unfold waysOf
  rw [List.mem_map]
  constructor
  · rintro ⟨p, hp, rfl⟩
    obtain ⟨i, hi⟩ := List.getElem?_of_mem hp
    have h1 := (List.getElem?_eq_some_iff.mp hi).1
    rw [at_lay h1] at hi
    have e := Option.some.inj hi
    exact ⟨i, h1, by rw [e]⟩
  · rintro ⟨i, hi, rfl⟩
    exact ⟨atL l i, at_mem hi, rfl⟩
theorem sn_diff {l : List (Int × Int)} {i j : Nat} (hi : i < l.length) (hj : j < l.length) : Net.Sn (waysOf l) ((atL l i).1 - (atL l j).1, (atL l i).2 - (atL l j).2) := by
  have h1 := Net.Sn.mem (ways_mem.mpr ⟨i, hi, rfl⟩)
  have h2 := Net.Sn.mem (ways_mem.mpr ⟨j, hj, rfl⟩)
  have h := Net.Sn.lin 1 (-1) h1 h2
  have e : ((atL l i).1 - (atL l j).1, (atL l i).2 - (atL l j).2) = (1 * ((atL l i).1 - (atL l 0).1) + -1 * ((atL l j).1 - (atL l 0).1), 1 * ((atL l i).2 - (atL l 0).2) + -1 * ((atL l j).2 - (atL l 0).2)) := by
    ext <;> simp only <;> omega
  rw [e]
  exact h
theorem leap_at {l : List (Int × Int)} {r : Nat × Nat} {i : Nat} (h : r.1 < l.length) : atL (leap l r) i = if i = r.1 then bey (atL l r.1) (atL l r.2) else atL l i := by
  unfold leap
  show (l.set r.1 _).getD i (0, 0) = _
  rw [List.getD_eq_getElem?_getD]
  by_cases e : i = r.1
  · rw [if_pos e, e, List.getElem?_set_self h]
    rfl
  · rw [if_neg e, List.getElem?_set_ne (Ne.symm e), ← List.getD_eq_getElem?_getD]
    rfl
/-- the token that leaps goes by twice a step -/
theorem leap_way {l : List (Int × Int)} {r : Nat × Nat} (h : Lp l.length r) (i : Nat) (hi : i < l.length) : ∃ s, Net.Sn (waysOf l) s ∧ atL (leap l r) i = ((atL l i).1 + 2 * s.1, (atL l i).2 + 2 * s.2) := by
  rw [leap_at h.1]
  by_cases e : i = r.1
  · rw [if_pos e, e]
    refine ⟨_, sn_diff h.2.1 h.1, ?_⟩
    unfold bey
    ext <;> simp only <;> omega
  · rw [if_neg e]
    exact ⟨(0, 0), .zero, by simp⟩
theorem leap_le {l : List (Int × Int)} {r : Nat × Nat} (h : Lp l.length r) : Net.Le (waysOf (leap l r)) (waysOf l) := fun w hw => by
  obtain ⟨i, hi, rfl⟩ := ways_mem.mp hw
  rw [leap_len] at hi
  obtain ⟨s, hs, e1⟩ := leap_way h i hi
  obtain ⟨t, ht, e2⟩ := leap_way h 0 (by omega)
  rw [e1, e2]
  have h1 := (sn_diff hi (show 0 < l.length by omega)).plus (Net.Sn.lin 2 (-2) hs ht)
  have e : ((atL l i).1 + 2 * s.1 - ((atL l 0).1 + 2 * t.1), (atL l i).2 + 2 * s.2 - ((atL l 0).2 + 2 * t.2)) = (((atL l i).1 - (atL l 0).1) + (2 * s.1 + -2 * t.1), ((atL l i).2 - (atL l 0).2) + (2 * s.2 + -2 * t.2)) := by
    ext <;> simp only <;> omega
  rw [e]
  exact h1
theorem leap_twice {l : List (Int × Int)} {r : Nat × Nat} (h : Lp l.length r) : leap (leap l r) r = l := by
  have a1 : atL (leap l r) r.1 = bey (atL l r.1) (atL l r.2) := by rw [leap_at h.1, if_pos rfl]
  have a2 : atL (leap l r) r.2 = atL l r.2 := by rw [leap_at h.1, if_neg (Ne.symm h.2.2)]
  have a3 : bey (bey (atL l r.1) (atL l r.2)) (atL l r.2) = atL l r.1 := by
    unfold bey
    ext <;> simp only <;> omega
  have e : leap (leap l r) r = (leap l r).set r.1 (atL l r.1) := by
    show (leap l r).set r.1 (bey (atL (leap l r) r.1) (atL (leap l r) r.2)) = _
    rw [a1, a2, a3]
  rw [e]
  unfold leap
  rw [List.set_set]
  apply List.ext_getElem?
  intro i
  by_cases q : i = r.1
  · rw [q, List.getElem?_set_self h.1, at_lay h.1]
  · rw [List.getElem?_set_ne (Ne.symm q)]
structure Stay (l l' : List (Int × Int)) : Prop where
  len : l'.length = l.length
  le : Net.Le (waysOf l') (waysOf l)
  ge : Net.Le (waysOf l) (waysOf l')
  al : ∀ i, i < l.length → Al (waysOf l) (atL l' i) (atL l i)
theorem Stay.refl {l : List (Int × Int)} : Stay l l := ⟨rfl, .refl, .refl, fun _ _ => .refl⟩
theorem Stay.trans {a b c : List (Int × Int)} (h : Stay a b) (k : Stay b c) : Stay a c :=
  ⟨k.len.trans h.len, k.le.trans h.le, h.ge.trans k.ge, fun i hi => ((k.al i (by rw [h.len]; exact hi)).le h.le).trans (h.al i hi)⟩
theorem stay_leap {l : List (Int × Int)} {r : Nat × Nat} (h : Lp l.length r) : Stay l (leap l r) := by
  refine ⟨leap_len, leap_le h, ?_, fun i hi => ?_⟩
  · have k := leap_le (l := leap l r) (r := r) (by rw [leap_len]; exact h)
    rw [leap_twice h] at k
    exact k
  · obtain ⟨s, hs, e⟩ := leap_way h i hi
    exact ⟨s, hs, e⟩
theorem stay_leaps : ∀ {r : List (Nat × Nat)} {l : List (Int × Int)}, (∀ x, x ∈ r → Lp l.length x) → Stay l (r.foldl leap l)
  | [], l, _ => .refl
  | x :: r, l, h => (stay_leap (h x List.mem_cons_self)).trans (stay_leaps fun y hy => by rw [leap_len]; exact h y (List.mem_cons_of_mem _ hy))
theorem stay_runs {b : Nat} : ∀ {r : List Rn} {l : List (Int × Int)}, (∀ x, x ∈ r → Rok l.length b x) → Stay l (r.foldl runD l)
  | [], l, _ => .refl
  | x :: r, l, h => by
    have hx := h x List.mem_cons_self
    have s : Stay l (runD l x) := by
      rw [← run_leaps hx]
      exact stay_leaps fun z hz => alt_mem hx z hz
    exact s.trans (stay_runs fun y hy => by rw [runD_len]; exact h y (List.mem_cons_of_mem _ hy))
theorem Stay.nt {l l' nt : List (Int × Int)} (s : Stay l l') (N : Nt l nt) : Nt l' nt := ⟨N.nf, N.le.trans s.ge, s.le.trans N.ge⟩
theorem Stay.stands {l l' nt : List (Int × Int)} (s : Stay l l') (N : Nt l nt) : l'.map (brg nt) = l.map (brg nt) := by
  apply List.ext_getElem?
  intro i
  rw [List.getElem?_map, List.getElem?_map]
  by_cases hi : i < l.length
  · rw [at_lay hi, at_lay (by rw [s.len]; exact hi)]
    show some (brg nt (atL l' i)) = some (brg nt (atL l i))
    rw [(brg_eq N.nf).mpr ((s.al i hi).le N.ge)]
  · have e := s.len
    rw [List.getElem?_eq_none (by omega), List.getElem?_eq_none (by omega)]

/-! what is told of places, behind leaps -/
theorem Stay.pts {l l' : List (Int × Int)} (s : Stay l l') {p : Int × Int} {t : Int × Int × Int} (h : Pts (waysOf l) p t) : Pts (waysOf l') p t := ⟨h.two, fun w hw => sn_lin h.all (s.le w hw), h.not⟩
end IP
namespace IP
open PySem PySem.Spec PyProof.Rows L2
/-! ### lays by numbers along the steps -/
noncomputable def emb (s t b c : Int × Int) : Int × Int := (b.1 + c.1 * s.1 + c.2 * t.1, b.2 + c.1 * s.2 + c.2 * t.2)
/-! ### one leap, a shift -/
noncomputable def tn (C : List (Int × Int)) (t o : Nat) : List (Int × Int) := C.set t (bey (atL C t) (atL C o))
noncomputable def shP (C : List (Int × Int)) (t f l : Nat) (k : Int) : Int × Int := ((atL C t).1 + 2 * k * ((atL C l).1 - (atL C f).1), (atL C t).2 + 2 * k * ((atL C l).2 - (atL C f).2))
noncomputable def sh (C : List (Int × Int)) (t f l : Nat) (k : Int) : List (Int × Int) := C.set t (shP C t f l k)
noncomputable def shR (t f l : Nat) (k : Int) : List Rn := if 0 < k then [(t, f, l, (2 * k).toNat)] else if k < 0 then [(t, l, f, (2 * -k).toNat)] else []
theorem tn_run {C : List (Int × Int)} {t o : Nat} : runD C (t, o, o, 1) = tn C t o := by
  unfold runD tn runE runP
  simp
theorem set_self {C : List (Int × Int)} {t : Nat} (h : t < C.length) : C.set t (atL C t) = C := by
  apply List.ext_getElem?
  intro i
  by_cases e : t = i
  · subst e
    rw [List.getElem?_set_self h, at_lay h]
  · rw [List.getElem?_set_ne e]
theorem sh_zero {C : List (Int × Int)} {t f l : Nat} (h : t < C.length) : sh C t f l 0 = C := by
  unfold sh shP
  simp only [Int.mul_zero, Int.zero_mul, Int.add_zero]
  exact set_self h
theorem shR_runs {C : List (Int × Int)} {t f l : Nat} {k : Int} (h : t < C.length) : (shR t f l k).foldl runD C = sh C t f l k := by
  unfold shR
  split
  · rename_i h0
    rw [List.foldl_cons, List.foldl_nil]
    unfold runD runE runP sh shP
    have e1 : (2 * k).toNat % 2 = 0 := by omega
    have e2 : (((2 * k).toNat / 2 : Nat) : Int) = k := by omega
    simp only [e1, e2]
    congr 1
    ext <;> simp <;> grind
  · split
    · rename_i h0 h1
      rw [List.foldl_cons, List.foldl_nil]
      unfold runD runE runP sh shP
      have e1 : (2 * -k).toNat % 2 = 0 := by omega
      have e2 : (((2 * -k).toNat / 2 : Nat) : Int) = -k := by omega
      simp only [e1, e2]
      congr 1
      ext <;> simp <;> grind
    · rename_i h0 h1
      have e : k = 0 := by omega
      subst e
      exact (sh_zero h).symm
theorem shR_ok {n B t f l : Nat} {k : Int} (ht : t < n) (hf : f < n) (hl : l < n) (n1 : t ≠ f) (n2 : t ≠ l) (hk : 2 * k.natAbs < 2 ^ B) : ∀ x, x ∈ shR t f l k → Rok n B x := by
  intro x hx
  unfold shR at hx
  split at hx
  · rw [List.mem_singleton] at hx
    subst hx
    exact ⟨ht, hf, hl, n1, n2, by simp only; omega, by simp only; omega⟩
  · split at hx
    · rw [List.mem_singleton] at hx
      subst hx
      exact ⟨ht, hl, hf, n2, n1, by simp only; omega, by simp only; omega⟩
    · cases hx
/-! ### what is led so far -/
structure Ld (G m : Nat) (C0 C : List (Int × Int)) (R : List Rn) : Prop where
  ok : ∀ x, x ∈ R → Rok C0.length G x
  led : R.foldl runD C0 = C
  bn : ∀ i, Bn G ((R.take i).foldl runD C0)
  few : R.length ≤ m
theorem Ld.now {G m : Nat} {C0 C : List (Int × Int)} {R : List Rn} (h : Ld G m C0 C R) : Bn G C := by
  have := h.bn R.length
  rw [List.take_length, h.led] at this
  exact this
theorem runs_len {R : List Rn} : ∀ {C : List (Int × Int)}, (R.foldl runD C).length = C.length := by
  induction R with
  | nil => intro C; rfl
  | cons x R ih => intro C; rw [List.foldl_cons, ih, runD_len]
theorem Ld.len {G m : Nat} {C0 C : List (Int × Int)} {R : List Rn} (h : Ld G m C0 C R) : C.length = C0.length := by
  rw [← h.led, runs_len]
theorem Ld.mono {G m m' : Nat} {C0 C : List (Int × Int)} {R : List Rn} (h : Ld G m C0 C R) (hm : m ≤ m') : Ld G m' C0 C R := ⟨h.ok, h.led, h.bn, Nat.le_trans h.few hm⟩
theorem Ld.none {G : Nat} {C0 : List (Int × Int)} (hb : Bn G C0) : Ld G 0 C0 C0 [] := ⟨nofun, rfl, fun i => by rw [List.take_nil]; exact hb, Nat.le_refl _⟩
theorem Ld.add {G m : Nat} {C0 C : List (Int × Int)} {R : List Rn} {x : Rn} (h : Ld G m C0 C R) (hx : Rok C0.length G x) (hb : Bn G (runD C x)) : Ld G (m + 1) C0 (runD C x) (R ++ [x]) := by
  refine ⟨fun y hy => ?_, by rw [List.foldl_append, h.led]; rfl, fun i => ?_, by rw [List.length_append, List.length_singleton]; have := h.few; omega⟩
  · rcases List.mem_append.mp hy with hy | hy
    · exact h.ok y hy
    · rw [List.mem_singleton] at hy
      subst hy
      exact hx
  · by_cases hi : i ≤ R.length
    · rw [List.take_append_of_le_length hi]
      exact h.bn i
    · rw [List.take_of_length_le (by rw [List.length_append, List.length_singleton]; omega), List.foldl_append, h.led]
      exact hb
theorem Ld.sh {G m t f l : Nat} {k : Int} {C0 C : List (Int × Int)} {R : List Rn} (h : Ld G m C0 C R) (ht : t < C.length) (hf : f < C.length) (hl : l < C.length) (n1 : t ≠ f) (n2 : t ≠ l) (hk : 2 * k.natAbs < 2 ^ G) (hb : Bn G (sh C t f l k)) :
    Ld G (m + 1) C0 (IP.sh C t f l k) (R ++ shR t f l k) := by
  have ok := shR_ok (n := C0.length) (B := G) (by rw [← h.len]; exact ht) (by rw [← h.len]; exact hf) (by rw [← h.len]; exact hl) n1 n2 hk
  have rs := shR_runs (C := C) (f := f) (l := l) (k := k) ht
  unfold shR at ok rs ⊢
  split
  · rename_i h0
    rw [if_pos h0] at ok rs
    rw [← rs] at hb ⊢
    exact h.add (ok _ List.mem_cons_self) hb
  · rename_i h0
    rw [if_neg h0] at ok rs
    split
    · rename_i h1
      rw [if_pos h1] at ok rs
      rw [← rs] at hb ⊢
      exact h.add (ok _ List.mem_cons_self) hb
    · rename_i h1
      rw [if_neg h1] at rs
      rw [← rs, List.append_nil]
      exact h.mono (Nat.le_succ _)
theorem Ld.tn {G m t o : Nat} {C0 C : List (Int × Int)} {R : List Rn} (h : Ld G m C0 C R) (ht : t < C.length) (ho : o < C.length) (n1 : t ≠ o) (g : 1 ≤ G) (hb : Bn G (tn C t o)) : Ld G (m + 1) C0 (IP.tn C t o) (R ++ [(t, o, o, 1)]) := by
  rw [← tn_run] at hb ⊢
  refine h.add ⟨by rw [← h.len]; exact ht, by rw [← h.len]; exact ho, by rw [← h.len]; exact ho, n1, n1, Nat.one_pos, ?_⟩ hb
  exact Nat.lt_of_lt_of_le (by decide : (1 : Nat) < 2 ^ 1) (Nat.pow_le_pow_right (by decide) g)
end IP
namespace IP
open PySem PySem.Spec PyProof.Rows L2
/-! ### the numbers of a lay along the steps of its basis -/
noncomputable def ss (nt : List (Int × Int)) : Int × Int := nt.getD 0 (0, 0)
noncomputable def st2 (nt : List (Int × Int)) : Int × Int := nt.getD 1 (0, 0)
noncomputable def emN (nt : List (Int × Int)) (b c : Int × Int) : Int × Int := emb (ss nt) (st2 nt) b c
structure Zr (d : Nat) (c : Int × Int) : Prop where
  z2 : d < 2 → c.2 = 0
  z1 : d < 1 → c.1 = 0
/-! ### the net of the numbers is whole -/
noncomputable def lin (nt : List (Int × Int)) (c : Int × Int) : Int × Int := (c.1 * (ss nt).1 + c.2 * (st2 nt).1, c.1 * (ss nt).2 + c.2 * (st2 nt).2)
/-! ### home by numbers -/
end IP
namespace IP
open PySem PySem.Spec PyProof.Rows L2
/-! ### the least gap -/
structure Gap (f : Nat → Int) (T : List Nat) (g : Int) (lo hi : Nat) : Prop where
  pos : 0 < g
  mlo : lo ∈ T
  mhi : hi ∈ T
  eq : f hi - f lo = g
  min : ∀ s, s ∈ T → ∀ t, t ∈ T → f s < f t → g ≤ f t - f s
/-! ### narrowing -/
noncomputable def co (num : Nat) (c : Int × Int) : Int := if num = 0 then c.1 else c.2
noncomputable def oc (num : Nat) (c : Int × Int) : Int := if num = 0 then c.2 else c.1
noncomputable def cf (num : Nat) (C : List (Int × Int)) (t : Nat) : Int := co num (atL C t)
noncomputable def cg (num : Nat) (C : List (Int × Int)) (t : Nat) : Int := oc num (atL C t)
/-- the bits that a lay may take while it is narrowed -/
structure Pot (num : Nat) (T : List Nat) (C : List (Int × Int)) (g : Int) (lo : Nat) (A K y e : Nat) (d : Nat → Nat) : Prop where
  h1 : 2 ^ e ≤ g.natAbs
  h2 : g.natAbs < 2 * 2 ^ e
  h3 : ∀ s, s ∈ T → e ≤ d s ∧ (cf num C s - cf num C lo).natAbs + 8 * 2 ^ e ≤ 16 * 2 ^ d s
  h4 : ∀ s, s ∈ T → (cf num C s).natAbs + 2 * 2 ^ e ≤ A
  h5 : ∀ s, s < C.length → (cg num C s).natAbs < 2 ^ y
  h6 : y + (T.map d).sum + 8 * e ≤ K
end IP
namespace IP
open PySem PySem.Spec PyProof.Rows L2
/-! ### the one that leads, in the store -/
noncomputable def wob (nt : List (Int × Int)) (b : Int × Int) (l : List (Int × Int)) (R : List Rn) : Ob := .ins 1 [(3, .dat (lay l)), (4, .dat (rns R)), (5, .dat (lay nt)), (2, .dat (pl b))]
noncomputable def wo (nt : List (Int × Int)) (b : Int × Int) (C : List (Int × Int)) (R : List Rn) : Ob := wob nt b (C.map (emN nt b)) R
theorem wl_2 {a b c d : Val} : [(3, a), (4, b), (5, c), (2, d)].lookup (2 : Nat) = some d := rfl
theorem wl_3 {a b c d : Val} : [(3, a), (4, b), (5, c), (2, d)].lookup (3 : Nat) = some a := rfl
theorem wl_4 {a b c d : Val} : [(3, a), (4, b), (5, c), (2, d)].lookup (4 : Nat) = some b := rfl
theorem wl_5 {a b c d : Val} : [(3, a), (4, b), (5, c), (2, d)].lookup (5 : Nat) = some c := rfl
theorem wput_3 {a b c d v : Val} : putFd 3 v [(3, a), (4, b), (5, c), (2, d)] = [(3, v), (4, b), (5, c), (2, d)] := rfl
theorem wput_4 {a b c d v : Val} : putFd 4 v [(3, a), (4, b), (5, c), (2, d)] = [(3, a), (4, v), (5, c), (2, d)] := rfl
structure Wc (nt : List (Int × Int)) (b : Int × Int) : Prop where
  nf : Nf nt
  hn : Bn 2000 nt
  hb : b.1.natAbs < 2 ^ 2000 ∧ b.2.natAbs < 2 ^ 2000
theorem wo_at {S : Store} {nt C : List (Int × Int)} {b : Int × Int} {R : List Rn} : (S ++ [wo nt b C R])[S.length]? = some (.ins 1 [(3, .dat (lay (C.map (emN nt b)))), (4, .dat (rns R)), (5, .dat (lay nt)), (2, .dat (pl b))]) := by
  simp [wo, wob]
theorem wo_set {S : Store} {o : Ob} {nt l : List (Int × Int)} {b : Int × Int} {R : List Rn} : (S ++ [o]).set S.length (.ins 1 [(3, .dat (lay l)), (4, .dat (rns R)), (5, .dat (lay nt)), (2, .dat (pl b))]) = S ++ [wob nt b l R] := by
  simp [wob]
theorem wob_at {S : Store} {nt l : List (Int × Int)} {b : Int × Int} {R : List Rn} : (S ++ [wob nt b l R])[S.length]? = some (.ins 1 [(3, .dat (lay l)), (4, .dat (rns R)), (5, .dat (lay nt)), (2, .dat (pl b))]) := by
  simp [wob]
theorem Wc.len {nt : List (Int × Int)} {b : Int × Int} (X : Wc nt b) : nt.length ≤ 2 := by
  have nf := X.nf
  cases nf <;> simp
theorem ss_bd {nt : List (Int × Int)} {N i : Nat} (h : Bn N nt) : (nt.getD i (0, 0)).1.natAbs < 2 ^ N ∧ (nt.getD i (0, 0)).2.natAbs < 2 ^ N := by
  rw [List.getD_eq_getElem?_getD]
  cases q : nt[i]? with
  | none => exact ⟨Nat.two_pow_pos _, Nat.two_pow_pos _⟩
  | some p => exact h p (List.mem_of_getElem? q)
theorem emb_bd {s t b c : Int × Int} {N M : Nat} (hs : s.1.natAbs < 2 ^ N ∧ s.2.natAbs < 2 ^ N) (ht : t.1.natAbs < 2 ^ N ∧ t.2.natAbs < 2 ^ N) (hb : b.1.natAbs < 2 ^ N ∧ b.2.natAbs < 2 ^ N) (hc : c.1.natAbs < 2 ^ M ∧ c.2.natAbs < 2 ^ M) :
    (emb s t b c).1.natAbs < 2 ^ (M + N + 2) ∧ (emb s t b c).2.natAbs < 2 ^ (M + N + 2) := by
  have e : 2 ^ (M + N + 2) = 2 ^ M * 2 ^ N * 4 := by rw [Nat.pow_add, Nat.pow_add]
  have m0 : 0 < 2 ^ M := Nat.two_pow_pos _
  have key : ∀ x y z u v : Int, x.natAbs < 2 ^ N → y.natAbs < 2 ^ M → z.natAbs < 2 ^ N → u.natAbs < 2 ^ M → v.natAbs < 2 ^ N → (x + y * z + u * v).natAbs < 2 ^ (M + N + 2) := fun x y z u v h1 h2 h3 h4 h5 => by
    have a1 : (y * z).natAbs ≤ 2 ^ M * 2 ^ N := by rw [Int.natAbs_mul]; exact Nat.mul_le_mul (Nat.le_of_lt h2) (Nat.le_of_lt h3)
    have a2 : (u * v).natAbs ≤ 2 ^ M * 2 ^ N := by rw [Int.natAbs_mul]; exact Nat.mul_le_mul (Nat.le_of_lt h4) (Nat.le_of_lt h5)
    have a3 : 2 ^ N ≤ 2 ^ M * 2 ^ N := Nat.le_mul_of_pos_left _ m0
    rw [e]
    omega
  exact ⟨key _ _ _ _ _ hb.1 hc.1 hs.1 hc.2 ht.1, key _ _ _ _ _ hb.2 hc.1 hs.2 hc.2 ht.2⟩
theorem Wc.bd {nt : List (Int × Int)} {b c : Int × Int} {M : Nat} (X : Wc nt b) (hc : c.1.natAbs < 2 ^ M ∧ c.2.natAbs < 2 ^ M) : (emN nt b c).1.natAbs < 2 ^ (M + 2002) ∧ (emN nt b c).2.natAbs < 2 ^ (M + 2002) :=
  emb_bd (ss_bd X.hn) (ss_bd X.hn) X.hb hc
theorem Wc.bn {nt C : List (Int × Int)} {b : Int × Int} {M : Nat} (X : Wc nt b) (hc : Bn M C) : Bn (M + 2002) (C.map (emN nt b)) := fun p hp => by
  obtain ⟨c, h, rfl⟩ := List.mem_map.mp hp
  exact X.bd (hc c h)
noncomputable def cls (nt : List (Int × Int)) (c : Int × Int) : List Int := match nt with
  | [] => []
  | [_] => [c.1]
  | _ => [c.1, c.2]
/-- what narrowing tells -/
structure NwR (num : Nat) (T : List Nat) (M y : Nat) (C C' : List (Int × Int)) (v : Val) : Prop where
  out : ∀ i, i ∉ T → atL C' i = atL C i
  side : ∀ x, (∀ t, t ∈ T → cg num C t = x) → ∀ t, t ∈ T → cg num C' t = x
  res : (v = .dat .none ∧ C' = C ∧ ∀ s, s ∈ T → ∀ t, t ∈ T → cf num C s = cf num C t) ∨ ∃ (g : Int) (lo hi y' e : Nat) (d : Nat → Nat), v = .dat (.tuple [.int g, .int (lo : Int), .int (hi : Int)]) ∧ Gap (cf num C') T g lo hi ∧ (∀ s, s ∈ T → (cf num C' s - cf num C' lo).fmod g = 0) ∧ Pot num T C' g lo (5 * 2 ^ M) (y + 14 * M + 6) y' e d
structure NwH (num : Nat) (T : List Nat) (M y : Nat) (C C' : List (Int × Int)) (e : Nat) (v : PyData) : Prop where
  out : ∀ i, i ∉ T → atL C' i = atL C i
  side : ∀ x, (∀ t, t ∈ T → cg num C t = x) → ∀ t, t ∈ T → cg num C' t = x
  res : (v = .none ∧ C' = C ∧ ∀ s, s ∈ T → ∀ t, t ∈ T → cf num C s = cf num C t) ∨ ∃ (g : Int) (lo hi y' e' : Nat) (d : Nat → Nat), v = .tuple [.int g, .int (lo : Int), .int (hi : Int)] ∧ Gap (cf num C') T g lo hi ∧ Pot num T C' g lo (5 * 2 ^ M) (y + 14 * M + 6) y' e' d ∧ e' ≤ e ∧ ∀ s, s ∈ T → d s ≤ M + 1
/-- a gap by twice a length less -/
noncomputable def nr (a g : Int) : Int := if a.fmod (2 * g) > g then a.fmod (2 * g) - 2 * g else a.fmod (2 * g)
end IP
namespace IP
open PySem PySem.Spec PyProof.Rows L2
/-! ### two gaps of two columns -/
structure Fo4 (C : List (Int × Int)) (a b c d : Nat) : Prop where
  la : a < C.length
  lb : b < C.length
  lc : c < C.length
  ld : d < C.length
  ab : a ≠ b
  ac : a ≠ c
  ad : a ≠ d
  bc : b ≠ c
  bd : b ≠ d
  cd : c ≠ d
  xb : cf 0 C b = cf 0 C a
  xd : cf 0 C d = cf 0 C c
  si : cf 0 C c = cf 0 C a + 1 ∨ cf 0 C c = cf 0 C a - 1
  up : 0 ≤ cf 1 C b - cf 1 C a
  uq : 0 ≤ cf 1 C d - cf 1 C c
  co : ∀ g : Int, g ∣ cf 1 C b - cf 1 C a → g ∣ cf 1 C d - cf 1 C c → g ∣ 1
theorem Fo4.swap {C : List (Int × Int)} {a b c d : Nat} (F : Fo4 C a b c d) : Fo4 C c d a b :=
  ⟨F.lc, F.ld, F.la, F.lb, F.cd, F.ac.symm, F.bc.symm, F.ad.symm, F.bd.symm, F.ab, F.xd, F.xb, by have := F.si; omega, F.uq, F.up, fun g h1 h2 => F.co g h2 h1⟩
structure Fb (C : List (Int × Int)) (s X : Int) (K e : Nat) : Prop where
  s1 : 1 ≤ s
  se : s.natAbs ^ 12 < 2 ^ (7 * e)
  v : ∃ V : Nat, (∀ i, i < C.length → (cf 1 C i).natAbs ≤ V) ∧ s.natAbs ≤ 4 * V ∧ V * s.natAbs * 16 ^ e ≤ 2 ^ K
  x : ∀ i, i < C.length → ((cf 0 C i).natAbs : Int) + 18 * s ≤ X
theorem Fb.step {C C' : List (Int × Int)} {s s' X : Int} {K e : Nat} (h : Fb C s X K e) (h1 : 1 ≤ s') (h2 : 3 * s' ≤ 2 * s) (hl : C'.length = C.length)
    (hv : ∀ V : Nat, (∀ i, i < C.length → (cf 1 C i).natAbs ≤ V) → s.natAbs ≤ 4 * V → ∃ V' : Nat, (∀ i, i < C.length → (cf 1 C' i).natAbs ≤ V') ∧ s'.natAbs ≤ 4 * V' ∧ V' * s'.natAbs ≤ 16 * (V * s.natAbs))
    (hx : ∀ i, i < C.length → ((cf 0 C' i).natAbs : Int) ≤ (cf 0 C i).natAbs + 6 * s) : ∃ e', e = e' + 1 ∧ Fb C' s' X K e' := by
  obtain ⟨s1, se, ⟨V, v1, v2, v3⟩, x⟩ := h
  have n1 : 1 ≤ s.natAbs := by omega
  have n2 : 3 * s'.natAbs ≤ 2 * s.natAbs := by omega
  have sq := Nat.pow_le_pow_left n2 12
  rw [Nat.mul_pow, Nat.mul_pow] at sq
  have sq' : 531441 * s'.natAbs ^ 12 ≤ 4096 * s.natAbs ^ 12 := sq
  cases e with
  | zero =>
    have := Nat.pow_le_pow_left n1 12
    rw [Nat.one_pow] at this
    rw [Nat.mul_zero, Nat.pow_zero] at se
    omega
  | succ e =>
    refine ⟨e, rfl, h1, ?_, ?_, fun i hi => ?_⟩
    · rw [show 7 * (e + 1) = 7 * e + 7 by omega, Nat.pow_add] at se
      generalize s.natAbs ^ 12 = u at *
      generalize s'.natAbs ^ 12 = w at *
      generalize 2 ^ (7 * e) = z at *
      omega
    · obtain ⟨V', w1, w2, w3⟩ := hv V v1 v2
      refine ⟨V', fun i hi => w1 i (by omega), w2, Nat.le_trans (Nat.mul_le_mul_right (16 ^ e) w3) ?_⟩
      rw [Nat.pow_succ] at v3
      rw [show 16 * (V * s.natAbs) * 16 ^ e = V * s.natAbs * (16 ^ e * 16) by grind]
      exact v3
    · have := x i (by omega)
      have := hx i (by omega)
      omega
theorem Fb.bd {C : List (Int × Int)} {s X : Int} {K e : Nat} (h : Fb C s X K e) : (∀ i, i < C.length → (cf 1 C i).natAbs ≤ 2 ^ K) ∧ s.natAbs ≤ 2 ^ K := by
  obtain ⟨s1, se, ⟨V, v1, v2, v3⟩, x⟩ := h
  have p16 : 1 ≤ 16 ^ e := Nat.one_le_pow _ _ (by decide)
  have n1 : 1 ≤ s.natAbs := by omega
  have h1 : V * s.natAbs ≤ V * s.natAbs * 16 ^ e := Nat.le_mul_of_pos_right _ p16
  have h2 : V ≤ V * s.natAbs := Nat.le_mul_of_pos_right _ n1
  constructor
  · intro i hi
    have := v1 i hi
    omega
  · have h3 : s.natAbs ≤ V * s.natAbs := Nat.le_mul_of_pos_left _ (by omega)
    omega
/-- three tokens that make the whole net -/
structure Cn (C : List (Int × Int)) (p q r : Nat) : Prop where
  lp : p < C.length
  lq : q < C.length
  lr : r < C.length
  pq : p ≠ q
  pr : p ≠ r
  qr : q ≠ r
  xq : cf 0 C q = cf 0 C p
  si : cf 0 C r = cf 0 C p + 1 ∨ cf 0 C r = cf 0 C p - 1
  u1 : cf 1 C q - cf 1 C p = 1
end IP
namespace IP
open PySem PySem.Spec PyProof.Rows L2
/-! ### three tokens go -/
structure D3 (C : List (Int × Int)) (f s t : Nat) : Prop where
  lf : f < C.length
  ls : s < C.length
  lt : t < C.length
  fs : f ≠ s
  ft : f ≠ t
  st : s ≠ t
end IP
namespace IP
open PySem PySem.Spec PyProof.Rows L2
/-! ### cells, the number of each at hand -/
/-! ### runs home -/
structure Hml (l nt : List (Int × Int)) (T n : Nat) (R : List Rn) : Prop where
  ok : ∀ x, x ∈ R → Rok l.length T x
  led : R.foldl runD l = hmL nt l
  bn : ∀ i, Bn n ((R.take i).foldl runD l)
  few : R.length ≤ 6000
/-- the numbers of a lay of small places -/
structure Cds (l nt C : List (Int × Int)) (M : Nat) : Prop where
  e : l = C.map (emN nt (brg nt (atL l 0)))
  bn : Bn M C
  z : ∀ c, c ∈ C → Zr nt.length c
end IP
namespace IP
open PySem PySem.Spec PyProof.Rows L2
/-! ### one net, seen by measures -/
open Classical in
noncomputable def oneB (ws vs : List (Int × Int)) : Bool := decide (Net.Le vs ws ∧ Net.Le ws vs)
/-- one leads to the other -/
structure Led (l m : List (Int × Int)) : Prop where
  len : m.length = l.length
  le : Net.Le (waysOf m) (waysOf l)
  ge : Net.Le (waysOf l) (waysOf m)
  al : ∀ i, i < l.length → Al (waysOf l) (atL l i) (atL m i)
theorem Led.same {l m : List (Int × Int)} (h : Led l m) : Same l m := ⟨⟨h.len, fun i hi => (h.al i hi).symm⟩, h.le, h.ge⟩
theorem Led.of {l m : List (Int × Int)} (h : Stay l m) : Led l m := ⟨h.len, h.le, h.ge, fun i hi => (h.al i hi).symm⟩
/-- runs that lead from one to the other, with bounds -/
structure Wmr (l m : List (Int × Int)) (T n : Nat) (R : List Rn) : Prop where
  ok : ∀ x, x ∈ R → Rok l.length T x
  led : R.foldl runD l = m
  bn : ∀ i, Bn n ((R.take i).foldl runD l)
  few : R.length ≤ 12000
theorem back_pre {m : List (Int × Int)} {T : Nat} {R : List Rn} (ok : ∀ x, x ∈ R → Rok m.length T x) (i : Nat) : ∃ j, ((backR R).take i).foldl runD (R.foldl runD m) = (R.take j).foldl runD m := by
  refine ⟨R.length - i, ?_⟩
  have e1 : (backR R).take i = backR (R.drop (R.length - i)) := by
    unfold backR
    rw [← List.map_take, List.take_reverse]
  have e2 : R.foldl runD m = (R.drop (R.length - i)).foldl runD ((R.take (R.length - i)).foldl runD m) := by
    rw [← List.foldl_append, List.take_append_drop]
  rw [e1, e2]
  exact runs_there_back fun x hx => by
    rw [runs_len]
    exact ok x (List.mem_of_mem_drop hx)
/-- what is told of a way -/
inductive Wyd (l m : List (Int × Int)) (T n : Nat) : PyData → Prop
  | step {s : Int × Int} : snB (waysOf l) s ≠ snB (waysOf m) s → (s.1.natAbs < 2 ^ n ∧ s.2.natAbs < 2 ^ n) → Wyd l m T n (.tuple [.str "step", pl s])
  | token {i : Nat} : i < l.length → oneB (waysOf l) (waysOf m) = true → alB (waysOf l) (atL l i) (atL m i) = false → Wyd l m T n (.tuple [.str "token", .int (i : Int)])
  | runs {R : List Rn} : Led l m → Wmr l m T n R → Wyd l m T n (.tuple [.str "runs", rns R])
/-! ### bounds by a number -/
noncomputable def Bq (B : Nat) (l : List (Int × Int)) : Prop := ∀ p, p ∈ l → p.1.natAbs ≤ B ∧ p.2.natAbs ≤ B
theorem Bq.bn {B n : Nat} {l : List (Int × Int)} (h : Bq B l) (hn : B < 2 ^ n) : Bn n l := fun p hp => by
  obtain ⟨a, b⟩ := h p hp
  exact ⟨by omega, by omega⟩
theorem Bq.mono {B C : Nat} {l : List (Int × Int)} (h : Bq B l) (hn : B ≤ C) : Bq C l := fun p hp => by
  obtain ⟨a, b⟩ := h p hp
  exact ⟨by omega, by omega⟩
/-! ### cells, the store without loose ends -/
end IP
namespace IP
open PySem PySem.Spec PyProof.Rows L2
/-! ### where a token may come -/
/-- three numbers part a way from all twice the net's steps -/
structure Ptw (ws : List (Int × Int)) (d : Int × Int) (t : Int × Int × Int) : Prop where
  pos : 1 ≤ t.1
  all : ∀ w, w ∈ ws → t.1 ∣ t.2.1 * w.1 + t.2.2 * w.2
  not : ¬ (2 * t.1) ∣ t.2.1 * d.1 + t.2.2 * d.2
end IP
namespace IP
open PySem PySem.Spec PyProof.Rows L2
/-! ### the home lay put where a token shall be -/
/-- what is told of a place -/
inductive Cmd (l : List (Int × Int)) (i : Nat) (p : Int × Int) (T n B : Nat) : PyData → Prop
  | apart {t : Int × Int × Int} : ¬ Al (waysOf l) (atL l i) p → Ptw (waysOf l) (p.1 - (atL l i).1, p.2 - (atL l i).2) t → t.1.natAbs < 2 ^ B → t.2.1.natAbs < 2 ^ B → t.2.2.natAbs < 2 ^ B → Cmd l i p T n B (.tuple [.str "apart", .int t.1, .int t.2.1, .int t.2.2])
  | runs {R : List Rn} {m : List (Int × Int)} : Al (waysOf l) (atL l i) p → Wmr l m T n R → m.length = l.length → atL m i = p → Cmd l i p T n B (.tuple [.str "runs", rns R])
end IP
namespace IP
open PySem PySem.Spec PyProof.Rows L2
/-! ### far lays -/
structure HmlF (l nt : List (Int × Int)) (T n : Nat) (R : List Rn) : Prop where
  ok : ∀ x, x ∈ R → Rok l.length T x
  led : R.foldl runD l = hmL nt l
  bn : ∀ i, Bn n ((R.take i).foldl runD l)
  few : R.length ≤ 100000
structure WmrF (l m : List (Int × Int)) (T n : Nat) (R : List Rn) : Prop where
  ok : ∀ x, x ∈ R → Rok l.length T x
  led : R.foldl runD l = m
  bn : ∀ i, Bn n ((R.take i).foldl runD l)
  few : R.length ≤ 200000
/-- runs one behind the other, and back -/
theorem WmrF.app {l m p : List (Int × Int)} {T n : Nat} {R R' : List Rn} (h : WmrF l m T n R) (h' : WmrF m p T n R') (hl : m.length = l.length) : (∀ x, x ∈ R ++ R' → Rok l.length T x) ∧ (R ++ R').foldl runD l = p ∧ ∀ i, Bn n (((R ++ R').take i).foldl runD l) := by
  refine ⟨fun x hx => ?_, ?_, fun i => ?_⟩
  · rcases List.mem_append.mp hx with hx | hx
    · exact h.ok x hx
    · rw [← hl]
      exact h'.ok x hx
  · rw [List.foldl_append, h.led, h'.led]
  · rw [List.take_append, List.foldl_append]
    by_cases hi : i ≤ R.length
    · rw [Nat.sub_eq_zero_of_le hi, List.take_zero]
      exact h.bn i
    · rw [List.take_of_length_le (by omega), h.led]
      exact h'.bn _
theorem WmrF.back {l m : List (Int × Int)} {T n : Nat} {R : List Rn} (h : WmrF l m T n R) (hl : m.length = l.length) : WmrF m l T n (backR R) := by
  refine ⟨fun x hx => ?_, ?_, fun i => ?_, ?_⟩
  · rw [hl]
    exact backR_ok h.ok x hx
  · rw [← h.led]
    exact runs_there_back h.ok
  · obtain ⟨j, ej⟩ := back_pre h.ok i
    rw [← h.led, ej]
    exact h.bn j
  · have : (backR R).length = R.length := by unfold backR; rw [List.length_map, List.length_reverse]
    have := h.few
    omega
inductive WydF (l m : List (Int × Int)) (T n : Nat) : PyData → Prop
  | step {s : Int × Int} : snB (waysOf l) s ≠ snB (waysOf m) s → (s.1.natAbs < 2 ^ n ∧ s.2.natAbs < 2 ^ n) → WydF l m T n (.tuple [.str "step", pl s])
  | token {i : Nat} : i < l.length → oneB (waysOf l) (waysOf m) = true → alB (waysOf l) (atL l i) (atL m i) = false → WydF l m T n (.tuple [.str "token", .int (i : Int)])
  | runs {R : List Rn} : Led l m → WmrF l m T n R → WydF l m T n (.tuple [.str "runs", rns R])
theorem Led.refl {l : List (Int × Int)} : Led l l := ⟨rfl, Net.Le.refl, Net.Le.refl, fun _ _ => .refl⟩
theorem Led.symm {l m : List (Int × Int)} (h : Led l m) : Led m l := ⟨h.len.symm, h.ge, h.le, fun i hi => ((h.al i (by have := h.len; omega)).symm).le h.ge⟩
theorem Led.trans {l m p : List (Int × Int)} (h : Led l m) (k : Led m p) : Led l p :=
  ⟨k.len.trans h.len, k.le.trans h.le, h.ge.trans k.ge, fun i hi => (h.al i hi).trans ((k.al i (by have := h.len; omega)).le h.le)⟩
theorem HmlF.home {l nt : List (Int × Int)} {T n : Nat} {R : List Rn} (h : HmlF l nt T n R) : Led l (hmL nt l) := by
  rw [← h.led]
  exact Led.of (stay_runs h.ok)
/-- lays whose runs home are told -/
structure Fl1 (M : Nat) (l : List (Int × Int)) : Prop where
  b : Bn 92 l
  c : ∀ nt, Nt l nt → ∃ C, Cds l nt C M
end IP
/-! one token alone: places in layers -/
namespace IP
open PySem PySem.Spec PyProof.Rows L2
noncomputable def kp (p : Int × Int) : NestedKey := .tup [.num p.1, .num p.2]
theorem nk_pl (p : Int × Int) : nkT (pl p) = some (kp p) := by
  simp only [pl, nkT, nks, nk, kp]
  rfl
theorem kp_inj {p q : Int × Int} : kp p = kp q ↔ p = q := by
  refine ⟨fun h => ?_, fun h => by rw [h]⟩
  unfold kp at h
  injection h with h
  injection h with h1 h2
  injection h2 with h2 _
  injection h1 with h1
  injection h2 with h2
  exact Prod.ext h1 h2
/-! min of two rows -/
/-! dicts of places -/
section
variable {B : Type} {f : B → PyData}
end
/-! the layers -/
end IP
/-! places in layers: moved all alike; gathered -/
namespace IP
open PySem PySem.Spec PyProof.Rows L2
noncomputable def mvP (v p : Int × Int) : Int × Int := (p.1 + v.1, p.2 + v.2)
theorem mvP_inj {v p q : Int × Int} : mvP v p = mvP v q ↔ p = q := by
  refine ⟨fun h => ?_, fun h => by rw [h]⟩
  unfold mvP at h
  injection h with h1 h2
  exact Prod.ext (by omega) (by omega)
theorem bey_sh (v p q : Int × Int) : bey (mvP v p) (mvP v q) = mvP v (bey p q) := by
  unfold bey mvP
  exact Prod.ext (by dsimp only; omega) (by dsimp only; omega)
theorem at_sh {l : List (Int × Int)} {o : Nat} {v : Int × Int} (h : o < l.length) : atL (l.map (mvP v)) o = mvP v (atL l o) := by
  unfold atL
  rw [List.getD_eq_getElem?_getD, List.getD_eq_getElem?_getD, List.getElem?_map, List.getElem?_eq_getElem h]
  rfl
section
variable {B : Type}
end
section
variable {l : List (Int × Int)} {os : List Nat} {v : Int × Int}
end
/-! gathered -/
section
variable {l : List (Int × Int)} {os : List Nat}
end
end IP
/-! rows from lay to lay: dicts of lays, layer by layer -/
namespace IP
open PySem PySem.Spec PyProof.Rows L2
section
variable {K B : Type} [DecidableEq K] {e : K → PyData} {n : K → NestedKey} {f : B → PyData}
noncomputable abbrev GL (K B : Type) := List (K × B)
noncomputable def dG (e : K → PyData) (f : B → PyData) (L : GL K B) : List (PyData × PyData) := L.map fun x => (e x.1, f x.2)
noncomputable def lkG (L : GL K B) (k : K) : Option B := (L.find? fun x => decide (x.1 = k)).map (·.2)
noncomputable def ptG (L : GL K B) (k : K) (b : B) : GL K B := if (lkG L k).isSome = true then L.map (fun x => if x.1 = k then (x.1, b) else x) else L ++ [(k, b)]
theorem val_dG (hn : ∀ k, nkT (e k) = some (n k)) (hi : ∀ a b, n a = n b → a = b) (L : GL K B) (k : K) : valN (dG e f L) (n k) = (lkG L k).map f := by
  induction L with
  | nil => rfl
  | cons x L ih =>
    unfold valN lkG dG at ih ⊢
    rw [List.map_cons, List.find?_cons, List.find?_cons]
    dsimp only
    rw [hn]
    by_cases h : x.1 = k
    · rw [decide_eq_true h, decide_eq_true (congrArg (fun k => some (n k)) h)]
      rfl
    · rw [decide_eq_false h, decide_eq_false (fun z => h (hi _ _ (Option.some.inj z)))]
      exact ih
theorem any_dG (hn : ∀ k, nkT (e k) = some (n k)) (hi : ∀ a b, n a = n b → a = b) (L : GL K B) (k : K) : ((dG e f L).any fun kv => decide (nkT kv.1 = some (n k))) = (lkG L k).isSome := by
  induction L with
  | nil => rfl
  | cons x L ih =>
    unfold lkG dG at ih ⊢
    rw [List.map_cons, List.any_cons, List.find?_cons]
    dsimp only
    rw [hn, ih]
    by_cases h : x.1 = k
    · rw [decide_eq_true h, decide_eq_true (congrArg (fun k => some (n k)) h)]
      rfl
    · rw [decide_eq_false h, decide_eq_false (fun z => h (hi _ _ (Option.some.inj z)))]
      rfl
theorem put_dG (hn : ∀ k, nkT (e k) = some (n k)) (hi : ∀ a b, n a = n b → a = b) (L : GL K B) (k : K) (b : B) : putN (dG e f L) (e k) (n k) (f b) = dG e f (ptG L k b) := by
  unfold putN ptG
  rw [any_dG hn hi]
  by_cases h : (lkG L k).isSome = true
  · rw [if_pos h, if_pos h]
    unfold dG
    rw [List.map_map, List.map_map]
    refine List.map_congr_left fun x _ => ?_
    simp only [Function.comp]
    rw [hn]
    by_cases q : x.1 = k
    · rw [if_pos q, if_pos (congrArg (fun k => some (n k)) q)]
    · rw [if_neg q, if_neg (fun z => q (hi _ _ (Option.some.inj z)))]
  · rw [if_neg h, if_neg h]
    unfold dG
    rw [List.map_append]
    rfl
theorem lkG_mem {L : GL K B} {k : K} {b : B} (h : lkG L k = some b) : (k, b) ∈ L := by
  unfold lkG at h
  obtain ⟨x, h1, h2⟩ := Option.map_eq_some_iff.mp h
  have := List.mem_of_find?_eq_some h1
  have e2 : x.1 = k := by
    have h3 := List.find?_some h1
    exact of_decide_eq_true h3
  obtain ⟨a, c⟩ := x
  cases h2
  cases e2
  exact this
theorem ptG_len (L : GL K B) (k : K) (b : B) : (ptG L k b).length ≤ L.length + 1 := by
  unfold ptG
  split
  · rw [List.length_map]; omega
  · rw [List.length_append]; simp
theorem ptG_all {P : K × B → Prop} {L : GL K B} (h : ∀ x, x ∈ L → P x) {k : K} {b : B} (hp : P (k, b)) : ∀ x, x ∈ ptG L k b → P x := by
  unfold ptG
  split
  · intro x hx
    obtain ⟨y, hy, rfl⟩ := List.mem_map.mp hx
    split
    · rename_i q
      rw [q]
      exact hp
    · exact h y hy
  · intro x hx
    rcases List.mem_append.mp hx with hx | hx
    · exact h x hx
    · rw [List.mem_singleton.mp hx]
      exact hp
theorem dG_len {L : GL K B} : (dG e f L).length = L.length := List.length_map ..
end
/-! lays as keys -/
noncomputable def kl (l : List (Int × Int)) : NestedKey := .tup (l.map kp)
theorem nk_lay (l : List (Int × Int)) : nkT (lay l) = some (kl l) := by
  have key : ∀ l : List (Int × Int), nks (l.map pl) = some (l.map kp) := by
    intro l
    induction l with
    | nil => rfl
    | cons a l ih =>
      have h : nk (pl a) = some (kp a) := nk_pl a
      rw [List.map_cons, List.map_cons]
      simp only [nks, h, ih]
  have k := key l
  have dp : ∀ l : List (Int × Int), NestedKey.depthAll (l.map kp) ≤ 3 := by
    intro l
    induction l with
    | nil => exact Nat.zero_le _
    | cons a l ih =>
      rw [List.map_cons]
      simp only [NestedKey.depthAll, kp, NestedKey.depth]
      omega
  have d := dp l
  have h8 : (NestedKey.tup (l.map kp)).depth ≤ 8 := by
    simp only [NestedKey.depth]
    omega
  simp only [lay, nkT, k, if_pos h8]
  rfl
theorem kl_inj (a b : List (Int × Int)) (h : kl a = kl b) : a = b := by
  unfold kl at h
  injection h with h
  exact (List.map_inj_right fun p q h => kp_inj.mp h).mp h
/-! rows, the lesser one -/
noncomputable def rwI (r : List (Nat × Nat)) : List (List Int) := r.map fun x => [(x.1 : Int), (x.2 : Int)]
noncomputable def mnW (a b : List (Nat × Nat)) : List (Nat × Nat) := if lexR (rwI b) (rwI a) = true then b else a
theorem rows_rw (r : List (Nat × Nat)) : rowsInt (r.map lp) = some (rwI r) := by
  induction r with
  | nil => rfl
  | cons a r ih =>
    rw [List.map_cons]
    have h : rowsInt (lp a :: r.map lp) = match intsOf [PyData.int (a.1 : Int), .int (a.2 : Int)], rowsInt (r.map lp) with
      | some ns, some rs => some (ns :: rs)
      | _, _ => none := rfl
    rw [h, ih]
    rfl
theorem mn2_row (a b : List (Nat × Nat)) : mn2P (row a) (row b) = some (row (mnW a b)) := by
  have ra := rows_rw a
  have rb := rows_rw b
  unfold row mnW mn2P
  cases a with
  | nil =>
    cases b with
    | nil => rfl
    | cons y b =>
      have h : intsOf ((y :: b).map lp) = none := rfl
      have h0 : intsOf (([] : List (Nat × Nat)).map lp) = some [] := rfl
      simp only [h, h0, ra, rb]
      split <;> rfl
  | cons x a =>
    have h : intsOf ((x :: a).map lp) = none := rfl
    simp only [h, ra, rb]
    split <;> rfl
/-! layers -/
noncomputable abbrev FL := GL (List (Int × Int)) (List (Nat × Nat) × Nat)
noncomputable def fD (b : List (Nat × Nat) × Nat) : PyData := .tuple [row b.1, .int (b.2 : Int)]
noncomputable def leapsOf (n : Nat) : List (Nat × Nat) := ((List.range n).map fun (i : Nat) => ((List.range n).filter fun (j : Nat) => !decide ((i : Int) = (j : Int))).map fun (j : Nat) => (i, j)).flatten
noncomputable def addW (ex : List (Nat × Nat) → Nat × Nat → List (Nat × Nat)) (e : List (Int × Int) × (List (Nat × Nat) × Nat)) (acc : FL) (x : Nat × Nat) : FL :=
  ptG acc (leap e.1 x) (mnW ((lkG acc (leap e.1 x)).getD (ex e.2.1 x, 0)).1 (ex e.2.1 x), ((lkG acc (leap e.1 x)).getD (ex e.2.1 x, 0)).2 + e.2.2)
noncomputable def stepW (ex : List (Nat × Nat) → Nat × Nat → List (Nat × Nat)) (L : FL) : FL := L.foldl (fun acc e => (leapsOf e.1.length).foldl (addW ex e) acc) []
noncomputable def exA (r : List (Nat × Nat)) (x : Nat × Nat) : List (Nat × Nat) := r ++ [x]
noncomputable def exB (r : List (Nat × Nat)) (x : Nat × Nat) : List (Nat × Nat) := x :: r
/-- both ends behind so many laps -/
noncomputable def endsW : Nat → FL × FL → FL × FL
  | 0, p => p
  | k + 1, p => let q := endsW k p; if k % 2 = 0 then (stepW exA q.1, q.2) else (q.1, stepW exB q.2)
noncomputable def meetW (p : FL × FL) : List (List (Nat × Nat) × Nat) := (p.1.filter fun x => (lkG p.2 x.1).isSome).map fun x => (((lkG p.1 x.1).getD x.2).1 ++ ((lkG p.2 x.1).getD ([], 0)).1, ((lkG p.1 x.1).getD x.2).2 * ((lkG p.2 x.1).getD ([], 0)).2)
noncomputable def minW (x : List (Nat × Nat)) (r : List (List (Nat × Nat))) : List (Nat × Nat) := r.foldl mnW x
noncomputable def betwW (a b : List (Int × Int)) (k : Nat) : Option (List (Nat × Nat)) × Int := match meetW (endsW k ([(a, ([], 1))], [(b, ([], 1))])) with
  | [] => (none, 0)
  | x :: r => (some (minW x.1 (r.map (·.1))), ((x :: r).map fun y => (y.2 : Int)).sum)
/-! the least of rows -/
theorem least_mn : ∀ (r : List (List (Nat × Nat))) (x : List (Nat × Nat)), leastBy lexR (rwI x) (r.map rwI) = rwI (minW x r)
  | [], x => rfl
  | y :: r, x => by
    rw [List.map_cons]
    show leastBy lexR (if lexR (rwI y) (rwI x) = true then rwI y else rwI x) (r.map rwI) = rwI (minW (mnW x y) r)
    have e : (if lexR (rwI y) (rwI x) = true then rwI y else rwI x) = rwI (mnW x y) := by
      unfold mnW
      split <;> rfl
    rw [e]
    exact least_mn r (mnW x y)
theorem rowsRs_row : ∀ rs : List (List (Nat × Nat)), rowsRs (rs.map row) = some (rs.map rwI)
  | [] => rfl
  | r :: rs => by
    have h1 := rows_rw r
    have h2 := rowsRs_row rs
    rw [List.map_cons, List.map_cons]
    show (match rowsInt (r.map lp), rowsRs (rs.map row) with
      | some ns, some rs => some (ns :: rs)
      | _, _ => none) = _
    rw [h1, h2]
theorem row_rwI (r : List (Nat × Nat)) : PyData.tuple ((rwI r).map fun ns => .tuple (ns.map .int)) = row r := by
  unfold row rwI
  rw [List.map_map]
  rfl
theorem rowsInt_no {x : Nat × Nat} {r : List (Nat × Nat)} {ps : List PyData} : rowsInt (row (x :: r) :: ps) = none := rfl
theorem rowsInt_nil : ∀ n : Nat, rowsInt (List.replicate n (row [])) = some (List.replicate n [])
  | 0 => rfl
  | n + 1 => by
    have h := rowsInt_nil n
    rw [List.replicate_succ, List.replicate_succ]
    show (match intsOf [], rowsInt (List.replicate n (row [])) with
      | some ns, some rs => some (ns :: rs)
      | _, _ => none) = _
    rw [h]
    rfl
theorem bf_min_row {k : Nat} {x : List (Nat × Nat)} {r : List (List (Nat × Nat))} (h : ∀ y, y ∈ x :: r → y.length = k) : bfP .min [.list ((x :: r).map row)] = some (row (minW x r)) := by
  cases x with
  | cons a x =>
    have h1 : rowsInt (((a :: x) :: r).map row) = none := rowsInt_no
    have h2 := rowsRs_row ((a :: x) :: r)
    have e : bfP .min [.list (((a :: x) :: r).map row)] = match rowsInt (((a :: x) :: r).map row) with
      | some (r :: rs) => some (.tuple ((leastBy HT.lexLt r rs).map .int))
      | some [] => none
      | none => match rowsRs (((a :: x) :: r).map row) with
        | some (r :: rs) => some (.tuple ((leastBy lexR r rs).map fun ns => .tuple (ns.map .int)))
        | _ => none := rfl
    rw [e, h1, h2]
    simp only [List.map_cons]
    rw [least_mn, row_rwI]
  | nil =>
    have k0 : k = 0 := (h [] (List.mem_cons_self ..)).symm
    subst k0
    have hr : r = List.replicate r.length [] := List.eq_replicate_iff.mpr ⟨rfl, fun y hy => List.length_eq_zero_iff.mp (h y (List.mem_cons_of_mem _ hy))⟩
    have mn : ∀ n : Nat, minW [] (List.replicate n []) = [] := by
      intro n
      induction n with
      | zero => rfl
      | succ n ih =>
        rw [List.replicate_succ]
        exact ih
    have ls : ∀ n : Nat, leastBy HT.lexLt [] (List.replicate n []) = [] := by
      intro n
      induction n with
      | zero => rfl
      | succ n ih =>
        rw [List.replicate_succ]
        exact ih
    have e2 : (([] : List (Nat × Nat)) :: r).map row = List.replicate (r.length + 1) (row []) := by
      rw [List.replicate_succ, List.map_cons]
      congr 1
      exact List.eq_replicate_iff.mpr ⟨by rw [List.length_map], fun y hy => by
        obtain ⟨z, hz, rfl⟩ := List.mem_map.mp hy
        rw [List.length_eq_zero_iff.mp (h z (List.mem_cons_of_mem _ hz))]⟩
    have e : bfP .min [.list ((([] : List (Nat × Nat)) :: r).map row)] = match rowsInt ((([] : List (Nat × Nat)) :: r).map row) with
      | some (r :: rs) => some (.tuple ((leastBy HT.lexLt r rs).map .int))
      | some [] => none
      | none => match rowsRs ((([] : List (Nat × Nat)) :: r).map row) with
        | some (r :: rs) => some (.tuple ((leastBy lexR r rs).map fun ns => .tuple (ns.map .int)))
        | _ => none := rfl
    rw [e, e2, rowsInt_nil, List.replicate_succ]
    simp only [ls]
    rw [hr, mn]
    rfl
end IP
/-! rows between lays, told one by one -/
namespace IP
open PySem PySem.Spec PyProof.Rows L2
/-! the order of rows -/
theorem ll_irr : ∀ a : List Int, HT.lexLt a a = false
  | [] => rfl
  | x :: a => by rw [HT.lexLt_cons, if_pos rfl]; exact ll_irr a
theorem ll_tri : ∀ a b : List Int, a = b ∨ HT.lexLt a b = true ∨ HT.lexLt b a = true
  | [], [] => .inl rfl
  | [], _ :: _ => .inr (.inl rfl)
  | _ :: _, [] => .inr (.inr rfl)
  | x :: a, y :: b => by
    rw [HT.lexLt_cons, HT.lexLt_cons]
    by_cases h : x = y
    · subst h
      rw [if_pos rfl, if_pos rfl]
      rcases ll_tri a b with e | e | e
      · exact .inl (by rw [e])
      · exact .inr (.inl e)
      · exact .inr (.inr e)
    · rw [if_neg h, if_neg (fun z => h z.symm)]
      rcases Int.lt_or_gt_of_ne h with e | e
      · exact .inr (.inl (decide_eq_true e))
      · exact .inr (.inr (decide_eq_true e))
theorem ll_trans : ∀ {a b c : List Int}, HT.lexLt a b = true → HT.lexLt b c = true → HT.lexLt a c = true
  | [], [], _, h, _ => by cases h
  | [], _ :: _, [], _, h => by cases h
  | [], _ :: _, _ :: _, _, _ => rfl
  | _ :: _, [], _, h, _ => by cases h
  | _ :: _, _ :: _, [], _, h => by cases h
  | x :: a, y :: b, z :: c, h1, h2 => by
    rw [HT.lexLt_cons] at h1 h2 ⊢
    by_cases e1 : x = y
    · subst e1
      rw [if_pos rfl] at h1
      by_cases e2 : x = z
      · rw [if_pos e2] at h2 ⊢
        exact ll_trans h1 h2
      · rw [if_neg e2] at h2 ⊢
        exact h2
    · rw [if_neg e1] at h1
      have l1 := of_decide_eq_true h1
      by_cases e2 : y = z
      · subst e2
        rw [if_neg e1]
        exact h1
      · rw [if_neg e2] at h2
        have l2 := of_decide_eq_true h2
        have l3 := Int.lt_trans l1 l2
        rw [if_neg (Int.ne_of_lt l3)]
        exact decide_eq_true l3
theorem lexR_cons (x y : List Int) (xs ys : List (List Int)) : lexR (x :: xs) (y :: ys) = if x = y then lexR xs ys else HT.lexLt x y := rfl
theorem lr_irr : ∀ a : List (List Int), lexR a a = false
  | [] => rfl
  | x :: a => by rw [lexR_cons, if_pos rfl]; exact lr_irr a
theorem lr_tri : ∀ a b : List (List Int), a = b ∨ lexR a b = true ∨ lexR b a = true
  | [], [] => .inl rfl
  | [], _ :: _ => .inr (.inl rfl)
  | _ :: _, [] => .inr (.inr rfl)
  | x :: a, y :: b => by
    rw [lexR_cons, lexR_cons]
    by_cases h : x = y
    · subst h
      rw [if_pos rfl, if_pos rfl]
      rcases lr_tri a b with e | e | e
      · exact .inl (by rw [e])
      · exact .inr (.inl e)
      · exact .inr (.inr e)
    · rw [if_neg h, if_neg (fun z => h z.symm)]
      rcases ll_tri x y with e | e | e
      · exact absurd e h
      · exact .inr (.inl e)
      · exact .inr (.inr e)
theorem lr_trans : ∀ {a b c : List (List Int)}, lexR a b = true → lexR b c = true → lexR a c = true
  | [], [], _, h, _ => by cases h
  | [], _ :: _, [], _, h => by cases h
  | [], _ :: _, _ :: _, _, _ => rfl
  | _ :: _, [], _, h, _ => by cases h
  | _ :: _, _ :: _, [], _, h => by cases h
  | x :: a, y :: b, z :: c, h1, h2 => by
    rw [lexR_cons] at h1 h2 ⊢
    by_cases e1 : x = y
    · subst e1
      rw [if_pos rfl] at h1
      by_cases e2 : x = z
      · rw [if_pos e2] at h2 ⊢
        exact lr_trans h1 h2
      · rw [if_neg e2] at h2 ⊢
        exact h2
    · rw [if_neg e1] at h1
      by_cases e2 : y = z
      · subst e2
        rw [if_neg e1]
        exact h1
      · rw [if_neg e2] at h2
        have l3 := ll_trans h1 h2
        by_cases e3 : x = z
        · subst e3
          rw [ll_irr] at l3
          cases l3
        · rw [if_neg e3]
          exact l3
theorem rwI_inj {a b : List (Nat × Nat)} (h : rwI a = rwI b) : a = b := by
  refine (List.map_inj_right (f := fun x : Nat × Nat => [(x.1 : Int), (x.2 : Int)]) fun p q h => ?_).mp h
  injection h with h1 h2
  injection h2 with h2 _
  exact Prod.ext (Int.ofNat.inj h1) (Int.ofNat.inj h2)
theorem lr_asym {a b : List (List Int)} (h : lexR a b = true) : lexR b a = false := by
  cases q : lexR b a with
  | false => rfl
  | true =>
    have := lr_trans h q
    rw [lr_irr] at this
    cases this
theorem mnW_same (a : List (Nat × Nat)) : mnW a a = a := by unfold mnW; split <;> rfl
theorem mnW_comm (a b : List (Nat × Nat)) : mnW a b = mnW b a := by
  unfold mnW
  rcases lr_tri (rwI a) (rwI b) with e | e | e
  · rw [rwI_inj e]
  · rw [e, lr_asym e]; rfl
  · rw [e, lr_asym e]; rfl
theorem mnW_assoc (a b c : List (Nat × Nat)) : mnW (mnW a b) c = mnW a (mnW b c) := by
  unfold mnW
  by_cases h1 : lexR (rwI b) (rwI a) = true
  · rw [if_pos h1]
    by_cases h2 : lexR (rwI c) (rwI b) = true
    · rw [if_pos h2, if_pos (lr_trans h2 h1)]
    · rw [if_neg h2, if_pos h1]
  · rw [if_neg h1]
    by_cases h2 : lexR (rwI c) (rwI b) = true
    · rw [if_pos h2]
    · rw [if_neg h2, if_neg h1, if_neg]
      intro h3
      rcases lr_tri (rwI a) (rwI b) with e | e | e
      · rw [← e] at h2; exact h2 h3
      · exact h2 (lr_trans h3 e)
      · exact h1 e
theorem rwI_cons (x : Nat × Nat) (a : List (Nat × Nat)) : rwI (x :: a) = [(x.1 : Int), (x.2 : Int)] :: rwI a := rfl
theorem mnW_cons (x : Nat × Nat) (a b : List (Nat × Nat)) : mnW (x :: a) (x :: b) = x :: mnW a b := by
  unfold mnW
  rw [rwI_cons, rwI_cons, lexR_cons, if_pos rfl]
  split <;> rfl
theorem mnW_pre : ∀ (p a b : List (Nat × Nat)), mnW (p ++ a) (p ++ b) = p ++ mnW a b
  | [], a, b => rfl
  | x :: p, a, b => by
    rw [List.cons_append, List.cons_append, mnW_cons, mnW_pre p a b]
    rfl
theorem lexR_app : ∀ {a b : List (Nat × Nat)} (w : List (Nat × Nat)), a.length = b.length → lexR (rwI (a ++ w)) (rwI (b ++ w)) = lexR (rwI a) (rwI b)
  | [], [], w, _ => lr_irr _
  | [], _ :: _, _, h => by cases h
  | _ :: _, [], _, h => by cases h
  | x :: a, y :: b, w, h => by
    rw [List.cons_append, List.cons_append, rwI_cons, rwI_cons, rwI_cons, rwI_cons, lexR_cons, lexR_cons, lexR_app w (Nat.succ.inj h)]
theorem mnW_app {a b : List (Nat × Nat)} (w : List (Nat × Nat)) (h : a.length = b.length) : mnW (a ++ w) (b ++ w) = mnW a b ++ w := by
  unfold mnW
  rw [lexR_app w h.symm]
  split <;> rfl
theorem mnW_len {n : Nat} {a b : List (Nat × Nat)} (h1 : a.length = n) (h2 : b.length = n) : (mnW a b).length = n := by
  unfold mnW
  split
  · exact h2
  · exact h1
/-! sums: the least row, and how many -/
noncomputable abbrev RN := List (Nat × Nat) × Nat
noncomputable def cmR : Option RN → Option RN → Option RN
  | none, b => b
  | some a, none => some a
  | some a, some b => some (mnW a.1 b.1, a.2 + b.2)
theorem cmR_none (a : Option RN) : cmR a none = a := by cases a <;> rfl
theorem cmR_comm (a b : Option RN) : cmR a b = cmR b a := by
  cases a <;> cases b <;> try rfl
  simp only [cmR]
  rw [mnW_comm, Nat.add_comm]
theorem cmR_assoc (a b c : Option RN) : cmR (cmR a b) c = cmR a (cmR b c) := by
  cases a <;> cases b <;> cases c <;> try rfl
  simp only [cmR]
  rw [mnW_assoc, Nat.add_assoc]
theorem cmR4 (a b c d : Option RN) : cmR (cmR a b) (cmR c d) = cmR (cmR a c) (cmR b d) := by
  rw [cmR_assoc, cmR_assoc, ← cmR_assoc b c d, cmR_comm b c, cmR_assoc c b d]
noncomputable def smL (l : List (Option RN)) : Option RN := l.foldr cmR none
theorem smL_cons (a : Option RN) (l : List (Option RN)) : smL (a :: l) = cmR a (smL l) := rfl
theorem smL_app (l m : List (Option RN)) : smL (l ++ m) = cmR (smL l) (smL m) := by
  induction l with
  | nil => rfl
  | cons a l ih => rw [List.cons_append, smL_cons, smL_cons, ih, cmR_assoc]
theorem smL_none {A : Type} {l : List A} {f : A → Option RN} (h : ∀ x, x ∈ l → f x = none) : smL (l.map f) = none := by
  induction l with
  | nil => rfl
  | cons a l ih =>
    rw [List.map_cons, smL_cons, h a (List.mem_cons_self ..), ih fun x hx => h x (List.mem_cons_of_mem _ hx)]
    rfl
theorem smL_two {A : Type} (l : List A) (f g : A → Option RN) : smL (l.map fun x => cmR (f x) (g x)) = cmR (smL (l.map f)) (smL (l.map g)) := by
  induction l with
  | nil => rfl
  | cons a l ih => rw [List.map_cons, List.map_cons, List.map_cons, smL_cons, smL_cons, smL_cons, ih, cmR4]
theorem smL_swap {A B : Type} (l : List A) (m : List B) (f : A → B → Option RN) : smL (l.map fun x => smL (m.map fun y => f x y)) = smL (m.map fun y => smL (l.map fun x => f x y)) := by
  induction l with
  | nil => exact (smL_none fun _ _ => rfl).symm
  | cons a l ih =>
    rw [List.map_cons, smL_cons, ih, ← smL_two]
    rfl
noncomputable def conR (x : Nat × Nat) (o : Option RN) : Option RN := o.map fun v => (x :: v.1, v.2)
theorem conR_cmb (x : Nat × Nat) (a b : Option RN) : conR x (cmR a b) = cmR (conR x a) (conR x b) := by
  cases a <;> cases b <;> try rfl
  simp only [conR, cmR, Option.map_some, mnW_cons]
theorem conR_sm (x : Nat × Nat) (l : List (Option RN)) : conR x (smL l) = smL (l.map (conR x)) := by
  induction l with
  | nil => rfl
  | cons a l ih => rw [List.map_cons, smL_cons, smL_cons, conR_cmb, ih]
noncomputable def mulO (v : RN) (o : Option RN) : Option RN := o.map fun w => (v.1 ++ w.1, v.2 * w.2)
theorem mulO_cmb (v : RN) (a b : Option RN) : mulO v (cmR a b) = cmR (mulO v a) (mulO v b) := by
  cases a <;> cases b <;> try rfl
  simp only [mulO, cmR, Option.map_some, mnW_pre, Nat.mul_add]
theorem mulO_sm (v : RN) (l : List (Option RN)) : mulO v (smL l) = smL (l.map (mulO v)) := by
  induction l with
  | nil => rfl
  | cons a l ih => rw [List.map_cons, smL_cons, smL_cons, mulO_cmb, ih]
theorem mulO_two {u v : RN} (h : u.1.length = v.1.length) (o : Option RN) : mulO (mnW u.1 v.1, u.2 + v.2) o = cmR (mulO u o) (mulO v o) := by
  cases o with
  | none => rfl
  | some w => simp only [mulO, cmR, Option.map_some, mnW_app _ h, Nat.add_mul]
theorem mulO_snoc (v : RN) (x : Nat × Nat) (o : Option RN) : mulO (v.1 ++ [x], v.2) o = mulO v (conR x o) := by
  cases o with
  | none => rfl
  | some w => simp [mulO, conR]
theorem mulO_one (o : Option RN) : mulO ([], 1) o = o := by
  cases o with
  | none => rfl
  | some w => simp [mulO]
/-! all rows -/
noncomputable abbrev Lay := List (Int × Int)
noncomputable def allR : Nat → Lay → Lay → List (List (Nat × Nat))
  | 0, a, c => if a = c then [[]] else []
  | n + 1, a, c => ((leapsOf a.length).map fun x => (allR n (leap a x) c).map (x :: ·)).flatten
noncomputable def sm (rs : List (List (Nat × Nat))) : Option RN := smL (rs.map fun r => some (r, 1))
theorem sm_app (l m : List (List (Nat × Nat))) : sm (l ++ m) = cmR (sm l) (sm m) := by
  unfold sm
  rw [List.map_append, smL_app]
theorem sm_flat (l : List (List (List (Nat × Nat)))) : sm l.flatten = smL (l.map sm) := by
  induction l with
  | nil => rfl
  | cons a l ih => rw [List.flatten_cons, sm_app, List.map_cons, smL_cons, ih]
theorem sm_cons (x : Nat × Nat) (rs : List (List (Nat × Nat))) : sm (rs.map (x :: ·)) = conR x (sm rs) := by
  unfold sm
  rw [conR_sm, List.map_map, List.map_map]
  rfl
theorem sm_all (n : Nat) (a c : Lay) : sm (allR (n + 1) a c) = smL ((leapsOf a.length).map fun x => conR x (sm (allR n (leap a x) c))) := by
  simp only [allR]
  rw [sm_flat, List.map_map]
  congr 1
  refine List.map_congr_left fun x _ => ?_
  exact sm_cons x _
/-! sums over layers -/
noncomputable def SumD (φ : Lay → RN → Option RN) (L : FL) : Option RN := smL (L.map fun e => φ e.1 e.2)
noncomputable def NodK (L : FL) : Prop := (L.map (·.1)).Nodup
noncomputable def RL (n : Nat) (L : FL) : Prop := ∀ y, y ∈ L → y.2.1.length = n
noncomputable def Adw (n : Nat) (φ : Lay → RN → Option RN) : Prop := ∀ K (u v : RN), u.1.length = n → v.1.length = n → φ K (mnW u.1 v.1, u.2 + v.2) = cmR (φ K u) (φ K v)
noncomputable def add1 (acc : FL) (K : Lay) (v : RN) : FL := ptG acc K (mnW ((lkG acc K).getD (v.1, 0)).1 v.1, ((lkG acc K).getD (v.1, 0)).2 + v.2)
theorem addW_eq (ex : List (Nat × Nat) → Nat × Nat → List (Nat × Nat)) (e : Lay × RN) (acc : FL) (x : Nat × Nat) : addW ex e acc x = add1 acc (leap e.1 x) (ex e.2.1 x, e.2.2) := rfl
theorem lk_cons (x : Lay × RN) (L : FL) (K : Lay) : lkG (x :: L) K = if x.1 = K then some x.2 else lkG L K := by
  unfold lkG
  rw [List.find?_cons]
  by_cases h : x.1 = K
  · rw [decide_eq_true h, if_pos h]; rfl
  · rw [decide_eq_false h, if_neg h]
theorem lk_none {L : FL} {K : Lay} (h : lkG L K = none) : ∀ x, x ∈ L → x.1 ≠ K := by
  induction L with
  | nil => exact fun x hx => nomatch hx
  | cons y L ih =>
    rw [lk_cons] at h
    by_cases e : y.1 = K
    · rw [if_pos e] at h; cases h
    · rw [if_neg e] at h
      intro x hx
      rcases List.mem_cons.mp hx with rfl | hx
      · exact e
      · exact ih h x hx
theorem map_same {L : FL} {K : Lay} {b : RN} (h : ∀ x, x ∈ L → x.1 ≠ K) : L.map (fun x => if x.1 = K then (x.1, b) else x) = L := by
  refine (List.map_congr_left fun x hx => ?_).trans (List.map_id L)
  rw [if_neg (h x hx)]
  rfl
theorem sum_set {φ : Lay → RN → Option RN} {K : Lay} {b w : RN} {d : Option RN} (hb : φ K b = cmR (φ K w) d) : ∀ {L : FL}, NodK L → lkG L K = some w → SumD φ (L.map (fun x => if x.1 = K then (x.1, b) else x)) = cmR (SumD φ L) d := by
  intro L
  induction L with
  | nil => intro _ h; cases h
  | cons y L ih =>
    intro nd h
    rw [lk_cons] at h
    have nd' : y.1 ∉ L.map (·.1) ∧ (L.map (·.1)).Nodup := List.nodup_cons.mp nd
    unfold SumD at ih ⊢
    by_cases e : y.1 = K
    · rw [if_pos e] at h
      have hno : ∀ x, x ∈ L → x.1 ≠ K := fun x hx z => nd'.1 (by rw [e, ← z]; exact List.mem_map_of_mem hx)
      rw [List.map_cons, map_same hno, List.map_cons, List.map_cons, smL_cons, smL_cons, if_pos e]
      dsimp only
      rw [e, hb]
      injection h with h
      rw [h, cmR_assoc, cmR_comm d, cmR_assoc]
    · rw [if_neg e] at h
      rw [List.map_cons, List.map_cons, List.map_cons, smL_cons, smL_cons, if_neg e, ih nd'.2 h, cmR_assoc]
theorem sum_add {n : Nat} {φ : Lay → RN → Option RN} (ha : Adw n φ) {acc : FL} {K : Lay} {v : RN} (nd : NodK acc) (rl : RL n acc) (hv : v.1.length = n) : SumD φ (add1 acc K v) = cmR (SumD φ acc) (φ K v) := by
  unfold add1 ptG
  cases q : lkG acc K with
  | none =>
    rw [if_neg (by simp)]
    unfold SumD
    rw [List.map_append, smL_app]
    simp only [Option.getD_none, mnW_same, Nat.zero_add, List.map_cons, List.map_nil, smL_cons]
    congr 1
    exact cmR_none _
  | some w =>
    rw [if_pos (by simp)]
    exact sum_set (w := w) (ha K w v (rl _ (lkG_mem q)) hv) nd q
theorem nod_add {acc : FL} {K : Lay} {v : RN} (nd : NodK acc) : NodK (add1 acc K v) := by
  unfold add1 ptG
  cases q : lkG acc K with
  | none =>
    rw [if_neg (by simp)]
    unfold NodK
    rw [List.map_append]
    refine List.nodup_append.mpr ⟨nd, List.nodup_cons.mpr ⟨fun h => (nomatch h), List.nodup_nil⟩, fun a ha b hb z => ?_⟩
    obtain ⟨x, hx, rfl⟩ := List.mem_map.mp ha
    rw [List.map_cons, List.map_nil] at hb
    exact lk_none q x hx (by rw [z]; exact List.mem_singleton.mp hb)
  | some w =>
    rw [if_pos (by simp)]
    unfold NodK
    rw [List.map_map]
    refine cast ?_ nd
    unfold NodK
    congr 1
    refine List.map_congr_left fun x _ => ?_
    simp only [Function.comp]
    split <;> rfl
theorem rl_add {n : Nat} {acc : FL} {K : Lay} {v : RN} (rl : RL n acc) (hv : v.1.length = n) : RL n (add1 acc K v) := by
  unfold add1
  refine ptG_all rl ?_
  show (mnW _ v.1).length = n
  cases q : lkG acc K with
  | none => exact mnW_len hv hv
  | some w => exact mnW_len (rl _ (lkG_mem q)) hv
theorem key_add {P : Lay → Prop} {acc : FL} {K : Lay} {v : RN} (h : ∀ y, y ∈ acc → P y.1) (hk : P K) : ∀ y, y ∈ add1 acc K v → P y.1 := by
  unfold add1
  exact ptG_all (P := fun y => P y.1) h hk
/-- what a step makes of a sum -/
noncomputable def nxt (ex : List (Nat × Nat) → Nat × Nat → List (Nat × Nat)) (φ : Lay → RN → Option RN) (K : Lay) (v : RN) : Option RN := smL ((leapsOf K.length).map fun x => φ (leap K x) (ex v.1 x, v.2))
theorem sum_step {ex : List (Nat × Nat) → Nat × Nat → List (Nat × Nat)} {n : Nat} (hex : ∀ r x, (ex r x).length = r.length + 1) {L : FL} (rl : RL n L) :
    NodK (stepW ex L) ∧ RL (n + 1) (stepW ex L) ∧ (∀ P : Lay → Prop, (∀ y x, y ∈ L → P (leap y.1 x)) → ∀ y, y ∈ stepW ex L → P y.1) ∧ ∀ φ, Adw (n + 1) φ → SumD φ (stepW ex L) = SumD (nxt ex φ) L := by
  have in1 : ∀ (e : Lay × RN), e.2.1.length = n → ∀ (xs : List (Nat × Nat)) (acc : FL), NodK acc → RL (n + 1) acc → NodK (xs.foldl (addW ex e) acc) ∧ RL (n + 1) (xs.foldl (addW ex e) acc) ∧ (∀ P : Lay → Prop, (∀ y, y ∈ acc → P y.1) → (∀ x, P (leap e.1 x)) → ∀ y, y ∈ xs.foldl (addW ex e) acc → P y.1) ∧
      ∀ φ, Adw (n + 1) φ → SumD φ (xs.foldl (addW ex e) acc) = cmR (SumD φ acc) (smL (xs.map fun x => φ (leap e.1 x) (ex e.2.1 x, e.2.2))) := by
    intro e he xs
    induction xs with
    | nil => exact fun acc h1 h2 => ⟨h1, h2, fun P h _ => h, fun φ _ => (cmR_none _).symm⟩
    | cons x xs ih =>
      intro acc h1 h2
      rw [List.foldl_cons, addW_eq]
      have hv : (ex e.2.1 x).length = n + 1 := by rw [hex, he]
      obtain ⟨a, b, c, d⟩ := ih _ (nod_add (K := leap e.1 x) (v := (ex e.2.1 x, e.2.2)) h1) (rl_add h2 hv)
      refine ⟨a, b, fun P hp hq => c P (key_add hp (hq x)) hq, fun φ hφ => ?_⟩
      rw [d φ hφ, sum_add hφ h1 h2 hv, cmR_assoc]
      rfl
  have out : ∀ (L : FL), RL n L → ∀ (acc : FL), NodK acc → RL (n + 1) acc → NodK (L.foldl (fun acc e => (leapsOf e.1.length).foldl (addW ex e) acc) acc) ∧ RL (n + 1) (L.foldl (fun acc e => (leapsOf e.1.length).foldl (addW ex e) acc) acc) ∧
      (∀ P : Lay → Prop, (∀ y, y ∈ acc → P y.1) → (∀ y x, y ∈ L → P (leap y.1 x)) → ∀ y, y ∈ L.foldl (fun acc e => (leapsOf e.1.length).foldl (addW ex e) acc) acc → P y.1) ∧
      ∀ φ, Adw (n + 1) φ → SumD φ (L.foldl (fun acc e => (leapsOf e.1.length).foldl (addW ex e) acc) acc) = cmR (SumD φ acc) (SumD (nxt ex φ) L) := by
    intro L
    induction L with
    | nil => exact fun _ acc h1 h2 => ⟨h1, h2, fun P h _ => h, fun φ _ => (cmR_none _).symm⟩
    | cons e L ih =>
      intro hL acc h1 h2
      rw [List.foldl_cons]
      obtain ⟨a, b, c, d⟩ := in1 e (hL e (List.mem_cons_self ..)) (leapsOf e.1.length) acc h1 h2
      obtain ⟨a', b', c', d'⟩ := ih (fun y hy => hL y (List.mem_cons_of_mem _ hy)) _ a b
      refine ⟨a', b', fun P hp hq => c' P (c P hp fun x => hq e x (List.mem_cons_self ..)) fun y x hy => hq y x (List.mem_cons_of_mem _ hy), fun φ hφ => ?_⟩
      rw [d' φ hφ, d φ hφ, cmR_assoc]
      rfl
  obtain ⟨a, b, c, d⟩ := out L rl [] List.nodup_nil fun y hy => nomatch hy
  exact ⟨a, b, fun P hp => c P (fun y hy => nomatch hy) hp, d⟩
theorem lk_sum {K : Lay} : ∀ {L : FL}, NodK L → lkG L K = SumD (fun M v => if M = K then some v else none) L := by
  intro L
  induction L with
  | nil => exact fun _ => rfl
  | cons y L ih =>
    intro nd
    have nd' : y.1 ∉ L.map (·.1) ∧ (L.map (·.1)).Nodup := List.nodup_cons.mp nd
    rw [lk_cons]
    unfold SumD at ih ⊢
    rw [List.map_cons, smL_cons]
    dsimp only
    by_cases e : y.1 = K
    · rw [if_pos e, if_pos e, smL_none]
      · rfl
      · intro x hx
        rw [if_neg]
        exact fun z => nd'.1 (by rw [e, ← z]; exact List.mem_map_of_mem hx)
    · rw [if_neg e, if_neg e]
      exact ih nd'.2
theorem psi_adw {n : Nat} {K : Lay} : Adw n (fun M v => if M = K then some v else none) := by
  intro M u v _ _
  dsimp only
  by_cases h : M = K
  · rw [if_pos h, if_pos h, if_pos h]; rfl
  · rw [if_neg h, if_neg h, if_neg h]; rfl
theorem exA_len (r : List (Nat × Nat)) (x : Nat × Nat) : (exA r x).length = r.length + 1 := by simp [exA]
theorem exB_len (r : List (Nat × Nat)) (x : Nat × Nat) : (exB r x).length = r.length + 1 := rfl
theorem lp_of {n : Nat} {x : Nat × Nat} (h : x ∈ leapsOf n) : Lp n x := by
  unfold leapsOf at h
  obtain ⟨r, hr, hx⟩ := List.mem_flatten.mp h
  obtain ⟨i, hi, rfl⟩ := List.mem_map.mp hr
  obtain ⟨j, hj, rfl⟩ := List.mem_map.mp hx
  obtain ⟨h1, h2⟩ := List.mem_filter.mp hj
  simp only [Bool.not_eq_true', decide_eq_false_iff_not] at h2
  exact ⟨List.mem_range.mp hi, List.mem_range.mp h1, fun z => h2 (congrArg (fun k : Nat => (k : Int)) z)⟩
/-! the layers behind so many steps -/
noncomputable def lyA (a : Lay) : Nat → FL
  | 0 => [(a, ([], 1))]
  | n + 1 => stepW exA (lyA a n)
noncomputable def lyB (c : Lay) : Nat → FL
  | 0 => [(c, ([], 1))]
  | n + 1 => stepW exB (lyB c n)
theorem lyA_inv (a : Lay) : ∀ n, NodK (lyA a n) ∧ RL n (lyA a n) ∧ ∀ y, y ∈ lyA a n → y.1.length = a.length
  | 0 => ⟨List.nodup_cons.mpr ⟨fun h => (nomatch h), List.nodup_nil⟩, fun y hy => by rw [List.mem_singleton.mp hy]; rfl, fun y hy => by rw [List.mem_singleton.mp hy]⟩
  | n + 1 => by
    obtain ⟨i1, i2, i3⟩ := lyA_inv a n
    obtain ⟨s1, s2, s3, _⟩ := sum_step exA_len i2
    exact ⟨s1, s2, s3 (fun K => K.length = a.length) fun y x hy => by rw [leap_len]; exact i3 y hy⟩
theorem lyB_inv (a : Lay) : ∀ n, NodK (lyB a n) ∧ RL n (lyB a n) ∧ ∀ y, y ∈ lyB a n → y.1.length = a.length
  | 0 => ⟨List.nodup_cons.mpr ⟨fun h => (nomatch h), List.nodup_nil⟩, fun y hy => by rw [List.mem_singleton.mp hy]; rfl, fun y hy => by rw [List.mem_singleton.mp hy]⟩
  | n + 1 => by
    obtain ⟨i1, i2, i3⟩ := lyB_inv a n
    obtain ⟨s1, s2, s3, _⟩ := sum_step exB_len i2
    exact ⟨s1, s2, s3 (fun K => K.length = a.length) fun y x hy => by rw [leap_len]; exact i3 y hy⟩
theorem lyB_at {c : Lay} : ∀ {n : Nat} {K : Lay}, K.length = c.length → lkG (lyB c n) K = sm (allR n K c)
  | 0, K, hK => by
    show lkG [(c, ([], 1))] K = _
    rw [lk_cons]
    simp only [allR]
    by_cases h : c = K
    · rw [if_pos h, if_pos h.symm]; rfl
    · rw [if_neg h, if_neg (fun z => h z.symm)]; rfl
  | n + 1, K, hK => by
    obtain ⟨i1, i2, i3⟩ := lyB_inv c n
    obtain ⟨s1, _, _, s4⟩ := sum_step exB_len i2
    show lkG (stepW exB (lyB c n)) K = _
    rw [lk_sum s1, s4 _ psi_adw, sm_all]
    unfold SumD nxt
    have e1 : (lyB c n).map (fun e => smL ((leapsOf e.1.length).map fun x => if leap e.1 x = K then some (exB e.2.1 x, e.2.2) else none)) = (lyB c n).map (fun e => smL ((leapsOf K.length).map fun x => if e.1 = leap K x then some (x :: e.2.1, e.2.2) else none)) := by
      refine List.map_congr_left fun e he => ?_
      have hl : e.1.length = K.length := by rw [i3 e he, hK]
      rw [hl]
      congr 1
      refine List.map_congr_left fun x hx => ?_
      have lx := lp_of hx
      by_cases h : e.1 = leap K x
      · rw [if_pos h, if_pos (by rw [h]; exact leap_leap lx)]; rfl
      · rw [if_neg h, if_neg (fun z => h (by rw [← z]; exact (leap_leap (by rw [hl]; exact lx)).symm))]
    rw [e1, smL_swap]
    congr 1
    refine List.map_congr_left fun x _ => ?_
    rw [← lyB_at (n := n) (K := leap K x) (by rw [leap_len]; exact hK), lk_sum i1]
    unfold SumD
    rw [conR_sm, List.map_map]
    congr 1
    refine List.map_congr_left fun e _ => ?_
    simp only [Function.comp]
    by_cases h : e.1 = leap K x
    · rw [if_pos h, if_pos h]; rfl
    · rw [if_neg h, if_neg h]; rfl
noncomputable def phi (n : Nat) (c : Lay) (K : Lay) (v : RN) : Option RN := mulO v (sm (allR n K c))
theorem phi_adw {m n : Nat} {c : Lay} : Adw m (phi n c) := fun K u v hu hv => mulO_two (by rw [hu, hv]) _
theorem phi_nxt {n : Nat} {c : Lay} : nxt exA (phi n c) = phi (n + 1) c := by
  funext K v
  unfold nxt phi
  rw [sm_all, mulO_sm, List.map_map]
  congr 1
  refine List.map_congr_left fun x _ => ?_
  exact mulO_snoc v x _
theorem lyA_sum {a c : Lay} : ∀ {f n : Nat}, SumD (phi n c) (lyA a f) = sm (allR (n + f) a c)
  | 0, n => by
    show cmR (mulO ([], 1) _) none = _
    rw [mulO_one, cmR_none]
    rfl
  | f + 1, n => by
    obtain ⟨i1, i2, i3⟩ := lyA_inv a f
    obtain ⟨_, _, _, s4⟩ := sum_step exA_len i2
    show SumD (phi n c) (stepW exA (lyA a f)) = _
    rw [s4 _ phi_adw, phi_nxt, lyA_sum]
    congr 2
    omega
theorem ends_ly {a c : Lay} : ∀ k, endsW k ([(a, ([], 1))], [(c, ([], 1))]) = (lyA a ((k + 1) / 2), lyB c (k / 2))
  | 0 => rfl
  | k + 1 => by
    simp only [endsW, ends_ly k]
    by_cases h : k % 2 = 0
    · have e1 : (k + 1 + 1) / 2 = (k + 1) / 2 + 1 := by omega
      have e2 : (k + 1) / 2 = k / 2 := by omega
      have e3 : (k + 2) / 2 = (k + 1) / 2 + 1 := by omega
      rw [if_pos h, e1, e2]
      rfl
    · have e1 : (k + 1 + 1) / 2 = (k + 1) / 2 := by omega
      have e2 : (k + 1) / 2 = k / 2 + 1 := by omega
      rw [if_neg h, e1, e2]
      rfl
noncomputable def outB : Option RN → Option (List (Nat × Nat)) × Int
  | none => (none, 0)
  | some v => (some v.1, (v.2 : Int))
theorem sm_min : ∀ (r : List RN) (x : RN), cmR (some x) (smL (r.map some)) = some (minW x.1 (r.map (·.1)), x.2 + (r.map (·.2)).sum)
  | [], x => rfl
  | y :: r, x => by
    rw [List.map_cons, smL_cons, ← cmR_assoc]
    show cmR (some (mnW x.1 y.1, x.2 + y.2)) _ = _
    rw [sm_min r]
    simp only [List.map_cons, List.sum_cons, Nat.add_assoc]
    rfl
theorem sum_intR : ∀ r : List RN, (r.map fun y => (y.2 : Int)).sum = (((r.map (·.2)).sum : Nat) : Int)
  | [] => rfl
  | y :: r => by
    rw [List.map_cons, List.sum_cons, List.map_cons, List.sum_cons, sum_intR r, Int.natCast_add]
theorem sm_filter {A : Type} {l : List A} {p : A → Bool} {h : A → RN} {g : A → Option RN} (hg : ∀ x, x ∈ l → g x = if p x = true then some (h x) else none) : smL (((l.filter p).map h).map some) = smL (l.map g) := by
  induction l with
  | nil => rfl
  | cons a l ih =>
    have i := ih fun x hx => hg x (List.mem_cons_of_mem _ hx)
    rw [List.map_cons, smL_cons, hg a (List.mem_cons_self ..), List.filter_cons]
    by_cases q : p a = true
    · rw [if_pos q, if_pos q, List.map_cons, List.map_cons, smL_cons, i]
    · rw [if_neg q, if_neg q, i]
      rfl
theorem lk_own {L : FL} (nd : NodK L) {x : Lay × RN} (hx : x ∈ L) : lkG L x.1 = some x.2 := by
  induction L with
  | nil => cases hx
  | cons y L ih =>
    have nd' : y.1 ∉ L.map (·.1) ∧ (L.map (·.1)).Nodup := List.nodup_cons.mp nd
    rw [lk_cons]
    rcases List.mem_cons.mp hx with rfl | hx
    · rw [if_pos rfl]
    · rw [if_neg, ih nd'.2 hx]
      exact fun z => nd'.1 (by rw [z]; exact List.mem_map_of_mem hx)
theorem betw_all {a c : Lay} (h : a.length = c.length) (n : Nat) : betwW a c n = outB (sm (allR n a c)) := by
  unfold betwW
  rw [ends_ly]
  obtain ⟨a1, a2, a3⟩ := lyA_inv a ((n + 1) / 2)
  have en : n / 2 + (n + 1) / 2 = n := by omega
  have key : smL ((meetW (lyA a ((n + 1) / 2), lyB c (n / 2))).map some) = sm (allR n a c) := by
    have e := lyA_sum (a := a) (c := c) (f := (n + 1) / 2) (n := n / 2)
    rw [en] at e
    rw [← e]
    unfold meetW SumD
    refine sm_filter fun x hx => ?_
    have hl : x.1.length = c.length := by rw [a3 x hx, h]
    unfold phi
    rw [← lyB_at hl, lk_own a1 hx]
    dsimp only
    cases q : lkG (lyB c (n / 2)) x.1 with
    | none => rfl
    | some w => rfl
  cases q : meetW (lyA a ((n + 1) / 2), lyB c (n / 2)) with
  | nil =>
    rw [q] at key
    rw [← key]
    rfl
  | cons x r =>
    rw [q] at key
    rw [← key, List.map_cons, smL_cons, sm_min]
    dsimp only [outB]
    rw [sum_intR]
    rfl
/-! moved all alike -/
theorem leap_sh {a : Lay} {v : Int × Int} {x : Nat × Nat} (h : Lp a.length x) : leap (a.map (mvP v)) x = (leap a x).map (mvP v) := by
  unfold leap
  rw [at_sh h.1, at_sh h.2.1, bey_sh, List.map_set]
theorem allR_sh {v : Int × Int} : ∀ {n : Nat} {a c : Lay}, allR n (a.map (mvP v)) (c.map (mvP v)) = allR n a c
  | 0, a, c => by
    simp only [allR]
    by_cases h : a = c
    · rw [if_pos h, if_pos (by rw [h])]
    · rw [if_neg h, if_neg (fun z => h ((List.map_inj_right fun p q => mvP_inj.mp).mp z))]
  | n + 1, a, c => by
    simp only [allR, List.length_map]
    congr 1
    refine List.map_congr_left fun x hx => ?_
    rw [leap_sh (lp_of hx), allR_sh]
theorem betw_sh {a c : Lay} {v : Int × Int} {n : Nat} (h : a.length = c.length) : betwW (a.map (mvP v)) (c.map (mvP v)) n = betwW a c n := by
  rw [betw_all (by rw [List.length_map, List.length_map, h]), betw_all h, allR_sh]
/-! looked for where it can be alone -/
noncomputable def offW (a c : Lay) : Nat := ((List.range a.length).filter fun i => !decide (atL a i = atL c i)).length
noncomputable def allP : Nat → Lay → Lay → List (List (Nat × Nat))
  | 0, a, c => if a = c then [[]] else []
  | n + 1, a, c => if offW a c ≤ n + 1 then ((leapsOf a.length).map fun x => (allP n (leap a x) c).map (x :: ·)).flatten else []
theorem off_step {a c : Lay} {x : Nat × Nat} (h : Lp a.length x) : offW a c ≤ offW (leap a x) c + 1 := by
  unfold offW
  rw [leap_len]
  have key : ∀ l : List Nat, l.Nodup → (l.filter fun i => !decide (atL a i = atL c i)).length ≤ (l.filter fun i => !decide (atL (leap a x) i = atL c i)).length + 1 := by
    intro l
    have same : ∀ l : List Nat, x.1 ∉ l → (l.filter fun i => !decide (atL a i = atL c i)) = (l.filter fun i => !decide (atL (leap a x) i = atL c i)) := by
      intro l hl
      refine List.filter_congr fun i hi => ?_
      have : atL (leap a x) i = atL a i := by
        unfold leap
        exact at_set_ne fun z => hl (by rw [z]; exact hi)
      rw [this]
    induction l with
    | nil => exact fun _ => Nat.zero_le _
    | cons i l ih =>
      intro nd
      have nd' := List.nodup_cons.mp nd
      rw [List.filter_cons, List.filter_cons]
      by_cases e : i = x.1
      · rw [same l (by rw [← e]; exact nd'.1)]
        split <;> split <;> (try simp only [List.length_cons]) <;> omega
      · have : atL (leap a x) i = atL a i := by
          unfold leap
          exact at_set_ne fun z => e z.symm
        rw [this]
        have i1 := ih nd'.2
        split
        · rw [List.length_cons, List.length_cons]; omega
        · exact i1
  exact key _ List.nodup_range
theorem off_same (a : Lay) : offW a a = 0 := by
  unfold offW
  rw [List.length_eq_zero_iff, List.filter_eq_nil_iff]
  intro i _
  simp
theorem all_off : ∀ {n : Nat} {a c : Lay}, n < offW a c → allR n a c = []
  | 0, a, c, h => by
    simp only [allR]
    rw [if_neg]
    intro z
    rw [z, off_same] at h
    omega
  | n + 1, a, c, h => by
    simp only [allR]
    rw [List.flatten_eq_nil_iff]
    intro l hl
    obtain ⟨x, hx, rfl⟩ := List.mem_map.mp hl
    have := off_step (c := c) (lp_of hx)
    rw [all_off (by omega)]
    rfl
theorem allP_all : ∀ {n : Nat} {a c : Lay}, allP n a c = allR n a c
  | 0, a, c => rfl
  | n + 1, a, c => by
    simp only [allP]
    by_cases h : offW a c ≤ n + 1
    · rw [if_pos h]
      simp only [allR]
      congr 1
      refine List.map_congr_left fun x _ => ?_
      rw [allP_all]
    · rw [if_neg h, all_off (by omega)]
end IP
namespace IP
open PySem PySem.Spec PyProof.Rows L2
/-! the text by places -/
noncomputable def top (i : Nat) : Stmt := PySem.Challenge.pw_overleaps_k41_fewest_by_hand_and_by_name.main.body.getD i (.Pass ⟨0, 0, 0, 0⟩)
noncomputable abbrev st_0 : Stmt := top 8
noncomputable def N_0 : List Str := ["thing"]
/-- is_whole -/
noncomputable def b_0 : List IS := [.ret (.and (.bf (.isi .int) [.var 0]) (.not (.bf (.isi .bool) [.var 0])))]
noncomputable def t_0 : FnT := ⟨"is_whole", none, 1, ["thing"], [], [], false⟩
noncomputable def d_0 : FD := ⟨1, 1, b_0⟩
noncomputable abbrev st_1 : Stmt := top 9
noncomputable def N_1 : List Str := ["thing", "least", "most"]
/-- is_within -/
noncomputable def b_1 : List IS := [.ret (.and (.call 0 [.var 0] []) (.chn .le .le (.var 1) (.var 0) (.var 2)))]
noncomputable def t_1 : FnT := ⟨"is_within", none, 3, ["thing", "least", "most"], [], [], false⟩
noncomputable def d_1 : FD := ⟨3, 3, b_1⟩
noncomputable abbrev st_2 : Stmt := top 10
noncomputable def N_2 : List Str := ["thing", "least", "most"]
/-- is_long -/
noncomputable def b_2 : List IS := [.ret (.and (.bf (.isi .tuple) [.var 0]) (.chn .le .le (.var 1) (.bf .len [.var 0]) (.var 2)))]
noncomputable def t_2 : FnT := ⟨"is_long", none, 3, ["thing", "least", "most"], [], [], false⟩
noncomputable def d_2 : FD := ⟨3, 3, b_2⟩
noncomputable abbrev st_3 : Stmt := top 11
noncomputable def N_3 : List Str := ["thing", "one"]
/-- is_place -/
noncomputable def b_3 : List IS := [.ret (.and (.call 2 [.var 0, .gcs 1 (.int 2), .gcs 1 (.int 2)] []) (.bf .all [.comp (.call 0 [.var 1] []) (.nm 1) (.var 0) [] [1]]))]
noncomputable def t_3 : FnT := ⟨"is_place", none, 1, ["thing"], [], [], false⟩
noncomputable def d_3 : FD := ⟨1, 2, b_3⟩
noncomputable abbrev st_4 : Stmt := top 12
noncomputable def N_4 : List Str := ["thing", "one"]
/-- is_lay -/
noncomputable def b_4 : List IS := [.ret (.and (.call 2 [.var 0, .cst (.int 1), .gcs 0 (.int 6)] []) (.bf .all [.comp (.call 3 [.var 1] []) (.nm 1) (.var 0) [] [1]]))]
noncomputable def t_4 : FnT := ⟨"is_lay", none, 1, ["thing"], [], [], false⟩
noncomputable def d_4 : FD := ⟨1, 2, b_4⟩
noncomputable abbrev st_5 : Stmt := top 13
noncomputable def N_5 : List Str := ["thing"]
/-- need_lay -/
noncomputable def b_5 : List IS := [.ite (.not (.call 4 [.var 0] [])) [.bad] []]
noncomputable def t_5 : FnT := ⟨"need_lay", none, 1, ["thing"], [], [], false⟩
noncomputable def d_5 : FD := ⟨1, 1, b_5⟩
noncomputable abbrev st_6 : Stmt := top 14
noncomputable def N_6 : List Str := ["one", "other"]
/-- need_two -/
noncomputable def b_6 : List IS := [.exp (.call 5 [.var 0] []),
  .exp (.call 5 [.var 1] []),
  .ite (.cmp .ne (.bf .len [.var 0]) (.bf .len [.var 1])) [.bad] []]
noncomputable def t_6 : FnT := ⟨"need_two", none, 2, ["one", "other"], [], [], false⟩
noncomputable def d_6 : FD := ⟨2, 2, b_6⟩
noncomputable abbrev st_7 : Stmt := top 15
noncomputable def N_7 : List Str := ["place", "over"]
/-- beyond -/
noncomputable def b_7 : List IS := [.ret (.tup [.bin .sub (.bin .mul (.cst (.int 2)) (.idx (.var 1) (.cst (.int 0)))) (.idx (.var 0) (.cst (.int 0))), .bin .sub (.bin .mul (.cst (.int 2)) (.idx (.var 1) (.cst (.int 1)))) (.idx (.var 0) (.cst (.int 1)))])]
noncomputable def t_7 : FnT := ⟨"beyond", none, 2, ["place", "over"], [], [], false⟩
noncomputable def d_7 : FD := ⟨2, 2, b_7⟩
noncomputable abbrev st_8 : Stmt := top 16
noncomputable def N_8 : List Str := ["lay", "token", "place"]
/-- put -/
noncomputable def b_8 : List IS := [.ret (.bin .add (.bin .add (.sli (.var 0) .non (.var 1)) (.tup [.var 2])) (.sli (.var 0) (.bin .add (.var 1) (.cst (.int 1))) .non))]
noncomputable def t_8 : FnT := ⟨"put", none, 3, ["lay", "token", "place"], [], [], false⟩
noncomputable def d_8 : FD := ⟨3, 3, b_8⟩
noncomputable abbrev st_9 : Stmt := top 17
noncomputable def N_9 : List Str := ["lay", "leap"]
/-- leapt -/
noncomputable def b_9 : List IS := [.ret (.call 8 [.var 0, .idx (.var 1) (.cst (.int 0)), .call 7 [.idx (.var 0) (.idx (.var 1) (.cst (.int 0))), .idx (.var 0) (.idx (.var 1) (.cst (.int 1)))] []] [])]
noncomputable def t_9 : FnT := ⟨"leapt", none, 2, ["lay", "leap"], [], [], false⟩
noncomputable def d_9 : FD := ⟨2, 2, b_9⟩
noncomputable abbrev st_10 : Stmt := top 20
noncomputable def N_10 : List Str := ["thing"]
/-- need_number -/
noncomputable def b_10 : List IS := [.ite (.not (.call 1 [.var 0, .cst (.int 0), .gcs 2 (.int 4)] [])) [.bad] []]
noncomputable def t_10 : FnT := ⟨"need_number", none, 1, ["thing"], [], [], false⟩
noncomputable def d_10 : FD := ⟨1, 1, b_10⟩
noncomputable abbrev st_11 : Stmt := top 21
noncomputable def N_11 : List Str := ["lay", "every", "one", "over"]
/-- leaps_of -/
noncomputable def b_11 : List IS := [.asg (.nm 1) (.lr1 false (.bf .len [.var 0])),
  .ret (.comp2 (.tup [.var 2, .var 3]) (.nm 2) (.var 1) [] (.nm 3) (.var 1) [.cmp .ne (.var 2) (.var 3)] [2, 3] [3])]
noncomputable def t_11 : FnT := ⟨"leaps_of", none, 1, ["lay"], [], [], false⟩
noncomputable def d_11 : FD := ⟨1, 4, b_11⟩
noncomputable abbrev st_12 : Stmt := top 22
noncomputable def N_12 : List Str := ["layer", "found", "lay", "leap", "row", "many", "there", "least", "ways"]
/-- ahead -/
noncomputable def b_12 : List IS := [.asg (.nm 1) (.nd0),
  .for_ (.tp [(.nm 2), (.tp [(.nm 4), (.nm 5)])]) (.nit 0) [.for_ (.nm 3) (.call 11 [.var 2] []) [.asg (.nm 6) (.call 9 [.var 2, .var 3] []),
      .asg (.tp [.nm 7, .nm 8]) (.ngt 1 (.var 6) (.tup [.bin .add (.var 4) (.tup [.var 3]), .cst (.int 0)])),
      .npt 1 (.var 6) (.tup [.mn2 (.var 7) (.bin .add (.var 4) (.tup [.var 3])), .bin .add (.var 8) (.var 5)])]],
  .ret (.var 1)]
noncomputable def t_12 : FnT := ⟨"ahead", none, 1, ["layer"], [], [], false⟩
noncomputable def d_12 : FD := ⟨1, 9, b_12⟩
noncomputable abbrev st_13 : Stmt := top 23
noncomputable def N_13 : List Str := ["layer", "found", "lay", "leap", "row", "many", "there", "least", "ways"]
/-- back -/
noncomputable def b_13 : List IS := [.asg (.nm 1) (.nd0),
  .for_ (.tp [(.nm 2), (.tp [(.nm 4), (.nm 5)])]) (.nit 0) [.for_ (.nm 3) (.call 11 [.var 2] []) [.asg (.nm 6) (.call 9 [.var 2, .var 3] []),
      .asg (.tp [.nm 7, .nm 8]) (.ngt 1 (.var 6) (.tup [.bin .add (.tup [.var 3]) (.var 4), .cst (.int 0)])),
      .npt 1 (.var 6) (.tup [.mn2 (.var 7) (.bin .add (.tup [.var 3]) (.var 4)), .bin .add (.var 8) (.var 5)])]],
  .ret (.var 1)]
noncomputable def t_13 : FnT := ⟨"back", none, 1, ["layer"], [], [], false⟩
noncomputable def d_13 : FD := ⟨1, 9, b_13⟩
noncomputable abbrev st_14 : Stmt := top 24
noncomputable def N_14 : List Str := ["one", "other", "many", "lap", "some", "first", "last", "lay", "row", "ways"]
/-- rows_between -/
noncomputable def b_14 : List IS := [.par [.nm 5, .nm 6] [.nd1 (.var 0) (.tup [.tup [], .cst (.int 1)]), .nd1 (.var 1) (.tup [.tup [], .cst (.int 1)])],
  .for_ (.nm 3) (.rg1 (.var 2)) [.ite (.cmp .eq (.bin .mod (.var 3) (.cst (.int 2))) (.cst (.int 0))) [.asg (.nm 5) (.call 12 [.var 5] [])] [.asg (.nm 6) (.call 13 [.var 6] [])]],
  .asg (.nm 4) (.comp (.tup [.bin .add (.idx (.nix 5 (.var 7)) (.cst (.int 0))) (.idx (.nix 6 (.var 7)) (.cst (.int 0))), .bin .mul (.idx (.nix 5 (.var 7)) (.cst (.int 1))) (.idx (.nix 6 (.var 7)) (.cst (.int 1)))]) (.nm 7) (.nks 5) [.nin false (.var 7) 6] [7]),
  .ite (.cmp .eq (.var 4) (.lst [])) [.ret (.tup [.cst (.none), .cst (.int 0)])] [],
  .ret (.tup [.bf .min [.comp (.var 8) (.tp [(.nm 8), (.nm 9)]) (.var 4) [] [8, 9]], .bf .sum [.comp (.var 9) (.tp [(.nm 8), (.nm 9)]) (.var 4) [] [8, 9]]])]
noncomputable def t_14 : FnT := ⟨"rows_between", none, 3, ["one", "other", "many"], [], [], false⟩
noncomputable def d_14 : FD := ⟨3, 10, b_14⟩
noncomputable abbrev st_15 : Stmt := top 25
noncomputable def N_15 : List Str := ["one", "other", "most", "many", "row", "ways"]
/-- fewest -/
noncomputable def b_15 : List IS := [.exp (.call 6 [.var 0, .var 1] []),
  .exp (.call 10 [.var 2] []),
  .for_ (.nm 3) (.rg1 (.bin .add (.var 2) (.cst (.int 1)))) [.asg (.tp [.nm 4, .nm 5]) (.call 14 [.var 0, .var 1, .var 3] []),
    .ite (.isc true (.var 4) (.none)) [.ret (.var 4)] []],
  .ret (.cst (.none))]
noncomputable def t_15 : FnT := ⟨"fewest", none, 3, ["one", "other", "most"], [], [⟨0, ["most", "other", "one"], [2, 1, 0]⟩], false⟩
noncomputable def d_15 : FD := ⟨3, 6, b_15⟩
noncomputable abbrev st_16 : Stmt := top 26
noncomputable def N_16 : List Str := ["one", "other", "many"]
/-- how_many_rows -/
noncomputable def b_16 : List IS := [.exp (.call 6 [.var 0, .var 1] []),
  .exp (.call 10 [.var 2] []),
  .ret (.idx (.call 14 [.var 0, .var 1, .var 2] []) (.cst (.int 1)))]
noncomputable def t_16 : FnT := ⟨"how_many_rows", none, 3, ["one", "other", "many"], [], [⟨0, ["many", "other", "one"], [2, 1, 0]⟩], false⟩
noncomputable def d_16 : FD := ⟨3, 3, b_16⟩
noncomputable abbrev st_17 : Stmt := top 28
noncomputable def N_17 : List Str := ["_law_script", "_law_k"]
/-- _law_cell_at -/
noncomputable def b_17 : List IS := [.ite (.cmp .lt (.var 1) (.bf .len [.var 0])) [.ret (.idx (.var 0) (.var 1))] [],
  .ret (.cst (.int 0))]
noncomputable def t_17 : FnT := ⟨"_law_cell_at", none, 2, ["_law_script", "_law_k"], [], [], false⟩
noncomputable def d_17 : FD := ⟨2, 2, b_17⟩
noncomputable abbrev st_18 : Stmt := top 29
noncomputable def N_18 : List Str := ["_law_cell"]
/-- _law_pen -/
noncomputable def b_18 : List IS := [.ret (.new (.lst [.bf .max2 [.cst (.int 0), .bin .sub (.var 0) (.bin .pow (.cst (.int 10)) (.cst (.int 18)))], .bin .add (.bin .mod (.var 0) (.cst (.int 2147483629))) (.cst (.int 1)), .cst (.int 0)]))]
noncomputable def t_18 : FnT := ⟨"_law_pen", none, 1, ["_law_cell"], [], [], false⟩
noncomputable def d_18 : FD := ⟨1, 1, b_18⟩
noncomputable abbrev st_19 : Stmt := top 30
noncomputable def N_19 : List Str := ["_law_pen_here", "_law_count_own", "_law_mixed", "_law_found"]
/-- _law_draw -/
noncomputable def b_19 : List IS := [.ite (.cmp .gt (.idx (.var 0) (.cst (.int 0))) (.cst (.int 0))) [.asg (.nm 3) (.bin .mod (.idx (.var 0) (.cst (.int 0))) (.var 1)),
    .asg (.sub (.var 0) (.cst (.int 0))) (.bin .fdv (.idx (.var 0) (.cst (.int 0))) (.var 1)),
    .ret (.var 3)] [],
  .asg (.sub (.var 0) (.cst (.int 2))) (.bin .add (.idx (.var 0) (.cst (.int 2))) (.cst (.int 1))),
  .asg (.sub (.var 0) (.cst (.int 1))) (.bin .mod (.bin .add (.bin .add (.bin .mul (.idx (.var 0) (.cst (.int 1))) (.cst (.int 48271))) (.bin .mul (.cst (.int 1009)) (.idx (.var 0) (.cst (.int 2))))) (.cst (.int 7))) (.cst (.int 2147483647))),
  .asg (.nm 2) (.bin .mod (.bin .add (.bin .add (.bin .mul (.idx (.var 0) (.cst (.int 1))) (.idx (.var 0) (.cst (.int 1)))) (.bin .mul (.cst (.int 69621)) (.idx (.var 0) (.cst (.int 1))))) (.cst (.int 11))) (.cst (.int 2147483629))),
  .asg (.nm 2) (.bin .mod (.bin .add (.bin .mul (.var 2) (.var 2)) (.bin .mul (.cst (.int 40014)) (.var 2))) (.cst (.int 2147483587))),
  .ret (.bin .mod (.bin .fdv (.var 2) (.cst (.int 16))) (.var 1))]
noncomputable def t_19 : FnT := ⟨"_law_draw", none, 2, ["_law_pen_here", "_law_count_own"], [], [], false⟩
noncomputable def d_19 : FD := ⟨2, 4, b_19⟩
noncomputable abbrev st_20 : Stmt := top 31
noncomputable def N_20 : List Str := ["_law_by", "_law_begin", "_law_steps", "_law_nth", "_law_there", "_law_due", "_law_counts", "_law_x", "_law_far", "_law_size"]
/-- _law_two_right -/
noncomputable def b_20 : List IS := [.asg (.nm 1) (.tup [.tup [.var 0, .cst (.int 1)], .tup [.bin .add (.var 0) (.cst (.int 1)), .cst (.int 1)]]),
  .asg (.nm 2) (.lst [.tup [.cst (.int 2), .cst (.int 1)], .tup [.cst (.int 2), .cst (.int 3)], .tup [.cst (.int 4), .cst (.int 3)], .tup [.cst (.int 4), .cst (.int 5)]]),
  .for_ (.tp [(.nm 3), (.tp [(.nm 7), (.nm 8)])]) (.enu (.var 2)) [.asg (.nm 4) (.tup [.tup [.bin .add (.var 0) (.var 7), .cst (.int 1)], .tup [.bin .add (.var 0) (.var 8), .cst (.int 1)]]),
    .asg (.nm 5) (.sli (.tup [.tup [.cst (.int 0), .cst (.int 1)], .tup [.cst (.int 1), .cst (.int 0)], .tup [.cst (.int 0), .cst (.int 1)], .tup [.cst (.int 1), .cst (.int 0)]]) .non (.bin .add (.var 3) (.cst (.int 1)))),
    .ite (.or (.cmp .ne (.callk 15 [] [.cst (.int 4), .var 4, .var 1] [2, 1, 0]) (.var 5)) (.isc true (.call 15 [.var 1, .var 4, .var 3] []) (.none))) [.ret (.cst (.bool false))] [],
    .asg (.nm 6) (.comp (.callk 16 [] [.var 9, .var 4, .var 1] [2, 1, 0]) (.nm 9) (.rg1 (.bin .add (.var 3) (.cst (.int 2)))) [] [9]),
    .ite (.cmp .ne (.var 6) (.bin .add (.bin .mul (.lst [.cst (.int 0)]) (.bin .add (.var 3) (.cst (.int 1)))) (.lst [.cst (.int 1)]))) [.ret (.cst (.bool false))] []],
  .ite (.or (.isc true (.call 15 [.var 1, .rev (.var 1), .cst (.int 4)] []) (.none)) (.cmp .ne (.call 15 [.var 1, .var 1, .cst (.int 0)] []) (.tup []))) [.ret (.cst (.bool false))] [],
  .ret (.cmp .eq (.comp (.call 16 [.var 1, .var 1, .var 9] []) (.nm 9) (.rg1 (.cst (.int 5))) [] [9]) (.lst [.cst (.int 1), .cst (.int 0), .cst (.int 2), .cst (.int 0), .cst (.int 6)]))]
noncomputable def t_20 : FnT := ⟨"_law_two_right", none, 1, ["_law_by"], [], [], false⟩
noncomputable def d_20 : FD := ⟨1, 10, b_20⟩
noncomputable abbrev st_21 : Stmt := top 32
noncomputable def N_21 : List Str := ["_law_by", "_law_heap", "_law_beside", "_law_there", "_law_size"]
/-- _law_heap_right -/
noncomputable def b_21 : List IS := [.asg (.nm 1) (.bin .mul (.tup [.tup [.var 0, .var 0]]) (.cst (.int 3))),
  .ite (.or (.cmp .ne (.call 15 [.var 1, .var 1, .cst (.int 4)] []) (.tup [])) (.cmp .ne (.comp (.call 16 [.var 1, .var 1, .var 4] []) (.nm 4) (.rg1 (.cst (.int 4))) [] [4]) (.lst [.cst (.int 1), .cst (.int 6), .cst (.int 36), .cst (.int 216)]))) [.ret (.cst (.bool false))] [],
  .par [.nm 2, .nm 3] [.tup [.tup [.var 0, .cst (.int 0)], .tup [.var 0, .cst (.int 0)], .tup [.bin .add (.var 0) (.cst (.int 1)), .cst (.int 0)]], .tup [.tup [.bin .add (.var 0) (.cst (.int 2)), .cst (.int 0)], .tup [.var 0, .cst (.int 0)], .tup [.bin .add (.var 0) (.cst (.int 1)), .cst (.int 0)]]],
  .ite (.or (.cmp .ne (.call 15 [.var 2, .var 3, .cst (.int 1)] []) (.tup [.tup [.cst (.int 0), .cst (.int 2)]])) (.cmp .ne (.comp (.call 16 [.var 2, .var 3, .var 4] []) (.nm 4) (.tup [.cst (.int 1), .cst (.int 2)]) [] [4]) (.lst [.cst (.int 1), .cst (.int 2)]))) [.ret (.cst (.bool false))] [],
  .ret (.and (.cmp .eq (.call 16 [.var 2, .var 2, .cst (.int 1)] []) (.cst (.int 2))) (.cmp .eq (.call 16 [.var 2, .var 2, .cst (.int 2)] []) (.cst (.int 10))))]
noncomputable def t_21 : FnT := ⟨"_law_heap_right", none, 1, ["_law_by"], [], [], false⟩
noncomputable def d_21 : FD := ⟨1, 5, b_21⟩
noncomputable abbrev st_22 : Stmt := top 33
noncomputable def N_22 : List Str := ["_law_six", "_law_there", "_law_size"]
/-- _law_six_right -/
noncomputable def b_22 : List IS := [.asg (.nm 0) (.tup [.tup [.cst (.int 0), .cst (.int 0)], .tup [.cst (.int 1), .cst (.int 0)], .tup [.cst (.int 0), .cst (.int 1)], .tup [.cst (.int 5), .cst (.int 7)], .tup [.cst (.int 11), .cst (.int 3)], .tup [.cst (.int 20), .cst (.int 31)]]),
  .asg (.nm 1) (.tup [.tup [.cst (.int 2), .cst (.int 0)], .tup [.cst (.int 1), .cst (.int 0)], .tup [.cst (.int 2), .neg (.cst (.int 1))], .tup [.neg (.cst (.int 3)), .neg (.cst (.int 7))], .tup [.neg (.cst (.int 9)), .neg (.cst (.int 3))], .tup [.cst (.int 20), .cst (.int 31)]]),
  .ite (.or (.cmp .ne (.call 15 [.var 0, .var 1, .cst (.int 4)] []) (.tup [.tup [.cst (.int 0), .cst (.int 1)], .tup [.cst (.int 2), .cst (.int 1)], .tup [.cst (.int 3), .cst (.int 1)], .tup [.cst (.int 4), .cst (.int 1)]])) (.isc true (.call 15 [.var 0, .var 1, .cst (.int 3)] []) (.none))) [.ret (.cst (.bool false))] [],
  .ret (.cmp .eq (.comp (.call 16 [.var 0, .var 1, .var 2] []) (.nm 2) (.tup [.cst (.int 3), .cst (.int 4)]) [] [2]) (.lst [.cst (.int 0), .cst (.int 24)]))]
noncomputable def t_22 : FnT := ⟨"_law_six_right", none, 0, [], [], [], false⟩
noncomputable def d_22 : FD := ⟨0, 3, b_22⟩
noncomputable abbrev st_23 : Stmt := top 34
noncomputable def N_23 : List Str := ["_law_script", "_law_k", "_law_pen_here", "_law_by", "_law_lone", "_law_size"]
/-- law -/
noncomputable def b_23 : List IS := [.ite (.not (.call 22 [] [])) [.ret (.cst (.bool false))] [],
  .for_ (.nm 1) (.rg1 (.bf .max2 [.cst (.int 1), .bf .min2 [.bf .len [.var 0], .cst (.int 3)]])) [.asg (.nm 2) (.call 18 [.call 17 [.var 0, .var 1] []] []),
    .asg (.nm 3) (.bin .sub (.call 19 [.var 2, .cst (.int 71)] []) (.cst (.int 35))),
    .ite (.or (.not (.call 20 [.var 3] [])) (.not (.call 21 [.var 3] []))) [.ret (.cst (.bool false))] [],
    .asg (.nm 4) (.tup [.tup [.var 3, .cst (.int 3)]]),
    .ite (.or (.cmp .ne (.call 15 [.var 4, .var 4, .cst (.int 4)] []) (.tup [])) (.cmp .ne (.comp (.call 16 [.var 4, .var 4, .var 5] []) (.nm 5) (.tup [.cst (.int 0), .cst (.int 1), .cst (.int 4)]) [] [5]) (.lst [.cst (.int 1), .cst (.int 0), .cst (.int 0)]))) [.ret (.cst (.bool false))] [],
    .ite (.isc true (.call 15 [.var 4, .tup [.tup [.var 3, .cst (.int 4)]], .cst (.int 4)] []) (.none)) [.ret (.cst (.bool false))] []],
  .ret (.cst (.bool true))]
noncomputable def t_23 : FnT := ⟨"law", none, 1, ["_law_script"], [], [], false⟩
noncomputable def d_23 : FD := ⟨1, 6, b_23⟩
noncomputable def PP : List (Option FD) := [some d_0, some d_1, some d_2, some d_3, some d_4, some d_5, some d_6, some d_7, some d_8, some d_9, some d_10, some d_11, some d_12, some d_13, some d_14, some d_15, some d_16, some d_17, some d_18, some d_19, some d_20, some d_21, some d_22, some d_23]
theorem P_0 : PP[0]? = some (some d_0) := rfl
theorem P_1 : PP[1]? = some (some d_1) := rfl
theorem P_2 : PP[2]? = some (some d_2) := rfl
theorem P_3 : PP[3]? = some (some d_3) := rfl
theorem P_4 : PP[4]? = some (some d_4) := rfl
theorem P_5 : PP[5]? = some (some d_5) := rfl
theorem P_6 : PP[6]? = some (some d_6) := rfl
theorem P_7 : PP[7]? = some (some d_7) := rfl
theorem P_8 : PP[8]? = some (some d_8) := rfl
theorem P_9 : PP[9]? = some (some d_9) := rfl
theorem P_10 : PP[10]? = some (some d_10) := rfl
theorem P_11 : PP[11]? = some (some d_11) := rfl
theorem P_12 : PP[12]? = some (some d_12) := rfl
theorem P_13 : PP[13]? = some (some d_13) := rfl
theorem P_14 : PP[14]? = some (some d_14) := rfl
theorem P_15 : PP[15]? = some (some d_15) := rfl
theorem P_16 : PP[16]? = some (some d_16) := rfl
theorem P_17 : PP[17]? = some (some d_17) := rfl
theorem P_18 : PP[18]? = some (some d_18) := rfl
theorem P_19 : PP[19]? = some (some d_19) := rfl
theorem P_20 : PP[20]? = some (some d_20) := rfl
theorem P_21 : PP[21]? = some (some d_21) := rfl
theorem P_22 : PP[22]? = some (some d_22) := rfl
theorem P_23 : PP[23]? = some (some d_23) := rfl
noncomputable def TT : Tab := ⟨[some t_0, some t_1, some t_2, some t_3, some t_4, some t_5, some t_6, some t_7, some t_8, some t_9, some t_10, some t_11, some t_12, some t_13, some t_14, some t_15, some t_16, some t_17, some t_18, some t_19, some t_20, some t_21, some t_22, some t_23], [], [], [("MOST_TOKENS", .int 6), ("LONG", .int 2), ("MOST_LEAPS", .int 4)], ["all", "bool", "enumerate", "int", "isinstance", "len", "list", "max", "min", "range", "sum", "tuple", "zip"], false, false⟩
theorem c_0 : defChk TT t_0 N_0 (defScope st_0) (defBody st_0) d_0 = true := by decide +kernel
theorem c_1 : defChk TT t_1 N_1 (defScope st_1) (defBody st_1) d_1 = true := by decide +kernel
theorem c_2 : defChk TT t_2 N_2 (defScope st_2) (defBody st_2) d_2 = true := by decide +kernel
theorem c_3 : defChk TT t_3 N_3 (defScope st_3) (defBody st_3) d_3 = true := by decide +kernel
theorem c_4 : defChk TT t_4 N_4 (defScope st_4) (defBody st_4) d_4 = true := by decide +kernel
theorem c_5 : defChk TT t_5 N_5 (defScope st_5) (defBody st_5) d_5 = true := by decide +kernel
theorem c_6 : defChk TT t_6 N_6 (defScope st_6) (defBody st_6) d_6 = true := by decide +kernel
theorem c_7 : defChk TT t_7 N_7 (defScope st_7) (defBody st_7) d_7 = true := by decide +kernel
theorem c_8 : defChk TT t_8 N_8 (defScope st_8) (defBody st_8) d_8 = true := by decide +kernel
theorem c_9 : defChk TT t_9 N_9 (defScope st_9) (defBody st_9) d_9 = true := by decide +kernel
theorem c_10 : defChk TT t_10 N_10 (defScope st_10) (defBody st_10) d_10 = true := by decide +kernel
theorem c_11 : defChk TT t_11 N_11 (defScope st_11) (defBody st_11) d_11 = true := by decide +kernel
theorem c_12 : defChk TT t_12 N_12 (defScope st_12) (defBody st_12) d_12 = true := by decide +kernel
theorem c_13 : defChk TT t_13 N_13 (defScope st_13) (defBody st_13) d_13 = true := by decide +kernel
theorem c_14 : defChk TT t_14 N_14 (defScope st_14) (defBody st_14) d_14 = true := by decide +kernel
theorem c_15 : defChk TT t_15 N_15 (defScope st_15) (defBody st_15) d_15 = true := by decide +kernel
theorem c_16 : defChk TT t_16 N_16 (defScope st_16) (defBody st_16) d_16 = true := by decide +kernel
theorem c_17 : defChk TT t_17 N_17 (defScope st_17) (defBody st_17) d_17 = true := by decide +kernel
theorem c_18 : defChk TT t_18 N_18 (defScope st_18) (defBody st_18) d_18 = true := by decide +kernel
theorem c_19 : defChk TT t_19 N_19 (defScope st_19) (defBody st_19) d_19 = true := by decide +kernel
theorem c_20 : defChk TT t_20 N_20 (defScope st_20) (defBody st_20) d_20 = true := by decide +kernel
theorem c_21 : defChk TT t_21 N_21 (defScope st_21) (defBody st_21) d_21 = true := by decide +kernel
theorem c_22 : defChk TT t_22 N_22 (defScope st_22) (defBody st_22) d_22 = true := by decide +kernel
theorem c_23 : defChk TT t_23 N_23 (defScope st_23) (defBody st_23) d_23 = true := by decide +kernel
variable {W : Option Nat}
local macro_rules | `(tactic| simp_arith only [$xs,*]) => `(tactic| simp only [sat_okI, evS, evT, evE, evL, evAll, Out.bind_ok, Out.bind_exc, Out.bind_err, bind_assoc_, Out.nox_ok, opt_some, opt_none, optD_some, optD_none, datb_, lookO, lookF_dat, look_dat, dats_nil, dats_cons, Option.map_some, Option.map_none, asT, asTs, it_ok, it_bind, dfl, List.map_nil, List.map_cons, List.append_nil, List.nil_append, List.cons_append, List.replicate_zero, List.replicate_succ, Nat.sub_self, List.getElem?_cons_zero, List.getElem?_cons_succ, List.set_cons_zero, List.set_cons_succ, List.length_cons, List.length_nil, at_0, at_1, at_2, at_3, isTy, bind_nm, bind_tp, bpts_nil, bpts_cons, retOf, isNon, partO, cond_t, cond_f, if_true, if_false, Bool.false_eq_true, reduceIte, reduceCtorEq, wipeE, Nat.reduceAdd, Nat.reduceSub, Nat.reduceLT, Nat.reduceLeDiff, Nat.lt_add_one, Nat.zero_add, Int.reduceNeg, Bool.not_true, Bool.not_false, bf_len_t, bf_len_l, bf_abs, bf_min2, bf_max2, bf_int_b, bf_repr, bf_list_l, bf_list_t, bf_tuple_l, bf_tuple_t, bf_all, bf_any, bf_sum, bf_sum_t, bf_isi, bin_add, bin_sub, bin_mul, bin_fdv, bin_mod, bin_p18, bin_p12, bin_add_t, bin_add_l, bin_add_s, bin_mul_t, cmpP_eq, eqO_s, cmpP_ne, cmpP_lt, cmpP_le, cmpP_gt, cmpP_ge, cmpP_in, cmpP_nin, eqP_int, eqP_str, eq_nil_nil, eq_lay, eq_row, eq_rns, add_rns, perm10, idx_t, idx_l, idx_pl0, idx_pl1, idx_lp0, idx_lp1, idx_rw0, kob_0, kob_1, kput_0, kput_1, sli_t, sli_l, rev_t, rev_l, items_t, items_l, seq_t, seq_l, bools_nil, bools_cons, compL, consO, List.all_cons, List.all_nil, List.any_cons, List.any_nil, id_eq, Bool.and_true, Bool.true_and, Bool.and_self, finD_rt, finD_nx, finD_exc, said_ok, said_0, said_1, said_2, said_3, said_4, said_5, said_6, said_7, said_8, said_9, said_10, said_11, said_12, cut_last, ix3_0, ix3_1, ix3_2, ne_eq, not_false_eq_true, not_true_eq_false, Int.reduceEq, Int.reduceLT, Int.reduceLE, decide_true, decide_false, List.set_set, $xs,*])
local macro_rules | `(tactic| simp_arith! only [$xs,*]) => `(tactic| simp only [evSs, evS, evT, evE, evL, evAll, Out.bind_ok, Out.bind_exc, Out.bind_err, bind_assoc_, Out.nox_ok, opt_some, opt_none, optD_some, optD_none, datb_, lookO, lookF_dat, look_dat, dats_nil, dats_cons, Option.map_some, Option.map_none, asT, asTs, it_ok, it_bind, dfl, List.map_nil, List.map_cons, List.append_nil, List.nil_append, List.cons_append, List.replicate_zero, List.replicate_succ, Nat.sub_self, List.getElem?_cons_zero, List.getElem?_cons_succ, List.set_cons_zero, List.set_cons_succ, List.length_cons, List.length_nil, at_0, at_1, at_2, at_3, isTy, bind_nm, bind_tp, bpts_nil, bpts_cons, retOf, isNon, partO, cond_t, cond_f, if_true, if_false, Bool.false_eq_true, reduceIte, reduceCtorEq, wipeE, Nat.reduceAdd, Nat.reduceSub, Nat.reduceLT, Nat.reduceLeDiff, Nat.lt_add_one, Nat.zero_add, Int.reduceNeg, Bool.not_true, Bool.not_false, bf_len_t, bf_len_l, bf_abs, bf_min2, bf_max2, bf_int_b, bf_repr, bf_list_l, bf_list_t, bf_tuple_l, bf_tuple_t, bf_all, bf_any, bf_sum, bf_sum_t, bf_isi, bin_add, bin_sub, bin_mul, bin_fdv, bin_mod, bin_p18, bin_p12, bin_add_t, bin_add_l, bin_add_s, bin_mul_t, cmpP_eq, eqO_s, cmpP_ne, cmpP_lt, cmpP_le, cmpP_gt, cmpP_ge, cmpP_in, cmpP_nin, eqP_int, eqP_str, eq_nil_nil, eq_lay, eq_row, eq_rns, add_rns, perm10, idx_t, idx_l, idx_pl0, idx_pl1, idx_lp0, idx_lp1, idx_rw0, kob_0, kob_1, kput_0, kput_1, sli_t, sli_l, rev_t, rev_l, items_t, items_l, seq_t, seq_l, bools_nil, bools_cons, compL, consO, List.all_cons, List.all_nil, List.any_cons, List.any_nil, id_eq, Bool.and_true, Bool.true_and, Bool.and_self, finD_rt, finD_nx, finD_exc, said_ok, said_0, said_1, said_2, said_3, said_4, said_5, said_6, said_7, said_8, said_9, said_10, said_11, said_12, cut_last, ix3_0, ix3_1, ix3_2, ne_eq, not_false_eq_true, not_true_eq_false, Int.reduceEq, Int.reduceLT, Int.reduceLE, decide_true, decide_false, List.set_set, $xs,*])
local macro_rules | `(tactic| simp_all_arith only [$xs,*]) => `(tactic| simp only [sat_okI, evS, evT, evE, evL, evAll, Out.bind_ok, Out.bind_exc, Out.bind_err, bind_assoc_, Out.nox_ok, opt_some, opt_none, optD_some, optD_none, datb_, lookO, lookF_dat, look_dat, dats_nil, dats_cons, Option.map_some, Option.map_none, asT, asTs, it_ok, it_bind, dfl, List.map_nil, List.map_cons, List.append_nil, List.nil_append, List.cons_append, List.replicate_zero, List.replicate_succ, Nat.sub_self, List.getElem?_cons_zero, List.getElem?_cons_succ, List.set_cons_zero, List.set_cons_succ, List.length_cons, List.length_nil, at_0, at_1, at_2, at_3, isTy, bind_nm, bind_tp, bpts_nil, bpts_cons, retOf, isNon, partO, cond_t, cond_f, if_true, if_false, Bool.false_eq_true, reduceIte, reduceCtorEq, wipeE, Nat.reduceAdd, Nat.reduceSub, Nat.reduceLT, Nat.reduceLeDiff, Nat.lt_add_one, Nat.zero_add, Int.reduceNeg, Bool.not_true, Bool.not_false, bf_len_t, bf_len_l, bf_abs, bf_min2, bf_max2, bf_int_b, bf_repr, bf_list_l, bf_list_t, bf_tuple_l, bf_tuple_t, bf_all, bf_any, bf_sum, bf_sum_t, bf_isi, bin_add, bin_sub, bin_mul, bin_fdv, bin_mod, bin_p18, bin_p12, bin_add_t, bin_add_l, bin_add_s, bin_mul_t, cmpP_eq, eqO_s, cmpP_ne, cmpP_lt, cmpP_le, cmpP_gt, cmpP_ge, cmpP_in, cmpP_nin, eqP_int, eqP_str, eq_nil_nil, eq_lay, eq_row, eq_rns, add_rns, perm10, idx_t, idx_l, idx_pl0, idx_pl1, idx_lp0, idx_lp1, idx_rw0, kob_0, kob_1, kput_0, kput_1, sli_t, sli_l, rev_t, rev_l, items_t, items_l, seq_t, seq_l, bools_nil, bools_cons, compL, consO, List.all_cons, List.all_nil, List.any_cons, List.any_nil, id_eq, Bool.and_true, Bool.true_and, Bool.and_self, finD_rt, finD_nx, finD_exc, said_ok, said_0, said_1, said_2, said_3, said_4, said_5, said_6, said_7, said_8, said_9, said_10, said_11, said_12, cut_last, ix3_0, ix3_1, ix3_2, ne_eq, not_false_eq_true, not_true_eq_false, Int.reduceEq, Int.reduceLT, Int.reduceLE, decide_true, decide_false, List.set_set, wl_2, wl_3, wl_4, wl_5, wput_3, wput_4, wo_at, wo_set, wob_at, $xs,*])

/-! ### the program's places, lays, leaps -/
theorem s_whole {k : Nat} {i : Int} {S : Store} : callN PP W (k + 1) 0 [.dat (.int i)] S = .ok (.dat (.bool true)) S := by
  rw [callN_at P_0 rfl]
  simp_arith! only [d_0, b_0]
theorem s_within {k : Nat} {i a b : Int} {S : Store} : callN PP W (k + 2) 1 [.dat (.int i), .dat (.int a), .dat (.int b)] S = .ok (.dat (.bool (decide (a ≤ i ∧ i ≤ b)))) S := by
  rw [callN_at P_1 rfl]
  simp_arith! only [d_1, b_1, s_whole]
  by_cases h1 : a ≤ i <;> by_cases h2 : i ≤ b <;> simp [h1, h2]
theorem s_long {k : Nat} {xs : List PyData} {a b : Int} {S : Store} : callN PP W (k + 1) 2 [.dat (.tuple xs), .dat (.int a), .dat (.int b)] S = .ok (.dat (.bool (decide (a ≤ xs.length ∧ xs.length ≤ b)))) S := by
  rw [callN_at P_2 rfl]
  simp_arith! only [d_2, b_2]
  by_cases h1 : a ≤ (xs.length : Int) <;> by_cases h2 : (xs.length : Int) ≤ b <;> simp [h1, h2]
theorem s_place {k : Nat} {p : Int × Int} {S : Store} : callN PP W (k + 2) 3 [.dat (pl p)] S = .ok (.dat (.bool true)) S := by
  rw [callN_at P_3 rfl]
  simp_arith! only [d_3, b_3, pl, s_long, s_whole, sizeLine_eq]
  simp_arith! only [show decide ((2 : Int) ≤ ((2 : Nat) : Int) ∧ ((2 : Nat) : Int) ≤ 2) = true from rfl]
theorem s_lay {k : Nat} {l : List (Int × Int)} {S : Store} (h : l.length ≤ 1000) : callN PP W (k + 3) 4 [.dat (lay l)] S = .ok (.dat (.bool (decide (1 ≤ l.length ∧ l.length ≤ 6)))) S := by
  have h3 : l.length < sizeLine := by rw [sizeLine_eq]; omega
  rw [callN_at P_4 rfl]
  simp_arith! only [d_4, b_4, lay, s_long, List.length_map, h3]
  by_cases h1 : (1 : Int) ≤ (l.length : Int) ∧ (l.length : Int) ≤ 6
  · have h2 : 1 ≤ l.length ∧ l.length ≤ 6 := by omega
    rw [decide_eq_true h1, decide_eq_true h2]
    simp_arith! only [id_eq]
    rw [comp_map (h := pl) (g := fun _ => .bool true)]
    · simp_arith! only [boolsOf_map]
      simp
    · intro p _
      simp_arith! only [s_place]
  · have h2 : ¬ (1 ≤ l.length ∧ l.length ≤ 6) := by omega
    rw [decide_eq_false h1, decide_eq_false h2]
    simp_arith! only [id_eq]
theorem s_need_lay {k : Nat} {l : List (Int × Int)} {S : Store} (h : 1 ≤ l.length ∧ l.length ≤ 6) : callN PP W (k + 4) 5 [.dat (lay l)] S = .ok (.dat .none) S := by
  rw [callN_at P_5 rfl]
  simp_arith! only [d_5, b_5, s_lay (l := l) (by omega), decide_eq_true h]
theorem s_beyond {k n : Nat} {p q : Int × Int} {S : Store} (h : q.1.natAbs < 2 ^ n ∧ q.2.natAbs < 2 ^ n) (hn : n ≤ 400000) : callN PP W (k + 1) 7 [.dat (pl p), .dat (pl q)] S = .ok (.dat (pl (bey p q))) S := by
  have m1 : mulOk 2 q.1 = true := mul_ok (a := 2) (by decide) h.1 (by omega)
  have m2 : mulOk 2 q.2 = true := mul_ok (a := 2) (by decide) h.2 (by omega)
  rw [callN_at P_7 rfl]
  simp_arith! only [d_7, b_7, pl, m1, m2, sizeLine_eq, bey]
theorem set_cut {A : Type} {l : List A} {i : Nat} {a : A} (h : i < l.length) : l.take i ++ [a] ++ l.drop (i + 1) = l.set i a := by
  rw [List.set_eq_take_append_cons_drop, if_pos h]
  simp
theorem s_put {k : Nat} {l : List (Int × Int)} {i : Nat} {p : Int × Int} {S : Store} (h : i < l.length) (hl : l.length ≤ 1000) : callN PP W (k + 1) 8 [.dat (lay l), .dat (.int i), .dat (pl p)] S = .ok (.dat (lay (l.set i p))) S := by
  have e1 : ((i : Int) + 1) = ((i + 1 : Nat) : Int) := rfl
  have z1 : (List.take i (l.map pl)).length + 1 ≤ sizeLine := by rw [List.length_take, List.length_map, sizeLine_eq]; omega
  have z2 : (List.take i (l.map pl) ++ [pl p]).length + (List.drop (i + 1) (l.map pl)).length ≤ sizeLine := by rw [List.length_append, List.length_take, List.length_drop, List.length_map, sizeLine_eq]; simp; omega
  have z3 : (1 : Nat) ≤ sizeLine := by rw [sizeLine_eq]; omega
  rw [callN_at P_8 rfl]
  simp_arith! only [d_8, b_8, lay, e1, cut_take, cut_drop, z3, z1, z2]
  rw [set_cut (by rw [List.length_map]; exact h), List.map_set]
theorem s_leapt {k n : Nat} {l : List (Int × Int)} {r : Nat × Nat} {S : Store} (h : Lp l.length r) (hl : l.length ≤ 1000) (hb : Bn n l) (hn : n ≤ 100000) : callN PP W (k + 2) 9 [.dat (lay l), .dat (lp r)] S = .ok (.dat (lay (leap l r))) S := by
  have a1 : L2.atI (l.map pl) (r.1 : Int) = some (pl (atL l r.1)) := at_nat (by rw [List.getElem?_map, at_lay h.1]; rfl)
  have a2 : L2.atI (l.map pl) (r.2 : Int) = some (pl (atL l r.2)) := at_nat (by rw [List.getElem?_map, at_lay h.2.1]; rfl)
  rw [callN_at P_9 rfl]
  have p := s_put (k := k) (W := W) (l := l) (i := r.1) (p := bey (atL l r.1) (atL l r.2)) (S := S) h.1 hl
  simp only [lay] at p ⊢
  simp_arith! only [d_9, b_9, lp, a1, a2, s_beyond (hb _ (at_mem h.2.1)) (show n ≤ 400000 by omega), p]
  rfl

/-! ### what is drawn -/
theorem s_draw {k n l : Nat} {many : Int} {S : Store} (h : Pen n l S) (hn : n ≤ 2 ^ 100) (h0 : 0 < many) (h1 : many < 2 ^ 62) :
    (callN PP W (k + 1) 19 [.ref l, .dat (.int many)] S).sat fun v S' => (∃ r : Nat, v = Val.dat (.int (r : Int)) ∧ (r : Int) < many) ∧ Pen (n + 1) l S' ∧ Fr l S S' := by
  have hl := h.lt
  obtain ⟨a, b, c, hS, b0, b1, c0, c1⟩ := h.ex
  refine call_pen P_19 rfl hl ?_
  have e0 : many ≠ 0 := by omega
  have d0 : divOk many = true := div_ok h0 h1
  have d1 : divOk 16 = true := by decide
  by_cases ha : 0 < a
  · have hd : decide (0 < a) = true := decide_eq_true ha
    simp_arith! only [d_19, b_19, lookF_lst hS, hS, hd, e0, d0]
    refine sat_ok ⟨⟨(a.fmod many).toNat, ?_, ?_⟩, ⟨_, _, _, set_at hl, b0, b1, c0, by omega⟩, Fr.set⟩
    · rw [Int.toNat_of_nonneg (fm_ge h0)]
    · rw [Int.toNat_of_nonneg (fm_ge h0)]
      exact fm_lt h0
  · have hd : decide (0 < a) = false := decide_eq_false ha
    have m1 : mulOk b 48271 = true := mul_ok (a := 31) (b := 16) (by omega) (by decide) (by decide)
    have m2 : mulOk 1009 (c + 1) = true := mul_ok (a := 10) (b := 101) (by decide) (by omega) (by decide)
    have q1 : ∀ x y : Int, mulOk (x.fmod 2147483647) (y.fmod 2147483647) = true := fun x y => mul_ok (a := 62) (b := 62) (fm_nat (by decide) (by decide)) (fm_nat (by decide) (by decide)) (by decide)
    have q2 : ∀ y : Int, mulOk 69621 (y.fmod 2147483647) = true := fun y => mul_ok (a := 62) (b := 62) (by decide) (fm_nat (by decide) (by decide)) (by decide)
    have q3 : ∀ x y : Int, mulOk (x.fmod 2147483629) (y.fmod 2147483629) = true := fun x y => mul_ok (a := 62) (b := 62) (fm_nat (by decide) (by decide)) (fm_nat (by decide) (by decide)) (by decide)
    have q4 : ∀ y : Int, mulOk 40014 (y.fmod 2147483629) = true := fun y => mul_ok (a := 62) (b := 62) (by decide) (fm_nat (by decide) (by decide)) (by decide)
    simp_arith! only [d_19, b_19, lookF_lst hS, hS, hd, e0, d0, d1, m1, m2, lookF_set hl, set_at hl, q1, q2, q3, q4]
    refine sat_ok ⟨⟨Int.toNat _, (congrArg (fun z => Val.dat (.int z)) (Int.toNat_of_nonneg (fm_ge h0))).symm, ?_⟩, ⟨_, _, _, set_at hl, fm_ge (by decide), ?_, by omega, by omega⟩, Fr.set⟩
    · rw [Int.toNat_of_nonneg (fm_ge h0)]
      exact fm_lt h0
    · have := fm_lt (x := b * 48271 + 1009 * (c + 1) + 7) (m := 2147483647) (by decide)
      omega

theorem s_cell_at {k i : Nat} {ns : List Int} {S : Store} (h : S[0]? = some (.frz (ns.map .int))) : ∃ c : Int, callN PP W (k + 1) 17 [.ref 0, .dat (.int (i : Int))] S = .ok (.dat (.int c)) S := by
  by_cases hi : i < ns.length
  · refine ⟨ns[i], ?_⟩
    have a1 : L2.atI (ns.map PyData.int) (i : Int) = some (.int ns[i]) := at_nat (by rw [List.getElem?_map, List.getElem?_eq_getElem hi]; rfl)
    rw [callN_at P_17 rfl]
    simp_arith! only [d_17, b_17, lookF_frz h, List.length_map, decide_eq_true (show (i : Int) < (ns.length : Int) by omega), a1]
  · refine ⟨0, ?_⟩
    rw [callN_at P_17 rfl]
    simp_arith! only [d_17, b_17, lookF_frz h, List.length_map, decide_eq_false (show ¬ ((i : Int) < (ns.length : Int)) by omega)]
theorem s_pen {k : Nat} {c : Int} {S : Store} : ∃ a b : Int, callN PP W (k + 1) 18 [.dat (.int c)] S = .ok (.ref S.length) (S ++ [.lst [.int a, .int b, .int 0]]) ∧ 0 ≤ b ∧ b < 2 ^ 31 := by
  have g1 := fm_ge (x := c) (m := 2147483629) (by decide)
  have g2 := fm_lt (x := c) (m := 2147483629) (by decide)
  have z3 : (3 : Nat) ≤ sizeLine := by rw [sizeLine_eq]; omega
  refine ⟨if c - 1000000000000000000 > 0 then c - 1000000000000000000 else 0, c.fmod 2147483629 + 1, ?_, by omega, by omega⟩
  rw [callN_at P_18 rfl]
  simp_arith! only [d_18, b_18, z3]
  unfold finD leave
  simp [below]


/-! ### rows between lays -/
theorem compLL_map {A : Type} {f : PyData → Store → Out (List PyData)} {h : A → PyData} {g : A → List PyData} {S : Store} : ∀ {l : List A}, (∀ a, a ∈ l → f (h a) S = .ok (g a) S) → compLL f (l.map h) S = .ok (l.map g).flatten S
  | [], _ => rfl
  | a :: l, hh => by
    rw [List.map_cons, List.map_cons, List.flatten_cons]
    simp only [compLL]
    rw [hh a (List.mem_cons_self ..), Out.bind_ok, compLL_map fun b hb => hh b (List.mem_cons_of_mem _ hb), Out.bind_ok]
theorem s_leaps_of {k : Nat} {l : List (Int × Int)} {S : Store} (hl : l.length ≤ 6) : callN PP W (k + 1) 11 [.dat (lay l)] S = .ok (.dat (.list ((leapsOf l.length).map lp))) S := by
  have z2 : (2 : Nat) ≤ sizeLine := by rw [sizeLine_eq]; omega
  have c1 : small (l.length : Int) = true := small_of (by omega) (by omega)
  have zr : (intRange 0 (l.length : Int)).length ≤ sizeLine := by rw [rg_len, sizeLine_eq]; omega
  have z1000 : ((List.range l.length).map fun i : Nat => PyData.int (i : Int)).length ≤ 1000 := by rw [List.length_map, List.length_range]; omega
  have ro : rgOk 0 (l.length : Int) = true := by
    unfold rgOk
    rw [c1, small_of (show -1000000000000 ≤ (0 : Int) by omega) (show (0 : Int) ≤ 1000000000000 by omega)]
    simp only [Bool.true_and]
    exact decide_eq_true (by omega)
  have mk : ∀ xs : List PyData, mkSeq false xs = .list xs := fun _ => rfl
  have lenl : bfP .len [lay l] = some (.int (l.length : Int)) := by unfold lay; rw [bf_len_t, List.length_map]
  rw [callN_at P_11 rfl]
  simp_arith! only [d_11, b_11, lenl, c1, zr, rg_map, ro, mk, z1000]
  rw [compLL_map (h := fun i : Nat => PyData.int (i : Int)) (g := fun i : Nat => ((((List.range l.length).filter fun (j : Nat) => !decide ((i : Int) = (j : Int))).map fun (j : Nat) => (i, j)).map lp))]
  · simp_arith! only [id_eq]
    unfold leapsOf
    rw [List.map_flatten, List.map_map]
    rfl
  · intro i _
    rw [comp_filter (h := fun j : Nat => PyData.int (j : Int)) (c := fun j : Nat => !decide ((i : Int) = (j : Int))) (g := fun j : Nat => lp (i, j)), List.map_map]
    · rfl
    · intro j _
      by_cases e : (i : Int) = (j : Int) <;> simp_arith! only [e, z2, lp]
theorem dGt {S : Store} {l : Nat} {kvs : List (PyData × PyData)} (h : S[l]? = some (.nd kvs)) : dictAt S (some (some (.ref l))) = some (l, kvs) := by
  simp only [dictAt, h]
theorem dG_lt {S : Store} {l m : Nat} {kvs : List (PyData × PyData)} (h : dictAt S (some (some (.ref l))) = some (m, kvs)) : l < S.length := by
  unfold dictAt at h
  simp only at h
  cases e : S[l]? with
  | none => rw [e] at h; cases h
  | some o => exact (List.getElem?_eq_some_iff.mp e).1
/-- the bounds of a layer -/
noncomputable def LyOk (len b k : Nat) (L : FL) : Prop := ∀ e, e ∈ L → e.1.length = len ∧ Bn (b + 2 * k) e.1 ∧ e.2.1.length = k ∧ (∀ x, x ∈ e.2.1 → Lp len x) ∧ e.2.2 ≤ 900 ^ k
theorem leapsOf_mem {n : Nat} {x : Nat × Nat} (h : x ∈ leapsOf n) : Lp n x := by
  unfold leapsOf at h
  obtain ⟨r, hr, hx⟩ := List.mem_flatten.mp h
  obtain ⟨i, hi, rfl⟩ := List.mem_map.mp hr
  obtain ⟨j, hj, rfl⟩ := List.mem_map.mp hx
  obtain ⟨h1, h2⟩ := List.mem_filter.mp hj
  simp only [Bool.not_eq_true', decide_eq_false_iff_not] at h2
  exact ⟨List.mem_range.mp hi, List.mem_range.mp h1, fun z => h2 (congrArg (fun k : Nat => (k : Int)) z)⟩
theorem leapsOf_len {n : Nat} (h : n ≤ 6) : (leapsOf n).length ≤ 30 := by
  have : n = 0 ∨ n = 1 ∨ n = 2 ∨ n = 3 ∨ n = 4 ∨ n = 5 ∨ n = 6 := by omega
  rcases this with rfl | rfl | rfl | rfl | rfl | rfl | rfl <;> decide
noncomputable def ah1_body : List IS := forBody b_12 1
noncomputable def ah2_body : List IS := forBody ah1_body 0
theorem ah2_ok {k b l0 l1 len : Nat} {e : List (Int × Int) × (List (Nat × Nat) × Nat)} {x : Nat × Nat} {acc : FL} {S0 S : Store} {v6 v7 v8 : Option Val}
    (hX : Fr l0 S0 S) (hl : S0.length ≤ l1) (a1 : S[l1]? = some (.nd (dG lay fD acc))) (hx : Lp e.1.length x) (hlen : e.1.length ≤ 6) (hb : Bn b e.1) (hbb : b ≤ 400) (hr : e.2.1.length ≤ 50) (hs : acc.length < sizeLine) :
    (evSs none (callN PP none (k + 2)) ah2_body [some (.ref l0), some (.ref l1), some (Val.dat (lay e.1)), some (Val.dat (lp x)), some (Val.dat (row e.2.1)), some (Val.dat (.int (e.2.2 : Int))), v6, v7, v8] S).sat fun r S' => (∃ v6 v7 v8, r = .nx [some (.ref l0), some (.ref l1), some (Val.dat (lay e.1)), some (Val.dat (lp x)), some (Val.dat (row e.2.1)), some (Val.dat (.int (e.2.2 : Int))), v6, v7, v8]) ∧ Fr l0 S0 S' ∧ S'[l1]? = some (.nd (dG lay fD (addW exA e acc x))) := by
  have z1 : (1 : Nat) ≤ sizeLine := by rw [sizeLine_eq]; omega
  have z2 : (2 : Nat) ≤ sizeLine := by rw [sizeLine_eq]; omega
  have zr : e.2.1.length + 1 ≤ sizeLine := by rw [sizeLine_eq]; omega
  have sb := fun S => s_leapt (k := k) (W := none) (S := S) hx (by omega) hb (by omega)
  have d1 := dGt a1
  have nk := nk_lay (leap e.1 x)
  have v1 := val_dG (f := fD) nk_lay kl_inj acc (leap e.1 x)
  have h1 := (List.getElem?_eq_some_iff.mp a1).1
  simp only [ah2_body, ah1_body, b_12, forBody]
  refine sat_seq ?_
  simp_arith only [sb]
  refine sat_seq ?_
  have ra : PyData.tuple (e.2.1.map lp ++ [lp x]) = row (exA e.2.1 x) := by
    unfold row exA
    rw [List.map_append]
    rfl
  have gd : (Option.map fD (lkG acc (leap e.1 x))).getD (.tuple [row (exA e.2.1 x), .int 0]) = fD ((lkG acc (leap e.1 x)).getD (exA e.2.1 x, 0)) := by
    cases lkG acc (leap e.1 x) <;> rfl
  have rx : row e.2.1 = .tuple (e.2.1.map lp) := rfl
  simp_arith only [d1, nk, v1, rx, z1, z2, zr, List.length_map, ra, gd, fD]
  refine sat_seq ?_
  have mm := mn2_row ((lkG acc (leap e.1 x)).getD (exA e.2.1 x, 0)).1 (exA e.2.1 x)
  have pt := put_dG (f := fD) nk_lay kl_inj acc (leap e.1 x) (mnW ((lkG acc (leap e.1 x)).getD (exA e.2.1 x, 0)).1 (exA e.2.1 x), ((lkG acc (leap e.1 x)).getD (exA e.2.1 x, 0)).2 + e.2.2)
  have fd : PyData.tuple [row (mnW ((lkG acc (leap e.1 x)).getD (exA e.2.1 x, 0)).1 (exA e.2.1 x)), .int ((((lkG acc (leap e.1 x)).getD (exA e.2.1 x, 0)).2 : Int) + (e.2.2 : Int))] = fD (mnW ((lkG acc (leap e.1 x)).getD (exA e.2.1 x, 0)).1 (exA e.2.1 x), ((lkG acc (leap e.1 x)).getD (exA e.2.1 x, 0)).2 + e.2.2) := by
    unfold fD
    rw [Int.natCast_add]
  simp_arith only [d1, nk, a1, z1, z2, zr, List.length_map, ra, mm, dG_len, hs, fd, pt]
  exact sat_nil ⟨⟨_, _, _, rfl⟩, hX.set_new hl, by rw [List.getElem?_set_self h1]; rfl⟩
theorem addW_len {ex : List (Nat × Nat) → Nat × Nat → List (Nat × Nat)} {e : List (Int × Int) × (List (Nat × Nat) × Nat)} {acc : FL} {x : Nat × Nat} : (addW ex e acc x).length ≤ acc.length + 1 := ptG_len _ _ _
theorem addWs_len {ex : List (Nat × Nat) → Nat × Nat → List (Nat × Nat)} {e : List (Int × Int) × (List (Nat × Nat) × Nat)} : ∀ {xs : List (Nat × Nat)} {acc : FL}, (xs.foldl (addW ex e) acc).length ≤ acc.length + xs.length
  | [], acc => Nat.le_refl _
  | x :: xs, acc => by
    rw [List.foldl_cons, List.length_cons]
    have h1 := addWs_len (ex := ex) (e := e) (xs := xs) (acc := addW ex e acc x)
    have h2 := addW_len (ex := ex) (e := e) (acc := acc) (x := x)
    omega
theorem stepW_len {ex : List (Nat × Nat) → Nat × Nat → List (Nat × Nat)} {len : Nat} (hl : len ≤ 6) : ∀ {L : FL} {acc : FL}, (∀ e, e ∈ L → e.1.length = len) → (L.foldl (fun acc e => (leapsOf e.1.length).foldl (addW ex e) acc) acc).length ≤ acc.length + 30 * L.length
  | [], acc, _ => Nat.le_refl _
  | e :: L, acc, h => by
    rw [List.foldl_cons, List.length_cons]
    have h1 := stepW_len (ex := ex) hl (L := L) (acc := (leapsOf e.1.length).foldl (addW ex e) acc) fun x hx => h x (List.mem_cons_of_mem _ hx)
    have h2 := addWs_len (ex := ex) (e := e) (xs := leapsOf e.1.length) (acc := acc)
    have h3 := leapsOf_len (n := e.1.length) (by rw [h e (List.mem_cons_self ..)]; exact hl)
    omega
theorem ah1_ok {k b l0 l1 : Nat} {e : List (Int × Int) × (List (Nat × Nat) × Nat)} {acc : FL} {S0 S : Store} {v3 v6 v7 v8 : Option Val}
    (hX : Fr l0 S0 S) (hl : S0.length ≤ l1) (a1 : S[l1]? = some (.nd (dG lay fD acc))) (hlen : e.1.length ≤ 6) (hb : Bn b e.1) (hbb : b ≤ 400) (hr : e.2.1.length ≤ 50) (hs : acc.length + 30 < sizeLine) :
    (evSs none (callN PP none (k + 2)) ah1_body [some (.ref l0), some (.ref l1), some (Val.dat (lay e.1)), v3, some (Val.dat (row e.2.1)), some (Val.dat (.int (e.2.2 : Int))), v6, v7, v8] S).sat fun r S' => (∃ v3 v6 v7 v8, r = .nx [some (.ref l0), some (.ref l1), some (Val.dat (lay e.1)), v3, some (Val.dat (row e.2.1)), some (Val.dat (.int (e.2.2 : Int))), v6, v7, v8]) ∧ Fr l0 S0 S' ∧ S'[l1]? = some (.nd (dG lay fD ((leapsOf e.1.length).foldl (addW exA e) acc))) := by
  have key := fun acc x S v6 v7 v8 => @ah2_ok k b l0 l1 e.1.length e x acc S0 S v6 v7 v8
  simp only [ah2_body, ah1_body, b_12, forBody] at key
  have lo := s_leaps_of (k := k + 1) (W := none) (S := S) hlen
  have ll := leapsOf_len hlen
  simp only [ah1_body, b_12, forBody]
  refine sat_seq ?_
  refine sat_for (xs := (leapsOf e.1.length).map lp) (S1 := S) (by simp_arith only [lo]) ?_
  refine for_inv (fun i s S' => (∃ v3 v6 v7 v8, s = [some (.ref l0), some (.ref l1), some (Val.dat (lay e.1)), v3, some (Val.dat (row e.2.1)), some (Val.dat (.int (e.2.2 : Int))), v6, v7, v8]) ∧ Fr l0 S0 S' ∧ S'[l1]? = some (.nd (dG lay fD (((leapsOf e.1.length).take i).foldl (addW exA e) acc)))) _ ⟨⟨_, _, _, _, rfl⟩, hX, a1⟩ ?_ ?_
  · rintro i y s S' eq ⟨⟨v3, v6, v7, v8, rfl⟩, X', a'⟩
    rw [List.getElem?_map] at eq
    cases hq : (leapsOf e.1.length)[i]? with
    | none => rw [hq] at eq; cases eq
    | some x =>
      rw [hq] at eq
      cases eq
      obtain ⟨hi, hy⟩ := List.getElem?_eq_some_iff.mp hq
      have len := addWs_len (ex := exA) (e := e) (xs := (leapsOf e.1.length).take i) (acc := acc)
      rw [List.length_take] at len
      simp_arith only [stepF, bind_nm]
      refine sat_mono (key _ x S' _ _ _ X' hl a' (leapsOf_mem (List.mem_of_getElem? hq)) hlen hb hbb hr (by omega)) ?_
      rintro r S2 ⟨⟨w6, w7, w8, rfl⟩, X2, a2⟩
      refine ⟨_, rfl, ⟨_, _, _, _, rfl⟩, X2, ?_⟩
      rw [a2, List.take_add_one, hq, List.foldl_append]
      rfl
  · rintro s S' ⟨⟨v3, v6, v7, v8, rfl⟩, X', a'⟩
    rw [List.length_map, List.take_length] at a'
    exact sat_nil ⟨⟨_, _, _, _, rfl⟩, X', a'⟩
theorem call_refG {P : List (Option FD)} {W : Option Nat} {k f : Nat} {vs : List Val} {S : Store} {d : FD} {Q : Nat → Store → Prop} (h : P[f]? = some (some d)) (hl : vs.length = d.n)
    (b : (evSs W (callN P W k) d.body (vs.map some ++ List.replicate (d.m - d.n) none) S).sat fun r S' => ∃ l, retOf r = .ref l ∧ S.length ≤ l ∧ Q l S') : (callN P W (k + 1) f vs S).sat fun v S' => ∃ l, v = .ref l ∧ S.length ≤ l ∧ Q l S' := by
  rw [callN_at h hl]
  obtain ⟨r, S1, e, l, e1, e2, e3⟩ := sat_ex b
  rw [e]
  have fd : finD (.ok r S1) S.length = leave S.length (retOf r) S1 := by cases r <;> rfl
  rw [fd, e1]
  unfold leave
  split
  · exact .ok ⟨l, rfl, e2, e3⟩
  · rw [if_neg (by
      rintro ⟨h1, h2⟩
      simp only [below, decide_eq_true_eq] at h1
      omega)]
    exact .ok ⟨l, rfl, e2, e3⟩
theorem s_ahead {k b kk l0 len : Nat} {L : FL} {S : Store} (d0 : dictAt S (some (some (.ref l0))) = some (l0, dG lay fD L)) (hlen : len ≤ 6) (hbb : b + 2 * kk ≤ 400) (hk : kk ≤ 50) (ok : LyOk len b kk L) (hs : 30 * L.length + 30 < sizeLine) :
    (callN PP none (k + 3) 12 [.ref l0] S).sat fun v S' => ∃ l1, v = .ref l1 ∧ S.length ≤ l1 ∧ (S'[l1]? = some (.nd (dG lay fD (stepW exA L))) ∧ Fr l0 S S') := by
  have key := fun acc e S' v3 v6 v7 v8 => @ah1_ok k (b + 2 * kk) l0 S.length e acc S S' v3 v6 v7 v8
  simp only [ah1_body, b_12, forBody] at key
  have h0 := dG_lt d0
  refine call_refG P_12 rfl ?_
  simp_arith only [d_12, b_12]
  refine sat_seq ?_
  simp_arith only [id_eq]
  have E1 : dictAt (S ++ [Ob.nd []]) (some (some (.ref l0))) = some (l0, dG lay fD L) := by
    have d6 := d0
    simp only [dictAt, List.getElem?_append_left h0] at d6 ⊢
    exact d6
  refine sat_seq ?_
  refine sat_for (xs := L.map fun e => .tuple [lay e.1, fD e.2]) (S1 := (S ++ [Ob.nd []]).set l0 (.ndl (dG lay fD L))) (by
    simp_arith only [E1]
    unfold dG
    rw [List.map_map]
    rfl) ?_
  have F0 : Fr l0 S ((S ++ [Ob.nd []]).set l0 (.ndl (dG lay fD L))) := ⟨by rw [List.length_set]; simp, fun m hm ne => by rw [List.getElem?_set_ne (fun z => ne z.symm)]; exact List.getElem?_append_left hm⟩
  have A0 : ((S ++ [Ob.nd []]).set l0 (.ndl (dG lay fD L)))[S.length]? = some (.nd (dG lay fD [])) := by
    rw [List.getElem?_set_ne (by omega)]
    exact ap_at
  refine for_inv (fun j s S' => (∃ v2 v3 v4 v5 v6 v7 v8, s = [some (.ref l0), some (.ref S.length), v2, v3, v4, v5, v6, v7, v8]) ∧ Fr l0 S S' ∧ S'[S.length]? = some (.nd (dG lay fD (stepW exA (L.take j))))) _ ⟨⟨_, _, _, _, _, _, _, rfl⟩, F0, A0⟩ ?_ ?_
  · rintro j x s S' eq ⟨⟨v2, v3, v4, v5, v6, v7, v8, rfl⟩, X', a'⟩
    rw [List.getElem?_map] at eq
    cases hq : L[j]? with
    | none => rw [hq] at eq; cases eq
    | some e =>
      rw [hq] at eq
      cases eq
      obtain ⟨hj, hy⟩ := List.getElem?_eq_some_iff.mp hq
      obtain ⟨o1, o2, o3, o4, o5⟩ := ok e (List.mem_of_getElem? hq)
      have sl := stepW_len (ex := exA) hlen (L := L.take j) (acc := []) fun x hx => (ok x (List.mem_of_mem_take hx)).1
      have sl' : (stepW exA (L.take j)).length ≤ 30 * L.length := by
        unfold stepW
        rw [List.length_nil, List.length_take] at sl
        omega
      have pt : bindPt (.tp [.nm 2, .tp [.nm 4, .nm 5]]) (Val.dat (.tuple [lay e.1, fD e.2])) [some (.ref l0), some (.ref S.length), v2, v3, v4, v5, v6, v7, v8] = some [some (.ref l0), some (.ref S.length), some (Val.dat (lay e.1)), v3, some (Val.dat (row e.2.1)), some (Val.dat (.int (e.2.2 : Int))), v6, v7, v8] := rfl
      simp only [stepF, pt]
      refine sat_mono (key _ e S' _ _ _ _ X' (Nat.le_refl _) a' (by omega) o2 hbb (by omega) (by omega)) ?_
      rintro r S2 ⟨⟨w3, w6, w7, w8, rfl⟩, X2, a2⟩
      refine ⟨_, rfl, ⟨_, _, _, _, _, _, _, rfl⟩, X2, ?_⟩
      rw [a2]
      unfold stepW
      rw [List.take_add_one, hq, List.foldl_append]
      rfl
  · rintro s S' ⟨⟨v2, v3, v4, v5, v6, v7, v8, rfl⟩, X', a'⟩
    rw [List.length_map, List.take_length] at a'
    refine sat_seq ?_
    simp_arith only [id_eq]
    exact ⟨_, rfl, Nat.le_refl _, a', X'⟩

noncomputable def bk1_body : List IS := forBody b_13 1
noncomputable def bk2_body : List IS := forBody bk1_body 0
theorem bk2_ok {k b l0 l1 len : Nat} {e : List (Int × Int) × (List (Nat × Nat) × Nat)} {x : Nat × Nat} {acc : FL} {S0 S : Store} {v6 v7 v8 : Option Val}
    (hX : Fr l0 S0 S) (hl : S0.length ≤ l1) (a1 : S[l1]? = some (.nd (dG lay fD acc))) (hx : Lp e.1.length x) (hlen : e.1.length ≤ 6) (hb : Bn b e.1) (hbb : b ≤ 400) (hr : e.2.1.length ≤ 50) (hs : acc.length < sizeLine) :
    (evSs none (callN PP none (k + 2)) bk2_body [some (.ref l0), some (.ref l1), some (Val.dat (lay e.1)), some (Val.dat (lp x)), some (Val.dat (row e.2.1)), some (Val.dat (.int (e.2.2 : Int))), v6, v7, v8] S).sat fun r S' => (∃ v6 v7 v8, r = .nx [some (.ref l0), some (.ref l1), some (Val.dat (lay e.1)), some (Val.dat (lp x)), some (Val.dat (row e.2.1)), some (Val.dat (.int (e.2.2 : Int))), v6, v7, v8]) ∧ Fr l0 S0 S' ∧ S'[l1]? = some (.nd (dG lay fD (addW exB e acc x))) := by
  have z1 : (1 : Nat) ≤ sizeLine := by rw [sizeLine_eq]; omega
  have z2 : (2 : Nat) ≤ sizeLine := by rw [sizeLine_eq]; omega
  have zr : 1 + e.2.1.length ≤ sizeLine := by rw [sizeLine_eq]; omega
  have sb := fun S => s_leapt (k := k) (W := none) (S := S) hx (by omega) hb (by omega)
  have d1 := dGt a1
  have nk := nk_lay (leap e.1 x)
  have v1 := val_dG (f := fD) nk_lay kl_inj acc (leap e.1 x)
  have h1 := (List.getElem?_eq_some_iff.mp a1).1
  simp only [bk2_body, bk1_body, b_13, forBody]
  refine sat_seq ?_
  simp_arith only [sb]
  refine sat_seq ?_
  have ra : PyData.tuple (lp x :: e.2.1.map lp) = row (exB e.2.1 x) := by
    unfold row exB
    rfl
  have gd : (Option.map fD (lkG acc (leap e.1 x))).getD (.tuple [row (exB e.2.1 x), .int 0]) = fD ((lkG acc (leap e.1 x)).getD (exB e.2.1 x, 0)) := by
    cases lkG acc (leap e.1 x) <;> rfl
  have rx : row e.2.1 = .tuple (e.2.1.map lp) := rfl
  simp_arith only [d1, nk, v1, rx, z1, z2, zr, List.length_map, ra, gd, fD]
  refine sat_seq ?_
  have mm := mn2_row ((lkG acc (leap e.1 x)).getD (exB e.2.1 x, 0)).1 (exB e.2.1 x)
  have pt := put_dG (f := fD) nk_lay kl_inj acc (leap e.1 x) (mnW ((lkG acc (leap e.1 x)).getD (exB e.2.1 x, 0)).1 (exB e.2.1 x), ((lkG acc (leap e.1 x)).getD (exB e.2.1 x, 0)).2 + e.2.2)
  have fd : PyData.tuple [row (mnW ((lkG acc (leap e.1 x)).getD (exB e.2.1 x, 0)).1 (exB e.2.1 x)), .int ((((lkG acc (leap e.1 x)).getD (exB e.2.1 x, 0)).2 : Int) + (e.2.2 : Int))] = fD (mnW ((lkG acc (leap e.1 x)).getD (exB e.2.1 x, 0)).1 (exB e.2.1 x), ((lkG acc (leap e.1 x)).getD (exB e.2.1 x, 0)).2 + e.2.2) := by
    unfold fD
    rw [Int.natCast_add]
  simp_arith only [d1, nk, a1, z1, z2, zr, List.length_map, ra, mm, dG_len, hs, fd, pt]
  exact sat_nil ⟨⟨_, _, _, rfl⟩, hX.set_new hl, by rw [List.getElem?_set_self h1]; rfl⟩
theorem bk1_ok {k b l0 l1 : Nat} {e : List (Int × Int) × (List (Nat × Nat) × Nat)} {acc : FL} {S0 S : Store} {v3 v6 v7 v8 : Option Val}
    (hX : Fr l0 S0 S) (hl : S0.length ≤ l1) (a1 : S[l1]? = some (.nd (dG lay fD acc))) (hlen : e.1.length ≤ 6) (hb : Bn b e.1) (hbb : b ≤ 400) (hr : e.2.1.length ≤ 50) (hs : acc.length + 30 < sizeLine) :
    (evSs none (callN PP none (k + 2)) bk1_body [some (.ref l0), some (.ref l1), some (Val.dat (lay e.1)), v3, some (Val.dat (row e.2.1)), some (Val.dat (.int (e.2.2 : Int))), v6, v7, v8] S).sat fun r S' => (∃ v3 v6 v7 v8, r = .nx [some (.ref l0), some (.ref l1), some (Val.dat (lay e.1)), v3, some (Val.dat (row e.2.1)), some (Val.dat (.int (e.2.2 : Int))), v6, v7, v8]) ∧ Fr l0 S0 S' ∧ S'[l1]? = some (.nd (dG lay fD ((leapsOf e.1.length).foldl (addW exB e) acc))) := by
  have key := fun acc x S v6 v7 v8 => @bk2_ok k b l0 l1 e.1.length e x acc S0 S v6 v7 v8
  simp only [bk2_body, bk1_body, b_13, forBody] at key
  have lo := s_leaps_of (k := k + 1) (W := none) (S := S) hlen
  have ll := leapsOf_len hlen
  simp only [bk1_body, b_13, forBody]
  refine sat_seq ?_
  refine sat_for (xs := (leapsOf e.1.length).map lp) (S1 := S) (by simp_arith only [lo]) ?_
  refine for_inv (fun i s S' => (∃ v3 v6 v7 v8, s = [some (.ref l0), some (.ref l1), some (Val.dat (lay e.1)), v3, some (Val.dat (row e.2.1)), some (Val.dat (.int (e.2.2 : Int))), v6, v7, v8]) ∧ Fr l0 S0 S' ∧ S'[l1]? = some (.nd (dG lay fD (((leapsOf e.1.length).take i).foldl (addW exB e) acc)))) _ ⟨⟨_, _, _, _, rfl⟩, hX, a1⟩ ?_ ?_
  · rintro i y s S' eq ⟨⟨v3, v6, v7, v8, rfl⟩, X', a'⟩
    rw [List.getElem?_map] at eq
    cases hq : (leapsOf e.1.length)[i]? with
    | none => rw [hq] at eq; cases eq
    | some x =>
      rw [hq] at eq
      cases eq
      obtain ⟨hi, hy⟩ := List.getElem?_eq_some_iff.mp hq
      have len := addWs_len (ex := exB) (e := e) (xs := (leapsOf e.1.length).take i) (acc := acc)
      rw [List.length_take] at len
      simp_arith only [stepF, bind_nm]
      refine sat_mono (key _ x S' _ _ _ X' hl a' (leapsOf_mem (List.mem_of_getElem? hq)) hlen hb hbb hr (by omega)) ?_
      rintro r S2 ⟨⟨w6, w7, w8, rfl⟩, X2, a2⟩
      refine ⟨_, rfl, ⟨_, _, _, _, rfl⟩, X2, ?_⟩
      rw [a2, List.take_add_one, hq, List.foldl_append]
      rfl
  · rintro s S' ⟨⟨v3, v6, v7, v8, rfl⟩, X', a'⟩
    rw [List.length_map, List.take_length] at a'
    exact sat_nil ⟨⟨_, _, _, _, rfl⟩, X', a'⟩
theorem s_back {k b kk l0 len : Nat} {L : FL} {S : Store} (d0 : dictAt S (some (some (.ref l0))) = some (l0, dG lay fD L)) (hlen : len ≤ 6) (hbb : b + 2 * kk ≤ 400) (hk : kk ≤ 50) (ok : LyOk len b kk L) (hs : 30 * L.length + 30 < sizeLine) :
    (callN PP none (k + 3) 13 [.ref l0] S).sat fun v S' => ∃ l1, v = .ref l1 ∧ S.length ≤ l1 ∧ (S'[l1]? = some (.nd (dG lay fD (stepW exB L))) ∧ Fr l0 S S') := by
  have key := fun acc e S' v3 v6 v7 v8 => @bk1_ok k (b + 2 * kk) l0 S.length e acc S S' v3 v6 v7 v8
  simp only [bk1_body, b_13, forBody] at key
  have h0 := dG_lt d0
  refine call_refG P_13 rfl ?_
  simp_arith only [d_13, b_13]
  refine sat_seq ?_
  simp_arith only [id_eq]
  have E1 : dictAt (S ++ [Ob.nd []]) (some (some (.ref l0))) = some (l0, dG lay fD L) := by
    have d6 := d0
    simp only [dictAt, List.getElem?_append_left h0] at d6 ⊢
    exact d6
  refine sat_seq ?_
  refine sat_for (xs := L.map fun e => .tuple [lay e.1, fD e.2]) (S1 := (S ++ [Ob.nd []]).set l0 (.ndl (dG lay fD L))) (by
    simp_arith only [E1]
    unfold dG
    rw [List.map_map]
    rfl) ?_
  have F0 : Fr l0 S ((S ++ [Ob.nd []]).set l0 (.ndl (dG lay fD L))) := ⟨by rw [List.length_set]; simp, fun m hm ne => by rw [List.getElem?_set_ne (fun z => ne z.symm)]; exact List.getElem?_append_left hm⟩
  have A0 : ((S ++ [Ob.nd []]).set l0 (.ndl (dG lay fD L)))[S.length]? = some (.nd (dG lay fD [])) := by
    rw [List.getElem?_set_ne (by omega)]
    exact ap_at
  refine for_inv (fun j s S' => (∃ v2 v3 v4 v5 v6 v7 v8, s = [some (.ref l0), some (.ref S.length), v2, v3, v4, v5, v6, v7, v8]) ∧ Fr l0 S S' ∧ S'[S.length]? = some (.nd (dG lay fD (stepW exB (L.take j))))) _ ⟨⟨_, _, _, _, _, _, _, rfl⟩, F0, A0⟩ ?_ ?_
  · rintro j x s S' eq ⟨⟨v2, v3, v4, v5, v6, v7, v8, rfl⟩, X', a'⟩
    rw [List.getElem?_map] at eq
    cases hq : L[j]? with
    | none => rw [hq] at eq; cases eq
    | some e =>
      rw [hq] at eq
      cases eq
      obtain ⟨hj, hy⟩ := List.getElem?_eq_some_iff.mp hq
      obtain ⟨o1, o2, o3, o4, o5⟩ := ok e (List.mem_of_getElem? hq)
      have sl := stepW_len (ex := exB) hlen (L := L.take j) (acc := []) fun x hx => (ok x (List.mem_of_mem_take hx)).1
      have sl' : (stepW exB (L.take j)).length ≤ 30 * L.length := by
        unfold stepW
        rw [List.length_nil, List.length_take] at sl
        omega
      have pt : bindPt (.tp [.nm 2, .tp [.nm 4, .nm 5]]) (Val.dat (.tuple [lay e.1, fD e.2])) [some (.ref l0), some (.ref S.length), v2, v3, v4, v5, v6, v7, v8] = some [some (.ref l0), some (.ref S.length), some (Val.dat (lay e.1)), v3, some (Val.dat (row e.2.1)), some (Val.dat (.int (e.2.2 : Int))), v6, v7, v8] := rfl
      simp only [stepF, pt]
      refine sat_mono (key _ e S' _ _ _ _ X' (Nat.le_refl _) a' (by omega) o2 hbb (by omega) (by omega)) ?_
      rintro r S2 ⟨⟨w3, w6, w7, w8, rfl⟩, X2, a2⟩
      refine ⟨_, rfl, ⟨_, _, _, _, _, _, _, rfl⟩, X2, ?_⟩
      rw [a2]
      unfold stepW
      rw [List.take_add_one, hq, List.foldl_append]
      rfl
  · rintro s S' ⟨⟨v2, v3, v4, v5, v6, v7, v8, rfl⟩, X', a'⟩
    rw [List.length_map, List.take_length] at a'
    refine sat_seq ?_
    simp_arith only [id_eq]
    exact ⟨_, rfl, Nat.le_refl _, a', X'⟩

noncomputable def fewPV (o : Option (List (Nat × Nat)) × Int) : PyData := .tuple [(o.1.map row).getD .none, .int o.2]
structure En (S0 S : Store) (l5 l6 : Nat) (p : FL × FL) : Prop where
  ex : Ex S0 S
  d5 : dictAt S (some (some (.ref l5))) = some (l5, dG lay fD p.1)
  d6 : dictAt S (some (some (.ref l6))) = some (l6, dG lay fD p.2)
  n5 : S0.length ≤ l5
  n6 : S0.length ≤ l6
  ne : l5 ≠ l6
theorem dG_keep {S S' : Store} {l m : Nat} {kvs : List (PyData × PyData)} (h : dictAt S (some (some (.ref l))) = some (m, kvs)) (e : S'[l]? = S[l]?) : dictAt S' (some (some (.ref l))) = some (m, kvs) := by
  unfold dictAt at h ⊢
  simp only [e] at h ⊢
  exact h
theorem Ex.fr2 {l : Nat} {S0 S S' : Store} (x : Ex S0 S) (f : Fr l S S') (h : S0.length ≤ l) : Ex S0 S' :=
  ⟨Nat.le_trans x.len f.len, fun m hm => (f.at_ m (Nat.lt_of_lt_of_le hm x.len) (by omega)).trans (x.at_ m hm)⟩
/-- the bounds of a layer behind so many laps -/
theorem addW_ok {ex : List (Nat × Nat) → Nat × Nat → List (Nat × Nat)} {len b k B w : Nat} {e : List (Int × Int) × (List (Nat × Nat) × Nat)} (hex : ∀ r x, (ex r x).length = r.length + 1 ∧ ∀ y, y ∈ ex r x → y ∈ r ∨ y = x)
    (he : e.1.length = len ∧ Bn (b + 2 * k) e.1 ∧ e.2.1.length = k ∧ (∀ x, x ∈ e.2.1 → Lp len x) ∧ e.2.2 ≤ w) {x : Nat × Nat} (hx : Lp len x) {acc : FL}
    (h : ∀ y, y ∈ acc → y.1.length = len ∧ Bn (b + 2 * (k + 1)) y.1 ∧ y.2.1.length = k + 1 ∧ (∀ x, x ∈ y.2.1 → Lp len x) ∧ y.2.2 ≤ B) :
    ∀ y, y ∈ addW ex e acc x → y.1.length = len ∧ Bn (b + 2 * (k + 1)) y.1 ∧ y.2.1.length = k + 1 ∧ (∀ x, x ∈ y.2.1 → Lp len x) ∧ y.2.2 ≤ B + w := by
  obtain ⟨o1, o2, o3, o4, o5⟩ := he
  have new : (ex e.2.1 x).length = k + 1 ∧ ∀ y, y ∈ ex e.2.1 x → Lp len y := by
    obtain ⟨h1, h2⟩ := hex e.2.1 x
    refine ⟨by rw [h1, o3], fun y hy => ?_⟩
    rcases h2 y hy with q | q
    · exact o4 y q
    · rw [q]; exact hx
  refine ptG_all (fun y hy => ?_) ⟨by rw [leap_len]; exact o1, ?_, ?_, ?_, ?_⟩
  · obtain ⟨a, b, c, d, f⟩ := h y hy
    exact ⟨a, b, c, d, Nat.le_trans f (Nat.le_add_right _ _)⟩
  · have := leap_bd o2 (by rw [o1]; exact hx)
    have e : b + 2 * (k + 1) = b + 2 * k + 2 := by omega
    rw [e]
    exact this
  · show (mnW _ _).length = k + 1
    have : ∀ z, (mnW z (ex e.2.1 x)) = z ∨ mnW z (ex e.2.1 x) = ex e.2.1 x := fun z => by unfold mnW; split; exact .inr rfl; exact .inl rfl
    cases q : lkG acc (leap e.1 x) with
    | none =>
      rcases this (Option.getD (none : Option (List (Nat × Nat) × Nat)) (ex e.2.1 x, 0)).1 with z | z <;> rw [z] <;> exact new.1
    | some g =>
      rcases this (Option.getD (some g) (ex e.2.1 x, 0)).1 with z | z
      · rw [z]; exact (h _ (lkG_mem q)).2.2.1
      · rw [z]; exact new.1
  · show ∀ y, y ∈ mnW _ _ → Lp len y
    have : ∀ z, (mnW z (ex e.2.1 x)) = z ∨ mnW z (ex e.2.1 x) = ex e.2.1 x := fun z => by unfold mnW; split; exact .inr rfl; exact .inl rfl
    cases q : lkG acc (leap e.1 x) with
    | none =>
      rcases this (Option.getD (none : Option (List (Nat × Nat) × Nat)) (ex e.2.1 x, 0)).1 with z | z <;> rw [z] <;> exact new.2
    | some g =>
      rcases this (Option.getD (some g) (ex e.2.1 x, 0)).1 with z | z
      · rw [z]; exact (h _ (lkG_mem q)).2.2.2.1
      · rw [z]; exact new.2
  · show (Option.getD (lkG acc (leap e.1 x)) (ex e.2.1 x, 0)).2 + e.2.2 ≤ B + w
    cases q : lkG acc (leap e.1 x) with
    | none => simp only [Option.getD_none]; omega
    | some g =>
      have := (h _ (lkG_mem q)).2.2.2.2
      simp only [Option.getD_some]
      have : g.2 ≤ B := this
      omega
theorem stepW_ok {ex : List (Nat × Nat) → Nat × Nat → List (Nat × Nat)} {len b k : Nat} (hex : ∀ r x, (ex r x).length = r.length + 1 ∧ ∀ y, y ∈ ex r x → y ∈ r ∨ y = x) (hl : len ≤ 6) (hk : k ≤ 1) {L : FL} (ok : LyOk len b k L) (hz : L.length ≤ 30 ^ k) : LyOk len b (k + 1) (stepW ex L) := by
  have in1 : ∀ (e : List (Int × Int) × (List (Nat × Nat) × Nat)), e.1.length = len ∧ Bn (b + 2 * k) e.1 ∧ e.2.1.length = k ∧ (∀ x, x ∈ e.2.1 → Lp len x) ∧ e.2.2 ≤ 900 ^ k → ∀ (xs : List (Nat × Nat)), (∀ x, x ∈ xs → Lp len x) → ∀ (acc : FL) (B : Nat), (∀ y, y ∈ acc → y.1.length = len ∧ Bn (b + 2 * (k + 1)) y.1 ∧ y.2.1.length = k + 1 ∧ (∀ x, x ∈ y.2.1 → Lp len x) ∧ y.2.2 ≤ B) →
      ∀ y, y ∈ xs.foldl (addW ex e) acc → y.1.length = len ∧ Bn (b + 2 * (k + 1)) y.1 ∧ y.2.1.length = k + 1 ∧ (∀ x, x ∈ y.2.1 → Lp len x) ∧ y.2.2 ≤ B + xs.length * 900 ^ k := by
    intro e he xs
    induction xs with
    | nil => intro _ acc B h y hy; obtain ⟨a, c, d, f, g⟩ := h y hy; exact ⟨a, c, d, f, by rw [List.length_nil, Nat.zero_mul]; omega⟩
    | cons x xs ih =>
      intro hx acc B h y hy
      rw [List.foldl_cons] at hy
      obtain ⟨a, c, d, f, g⟩ := ih (fun z hz => hx z (List.mem_cons_of_mem _ hz)) _ (B + 900 ^ k) (addW_ok hex he (hx x (List.mem_cons_self ..)) h) y hy
      refine ⟨a, c, d, f, ?_⟩
      rw [List.length_cons, Nat.succ_mul]
      omega
  have out : ∀ (L : FL), LyOk len b k L → ∀ (acc : FL) (B : Nat), (∀ y, y ∈ acc → y.1.length = len ∧ Bn (b + 2 * (k + 1)) y.1 ∧ y.2.1.length = k + 1 ∧ (∀ x, x ∈ y.2.1 → Lp len x) ∧ y.2.2 ≤ B) →
      ∀ y, y ∈ L.foldl (fun acc e => (leapsOf e.1.length).foldl (addW ex e) acc) acc → y.1.length = len ∧ Bn (b + 2 * (k + 1)) y.1 ∧ y.2.1.length = k + 1 ∧ (∀ x, x ∈ y.2.1 → Lp len x) ∧ y.2.2 ≤ B + L.length * (30 * 900 ^ k) := by
    intro L
    induction L with
    | nil => intro _ acc B h y hy; obtain ⟨a, c, d, f, g⟩ := h y hy; exact ⟨a, c, d, f, by rw [List.length_nil, Nat.zero_mul]; omega⟩
    | cons e L ih =>
      intro hL acc B h y hy
      rw [List.foldl_cons] at hy
      have he := hL e (List.mem_cons_self ..)
      have h1 := in1 e he (leapsOf e.1.length) (fun x hx => by have := leapsOf_mem hx; rw [he.1] at this; exact this) acc B h
      have ll := leapsOf_len (n := e.1.length) (by rw [he.1]; exact hl)
      have h2 : (leapsOf e.1.length).length * 900 ^ k ≤ 30 * 900 ^ k := Nat.mul_le_mul_right _ ll
      obtain ⟨a, c, d, f, g⟩ := ih (fun z hz => hL z (List.mem_cons_of_mem _ hz)) _ (B + 30 * 900 ^ k) (fun y hy => by
        obtain ⟨a, c, d, f, g⟩ := h1 y hy
        exact ⟨a, c, d, f, by omega⟩) y hy
      refine ⟨a, c, d, f, ?_⟩
      rw [List.length_cons, Nat.succ_mul]
      omega
  intro y hy
  obtain ⟨a, c, d, f, g⟩ := out L ok [] 0 (fun y hy => nomatch hy) y hy
  refine ⟨a, c, d, f, Nat.le_trans g ?_⟩
  have h1 : L.length * (30 * 900 ^ k) ≤ 30 ^ k * (30 * 900 ^ k) := Nat.mul_le_mul_right _ hz
  have : k = 0 ∨ k = 1 := by omega
  rcases this with rfl | rfl
  · simp at h1 ⊢; omega
  · simp at h1 ⊢; omega
theorem exA_ok : ∀ (r : List (Nat × Nat)) (x : Nat × Nat), (exA r x).length = r.length + 1 ∧ ∀ y, y ∈ exA r x → y ∈ r ∨ y = x := fun r x => ⟨by simp [exA], fun y hy => by
  unfold exA at hy
  rcases List.mem_append.mp hy with h | h
  · exact .inl h
  · exact .inr (List.mem_singleton.mp h)⟩
theorem exB_ok : ∀ (r : List (Nat × Nat)) (x : Nat × Nat), (exB r x).length = r.length + 1 ∧ ∀ y, y ∈ exB r x → y ∈ r ∨ y = x := fun r x => ⟨rfl, fun y hy => by
  rcases List.mem_cons.mp hy with h | h
  · exact .inr h
  · exact .inl h⟩

theorem lkG_has {L : FL} {x : List (Int × Int) × (List (Nat × Nat) × Nat)} (h : x ∈ L) : ∃ c, lkG L x.1 = some c := by
  cases q : lkG L x.1 with
  | some c => exact ⟨c, rfl⟩
  | none =>
    unfold lkG at q
    rw [Option.map_eq_none_iff, List.find?_eq_none] at q
    exact absurd (decide_eq_true rfl) (q x h)
theorem ends_ok {a c : List (Int × Int)} {len b : Nat} (ha : a.length = len ∧ Bn b a) (hc : c.length = len ∧ Bn b c) (hl : len ≤ 6) : ∀ {k : Nat}, k ≤ 4 →
    (LyOk len b ((k + 1) / 2) (endsW k ([(a, ([], 1))], [(c, ([], 1))])).1 ∧ (endsW k ([(a, ([], 1))], [(c, ([], 1))])).1.length ≤ 30 ^ ((k + 1) / 2)) ∧ LyOk len b (k / 2) (endsW k ([(a, ([], 1))], [(c, ([], 1))])).2 ∧ (endsW k ([(a, ([], 1))], [(c, ([], 1))])).2.length ≤ 30 ^ (k / 2)
  | 0, _ => by
    have one : ∀ l : List (Int × Int), l.length = len ∧ Bn b l → LyOk len b 0 [(l, ([], 1))] := fun l hl e he => by
      rw [List.mem_singleton.mp he]
      exact ⟨hl.1, hl.2, rfl, fun x hx => (nomatch hx), Nat.le_refl _⟩
    exact ⟨⟨one a ha, Nat.le_refl _⟩, one c hc, Nat.le_refl _⟩
  | k + 1, hk => by
    obtain ⟨⟨i1, i2⟩, i3, i4⟩ := ends_ok ha hc hl (k := k) (by omega)
    simp only [endsW]
    by_cases h : k % 2 = 0
    · rw [if_pos h]
      have e1 : (k + 1 + 1) / 2 = (k + 1) / 2 + 1 := by omega
      have e2 : (k + 1) / 2 = k / 2 := by omega
      rw [e1]
      refine ⟨⟨stepW_ok exA_ok hl (by omega) i1 i2, ?_⟩, by rw [e2]; exact i3, by rw [e2]; exact i4⟩
      have sl := stepW_len (ex := exA) hl (L := (endsW k ([(a, ([], 1))], [(c, ([], 1))])).1) (acc := []) fun x hx => (i1 x hx).1
      rw [List.length_nil] at sl
      rw [Nat.pow_succ]
      refine Nat.le_trans (show (stepW exA (endsW k ([(a, ([], 1))], [(c, ([], 1))])).1).length ≤ 30 * (endsW k ([(a, ([], 1))], [(c, ([], 1))])).1.length by unfold stepW; omega) (by omega)
    · rw [if_neg h]
      have e1 : (k + 1 + 1) / 2 = (k + 1) / 2 := by omega
      have e2 : (k + 1) / 2 = k / 2 + 1 := by omega
      rw [e1]
      refine ⟨⟨i1, i2⟩, ?_, ?_⟩
      · rw [e2]; exact stepW_ok exB_ok hl (by omega) i3 i4
      · have sl := stepW_len (ex := exB) hl (L := (endsW k ([(a, ([], 1))], [(c, ([], 1))])).2) (acc := []) fun x hx => (i3 x hx).1
        rw [List.length_nil] at sl
        rw [e2, Nat.pow_succ]
        have i4' : (endsW k ([(a, ([], 1))], [(c, ([], 1))])).2.length ≤ 30 ^ (k / 2) := i4
        exact Nat.le_trans (show (stepW exB (endsW k ([(a, ([], 1))], [(c, ([], 1))])).2).length ≤ 30 * (endsW k ([(a, ([], 1))], [(c, ([], 1))])).2.length by unfold stepW; omega) (by omega)
theorem s_between {k b len w : Nat} {a c : List (Int × Int)} {S : Store} (ha : a.length = len ∧ Bn b a) (hc : c.length = len ∧ Bn b c) (hl : len ≤ 6) (hb : b ≤ 380) (hw : w ≤ 4) :
    (callN PP none (k + 4) 14 [.dat (lay a), .dat (lay c), .dat (.int (w : Int))] S).sat fun v S' => v = Val.dat (fewPV (betwW a c w)) ∧ Ex S S' := by
  have z0 : (0 : Nat) ≤ sizeLine := Nat.zero_le _
  have z2 : (2 : Nat) ≤ sizeLine := by rw [sizeLine_eq]; omega
  have c2 : small (w : Int) = true := small_of (by omega) (by omega)
  have nk1 := nk_lay a
  have nk2 := nk_lay c
  have pow30 : ∀ j, j ≤ 2 → 30 ^ j ≤ 900 := fun j hj => Nat.le_trans (Nat.pow_le_pow_right (by decide) hj) (by decide)
  have pow900 : ∀ j, j ≤ 2 → 900 ^ j < 2 ^ 20 := fun j hj => Nat.lt_of_le_of_lt (Nat.pow_le_pow_right (by decide) hj) (by decide)
  refine call_ex (R := fun v => v = Val.dat (fewPV (betwW a c w))) P_14 rfl ?_
  simp_arith only [d_14, b_14]
  refine sat_seq ?_
  simp_arith only [z0, z2, nk1, nk2]
  refine sat_seq ?_
  refine sat_for (xs := intRange 0 (w : Int)) (S1 := _) (by simp_arith only [c2]; rfl) ?_
  have H0 : En S (S ++ [Ob.nd [(lay a, .tuple [.tuple [], .int 1])]] ++ [Ob.nd [(lay c, .tuple [.tuple [], .int 1])]]) S.length (S.length + 1) ([(a, ([], 1))], [(c, ([], 1))]) :=
    ⟨Ex.push.trans Ex.push, dGt (by rw [List.getElem?_append_left (by simp)]; exact ap_at), dGt (by
      have := ap_at (S := S ++ [Ob.nd [(lay a, .tuple [.tuple [], .int 1])]]) (o := Ob.nd [(lay c, .tuple [.tuple [], .int 1])])
      rw [List.length_append] at this
      exact this), Nat.le_refl _, by omega, by omega⟩
  refine for_inv (fun i s S' => ∃ (l5 l6 : Nat) (v3 v4 v7 v8 v9 : Option Val), s = [some (Val.dat (lay a)), some (Val.dat (lay c)), some (Val.dat (.int (w : Int))), v3, v4, some (.ref l5), some (.ref l6), v7, v8, v9] ∧ En S S' l5 l6 (endsW i ([(a, ([], 1))], [(c, ([], 1))]))) _ ⟨S.length, S.length + 1, _, _, _, _, _, by rw [List.length_append]; rfl, by simpa [endsW] using H0⟩ ?_ ?_
  · rintro i x s S' e ⟨l5, l6, v3, v4, v7, v8, v9, rfl, H⟩
    obtain ⟨rfl, hi⟩ := rg_at e
    have hi : i < w := by omega
    obtain ⟨⟨i1, i2⟩, i3, i4⟩ := ends_ok ha hc hl (k := i) (by omega)
    have q5 := dG_lt H.d5
    have q6 := dG_lt H.d6
    simp_arith only [stepF, bind_nm]
    refine sat_seq ?_
    by_cases h : i % 2 = 0
    · have hd : decide (((i % 2 : Nat) : Int) = 0) = true := decide_eq_true (by omega)
      simp_arith only [fm2, hd]
      refine sat_seq ?_
      simp_arith only [id_eq]
      refine sat_then (s_ahead (k := k) (b := b) (kk := (i + 1) / 2) (S := S') H.d5 hl (by omega) (by omega) i1 (by have := pow30 ((i + 1) / 2) (by omega); rw [sizeLine_eq]; omega)) ?_
      rintro v S2 ⟨l1, rfl, n1, a1, F2⟩
      simp_arith only [id_eq]
      refine sat_nil (sat_nil ⟨_, rfl, l1, l6, _, _, _, _, _, rfl, ?_⟩)
      simp only [endsW, if_pos h]
      exact ⟨H.ex.fr2 F2 H.n5, dGt a1, dG_keep H.d6 (F2.at_ l6 q6 fun z => H.ne z.symm), Nat.le_trans H.ex.len n1, H.n6, by omega⟩
    · have hd : decide (((i % 2 : Nat) : Int) = 0) = false := decide_eq_false (by omega)
      simp_arith only [fm2, hd]
      refine sat_seq ?_
      simp_arith only [id_eq]
      refine sat_then (s_back (k := k) (b := b) (kk := i / 2) (S := S') H.d6 hl (by omega) (by omega) i3 (by have := pow30 (i / 2) (by omega); rw [sizeLine_eq]; omega)) ?_
      rintro v S2 ⟨l1, rfl, n1, a1, F2⟩
      simp_arith only [id_eq]
      refine sat_nil (sat_nil ⟨_, rfl, l5, l1, _, _, _, _, _, rfl, ?_⟩)
      simp only [endsW, if_neg h]
      exact ⟨H.ex.fr2 F2 H.n6, dG_keep H.d5 (F2.at_ l5 q5 H.ne), dGt a1, H.n5, Nat.le_trans H.ex.len n1, by omega⟩
  · rintro s S' ⟨l5, l6, v3, v4, v7, v8, v9, rfl, H⟩
    rw [rg_len] at H
    have e0 : (w : Int).toNat = w := by omega
    rw [e0] at H
    obtain ⟨⟨i1, i2⟩, i3, i4⟩ := ends_ok ha hc hl (k := w) hw
    have unf : betwW a c w = match meetW (endsW w ([(a, ([], 1))], [(c, ([], 1))])) with
      | [] => (none, 0)
      | x :: r => (some (minW x.1 (r.map (·.1))), ((x :: r).map fun y => (y.2 : Int)).sum) := rfl
    rw [unf]
    generalize hp : endsW w ([(a, ([], 1))], [(c, ([], 1))]) = p at H i1 i2 i3 i4
    have p1 := pow30 ((w + 1) / 2) (by omega)
    have gz : p.1.length < sizeLine := by rw [sizeLine_eq]; omega
    have km : (dG lay fD p.1).map (fun x => x.1) = p.1.map fun e => lay e.1 := by
      unfold dG
      rw [List.map_map]
      rfl
    have d5 := H.d5
    have q5 := dG_lt H.d5
    refine sat_seq ?_
    simp_arith only [d5, km, List.length_map, gz]
    generalize hS2 : S'.set l5 (.ndl (dG lay fD p.1)) = S2
    have X2 : Ex S S2 := by rw [← hS2]; exact H.ex.fr2 Fr.set H.n5
    have b5 : dictAt S2 (some (some (.ref l5))) = some (l5, dG lay fD p.1) := by
      rw [← hS2]
      simp only [dictAt, List.getElem?_set_self q5]
    have b6 : dictAt S2 (some (some (.ref l6))) = some (l6, dG lay fD p.2) := by
      rw [← hS2]
      exact dG_keep H.d6 (List.getElem?_set_ne H.ne)
    rw [comp_filter (h := fun e : List (Int × Int) × (List (Nat × Nat) × Nat) => lay e.1) (c := fun x => (lkG p.2 x.1).isSome) (g := fun x => fD (((lkG p.1 x.1).getD x.2).1 ++ ((lkG p.2 x.1).getD ([], 0)).1, ((lkG p.1 x.1).getD x.2).2 * ((lkG p.2 x.1).getD ([], 0)).2))]
    · have mm : (p.1.filter fun x => (lkG p.2 x.1).isSome).map (fun x => fD (((lkG p.1 x.1).getD x.2).1 ++ ((lkG p.2 x.1).getD ([], 0)).1, ((lkG p.1 x.1).getD x.2).2 * ((lkG p.2 x.1).getD ([], 0)).2)) = (meetW p).map fD := by
        unfold meetW
        rw [List.map_map]
        rfl
      rw [mm]
      have ml : (meetW p).length ≤ 900 := by
        unfold meetW
        rw [List.length_map]
        exact Nat.le_trans (List.length_filter_le _ _) (by omega)
      have mr : ∀ y, y ∈ meetW p → y.1.length = (w + 1) / 2 + w / 2 := by
        intro y hy
        unfold meetW at hy
        obtain ⟨x, hx, rfl⟩ := List.mem_map.mp hy
        obtain ⟨hx1, hx2⟩ := List.mem_filter.mp hx
        obtain ⟨g, hg⟩ := lkG_has hx1
        obtain ⟨g2, hg2⟩ := Option.isSome_iff_exists.mp hx2
        have o1 := (i1 _ (lkG_mem hg)).2.2.1
        have o2 := (i3 _ (lkG_mem hg2)).2.2.1
        rw [hg, hg2]
        simp only [Option.getD_some, List.length_append]
        have o1 : g.1.length = (w + 1) / 2 := o1
        have o2 : g2.1.length = w / 2 := o2
        omega
      generalize hM : meetW p = M at ml mr
      have ez := eq_nil (h := fD) (fun y => by
        obtain ⟨h1, h2⟩ := canLay_pairs (h := lp) (fun x => ⟨rfl, by simp [lp, PyData.depth, PyData.depthAll]⟩) y.1
        have h3 : ∀ r : List (Nat × Nat), PyData.depthAll (r.map lp) ≤ 1 := by
          intro r
          induction r with
          | nil => exact Nat.zero_le _
          | cons x r ih =>
            rw [List.map_cons]
            simp only [PyData.depthAll, lp, PyData.depth]
            omega
        have h4 := h3 y.1
        refine ⟨by simp only [fD, row, PyData.canLay0, PyData.canLayAll0, h1, Bool.and_self], ?_⟩
        simp only [fD, row, PyData.depth, PyData.depthAll]
        omega) M
      have zM : M.length < sizeLine := by rw [sizeLine_eq]; omega
      simp_arith only [id_eq]
      refine sat_seq ?_
      by_cases hM0 : M = []
      · rw [decide_eq_true hM0] at ez
        simp_arith only [z0, ez]
        refine sat_seq ?_
        simp_arith only [z2]
        refine ⟨?_, X2⟩
        rw [hM0]
        rfl
      · rw [decide_eq_false hM0] at ez
        obtain ⟨x, r, hxr⟩ : ∃ x r, M = x :: r := by
          cases M with
          | nil => exact absurd rfl hM0
          | cons x r => exact ⟨x, r, rfl⟩
        have bfm : bfP .min [.list (M.map fun y => row y.1)] = some (row (minW x.1 (r.map (·.1)))) := by
          rw [hxr]
          have := bf_min_row (k := (w + 1) / 2 + w / 2) (x := x.1) (r := r.map (·.1)) (by
            intro y hy
            rcases List.mem_cons.mp hy with rfl | hy
            · exact mr x (by rw [hxr]; exact List.mem_cons_self ..)
            · obtain ⟨z, hz, rfl⟩ := List.mem_map.mp hy
              exact mr z (by rw [hxr]; exact List.mem_cons_of_mem _ hz))
          rw [List.map_cons, List.map_map] at this
          rw [List.map_cons]
          exact this
        have bfs : intsOf (M.map fun y => PyData.int (y.2 : Int)) = some (M.map fun y => (y.2 : Int)) := by
          have := intsOf_ints (M.map fun y => (y.2 : Int))
          rw [List.map_map] at this
          exact this
        simp_arith only [z0, ez]
        refine sat_nil (sat_seq ?_)
        simp_arith only [List.length_map, zM]
        rw [comp_map (h := fD) (g := fun y => row y.1)]
        · simp_arith only [bfm]
          rw [comp_map (h := fD) (g := fun y => PyData.int (y.2 : Int))]
          · simp_arith only [bfs, z2]
            refine ⟨?_, X2⟩
            rw [hxr]
            rfl
          · intro y _
            simp_arith only [fD]
        · intro y _
          simp_arith only [fD]
    · intro x hx
      obtain ⟨g, hg⟩ := lkG_has hx
      obtain ⟨o1, o2, o3, o4, o5⟩ := i1 _ (lkG_mem hg)
      have nkx := nk_lay x.1
      have w5 := val_dG (f := fD) nk_lay kl_inj p.1 x.1
      have w6 := val_dG (f := fD) nk_lay kl_inj p.2 x.1
      have bf : (false != false) = false := rfl
      have bt : (false != true) = true := rfl
      cases hg2 : lkG p.2 x.1 with
      | none =>
        simp_arith only [b6, nkx, w6, hg2, Option.isSome_none, bf]
      | some g2 =>
        obtain ⟨u1, u2, u3, u4, u5⟩ := i3 _ (lkG_mem hg2)
        have o3 : g.1.length = (w + 1) / 2 := o3
        have u3 : g2.1.length = w / 2 := u3
        have o5 : g.2 ≤ 900 ^ ((w + 1) / 2) := o5
        have u5 : g2.2 ≤ 900 ^ (w / 2) := u5
        have zl : g.1.length + g2.1.length ≤ sizeLine := by rw [sizeLine_eq]; omega
        have t1 := pow900 ((w + 1) / 2) (by omega)
        have t2 := pow900 (w / 2) (by omega)
        have mo : mulOk (g.2 : Int) (g2.2 : Int) = true := mul_ok (a := 20) (b := 20) (by omega) (by omega) (by decide)
        have ra : PyData.tuple (g.1.map lp ++ g2.1.map lp) = row (g.1 ++ g2.1) := by unfold row; rw [List.map_append]
        simp_arith only [b5, b6, nkx, w5, w6, hg, hg2, Option.isSome_some, bt, fD, row, List.length_map, zl, z2, mo, Option.getD_some, List.map_append, Int.natCast_mul]

noncomputable def fewFrom (a c : List (Int × Int)) : Nat → Nat → Option (List (Nat × Nat))
  | 0, _ => none
  | n + 1, i => match (betwW a c i).1 with
    | some r => some r
    | none => fewFrom a c n (i + 1)
noncomputable def fewX (a c : List (Int × Int)) (w : Nat) : Option (List (Nat × Nat)) := fewFrom a c (w + 1) 0
noncomputable def rowV (o : Option (List (Nat × Nat))) : PyData := (o.map row).getD .none
theorem s_need_two {k : Nat} {a c : List (Int × Int)} {S : Store} (ha : 1 ≤ a.length ∧ a.length ≤ 6) (hc : c.length = a.length) : callN PP W (k + 5) 6 [.dat (lay a), .dat (lay c)] S = .ok (.dat .none) S := by
  have lenl : ∀ l : List (Int × Int), bfP .len [lay l] = some (.int (l.length : Int)) := fun l => by unfold lay; rw [bf_len_t, List.length_map]
  have d : decide ((a.length : Int) = (c.length : Int)) = true := decide_eq_true (by omega)
  have h2 := fun S => s_need_lay (k := k) (W := W) (l := c) (S := S) (by omega)
  rw [callN_at P_6 rfl]
  simp_arith! only [d_6, b_6, s_need_lay ha, h2, lenl, d]
theorem s_need_number {k w : Nat} {S : Store} (hw : w ≤ 4) : callN PP W (k + 3) 10 [.dat (.int (w : Int))] S = .ok (.dat .none) S := by
  have d : decide ((0 : Int) ≤ (w : Int) ∧ (w : Int) ≤ 4) = true := decide_eq_true (by omega)
  have wi := fun S => s_within (k := k) (W := W) (i := (w : Int)) (a := 0) (b := 4) (S := S)
  rw [callN_at P_10 rfl]
  simp_arith! only [d_10, b_10, wi, d]
theorem s_how_many {k b w : Nat} {a c : List (Int × Int)} {S : Store} (ha : 1 ≤ a.length ∧ a.length ≤ 6) (hc : c.length = a.length) (h1 : Bn b a) (h2 : Bn b c) (hb : b ≤ 380) (hw : w ≤ 4) :
    (callN PP none (k + 6) 16 [.dat (lay a), .dat (lay c), .dat (.int (w : Int))] S).sat fun v S' => v = Val.dat (.int (betwW a c w).2) ∧ Ex S S' := by
  have t2 := fun S => s_need_two (k := k) (W := none) (S := S) ha hc
  have nn := fun S => s_need_number (k := k + 2) (W := none) (S := S) hw
  refine call_ex (R := fun v => v = Val.dat (.int (betwW a c w).2)) P_16 rfl ?_
  simp_arith only [d_16, b_16]
  refine sat_seq ?_
  simp_arith only [t2]
  refine sat_seq ?_
  simp_arith only [nn]
  refine sat_seq ?_
  simp_arith only [id_eq]
  refine sat_then (s_between (k := k + 1) (S := S) (b := b) (len := a.length) ⟨rfl, h1⟩ ⟨hc, h2⟩ ha.2 hb hw) ?_
  rintro v S1 ⟨rfl, X1⟩
  simp_arith only [fewPV]
  exact ⟨by trivial, X1⟩
theorem s_fewest {k b w : Nat} {a c : List (Int × Int)} {S : Store} (ha : 1 ≤ a.length ∧ a.length ≤ 6) (hc : c.length = a.length) (h1 : Bn b a) (h2 : Bn b c) (hb : b ≤ 380) (hw : w ≤ 4) :
    (callN PP none (k + 6) 15 [.dat (lay a), .dat (lay c), .dat (.int (w : Int))] S).sat fun v S' => v = Val.dat (rowV (fewX a c w)) ∧ Ex S S' := by
  have t2 := fun S => s_need_two (k := k) (W := none) (S := S) ha hc
  have nn := fun S => s_need_number (k := k + 2) (W := none) (S := S) hw
  have c2 : small ((w : Int) + 1) = true := small_of (by omega) (by omega)
  refine call_ex (R := fun v => v = Val.dat (rowV (fewX a c w))) P_15 rfl ?_
  simp_arith only [d_15, b_15]
  refine sat_seq ?_
  simp_arith only [t2]
  refine sat_seq ?_
  simp_arith only [nn]
  refine sat_seq ?_
  refine sat_for (xs := intRange 0 ((w : Int) + 1)) (S1 := S) (by simp_arith only [c2]) ?_
  refine for_ret (fun i s S' => ∃ (v3 v4 v5 : Option Val), s = [some (Val.dat (lay a)), some (Val.dat (lay c)), some (Val.dat (.int (w : Int))), v3, v4, v5] ∧ Ex S S' ∧ fewFrom a c (w + 1 - i) i = fewX a c w) _ ⟨_, _, _, rfl, .refl, rfl⟩ ?_ ?_
  · rintro i x s S' e ⟨v3, v4, v5, rfl, X, hF⟩
    obtain ⟨rfl, hi⟩ := rg_at e
    have hi : i ≤ w := by omega
    have es : w + 1 - i = (w + 1 - (i + 1)) + 1 := by omega
    rw [es] at hF
    simp only [fewFrom] at hF
    simp_arith only [stepF, bind_nm]
    refine sat_seq ?_
    simp_arith only [id_eq]
    refine sat_then (s_between (k := k + 1) (S := S') (b := b) (len := a.length) ⟨rfl, h1⟩ ⟨hc, h2⟩ ha.2 hb (show i ≤ 4 by omega)) ?_
    rintro v S1 ⟨rfl, X1⟩
    have fp : fewPV (betwW a c i) = .tuple [rowV (betwW a c i).1, .int (betwW a c i).2] := rfl
    rw [fp]
    simp_arith only [id_eq]
    refine sat_seq ?_
    cases q : (betwW a c i).1 with
    | none =>
      rw [q] at hF
      have rv : rowV none = .none := rfl
      simp_arith only [rv]
      exact sat_nil (sat_nil (.inl ⟨_, rfl, _, _, _, rfl, X.trans X1, hF⟩))
    | some r =>
      rw [q] at hF
      have rv : rowV (some r) = .tuple (r.map lp) := rfl
      simp_arith only [rv]
      refine sat_seq ?_
      simp_arith only [id_eq]
      exact .inr ⟨_, rfl, by rw [← hF]; rfl, X.trans X1⟩
  · rintro s S' ⟨v3, v4, v5, rfl, X, hF⟩
    rw [rg_len] at hF
    have e0 : w + 1 - ((w : Int) + 1).toNat = 0 := by omega
    rw [e0] at hF
    refine sat_seq ?_
    simp_arith only [id_eq]
    exact ⟨by rw [← hF]; rfl, X⟩

/-! ### lays by hand -/
noncomputable def nrB (l : List (Int × Int)) : Bool := l.all fun q => decide (q.1.natAbs ≤ 40 ∧ q.2.natAbs ≤ 40)
theorem bn_nr {l : List (Int × Int)} {u : Int × Int} (h : nrB l = true) (hu : u.1.natAbs ≤ 100 ∧ u.2.natAbs ≤ 100) : Bn 8 (l.map (mvP u)) := by
  intro q hq
  obtain ⟨p, hp, rfl⟩ := List.mem_map.mp hq
  obtain ⟨a, b⟩ := of_decide_eq_true (List.all_eq_true.mp h p hp)
  unfold mvP
  dsimp only
  have e : 2 ^ 8 = 256 := rfl
  rw [e]
  omega
noncomputable def manyQ (a c : List (Int × Int)) (w : Nat) : Int := (outB (sm (allP w a c))).2
noncomputable def fewQ (a c : List (Int × Int)) : Nat → Nat → Option (List (Nat × Nat))
  | 0, _ => none
  | n + 1, i => match (outB (sm (allP i a c))).1 with
    | some r => some r
    | none => fewQ a c n (i + 1)
theorem few_q {a c : List (Int × Int)} {u : Int × Int} (h : a.length = c.length) : ∀ {n i : Nat}, fewFrom (a.map (mvP u)) (c.map (mvP u)) n i = fewQ a c n i
  | 0, i => rfl
  | n + 1, i => by
    simp only [fewFrom, fewQ]
    rw [betw_sh h, betw_all h, allP_all, few_q h]
    all_goals cases (outB (sm (allR i a c))).1 <;> rfl
theorem many_x {k w : Nat} {a c : List (Int × Int)} {u : Int × Int} {m : Int} {S : Store} {la lc : PyData} {wi : Int} (hr : manyQ a c w = m) (wf : Wf S) (hu : u.1.natAbs ≤ 100 ∧ u.2.natAbs ≤ 100) (el : lay (a.map (mvP u)) = la) (ec : lay (c.map (mvP u)) = lc) (ew : (w : Int) = wi)
    (h : 1 ≤ a.length ∧ a.length ≤ 6) (hc : c.length = a.length) (h1 : nrB a = true) (h2 : nrB c = true) (hw : w ≤ 4) : callN PP none (k + 6) 16 [.dat la, .dat lc, .dat (.int wi)] S = .ok (.dat (.int m)) S := by
  obtain ⟨v, e, rfl⟩ := wf_ex wf (fun v hv => ⟨_, hv⟩) (s_how_many (k := k) (S := S) (a := a.map (mvP u)) (c := c.map (mvP u)) (w := w) (by rw [List.length_map]; exact h) (by rw [List.length_map, List.length_map]; exact hc) (bn_nr h1 hu) (bn_nr h2 hu) (by omega) hw)
  have q : (betwW (a.map (mvP u)) (c.map (mvP u)) w).2 = m := by
    rw [betw_sh hc.symm, betw_all hc.symm, ← allP_all]
    exact hr
  rw [q, el, ec, ew] at e
  exact e
theorem few_x {k w : Nat} {a c : List (Int × Int)} {u : Int × Int} {d : PyData} {S : Store} {la lc : PyData} {wi : Int} (hr : rowV (fewQ a c (w + 1) 0) = d) (wf : Wf S) (hu : u.1.natAbs ≤ 100 ∧ u.2.natAbs ≤ 100) (el : lay (a.map (mvP u)) = la) (ec : lay (c.map (mvP u)) = lc) (ew : (w : Int) = wi)
    (h : 1 ≤ a.length ∧ a.length ≤ 6) (hc : c.length = a.length) (h1 : nrB a = true) (h2 : nrB c = true) (hw : w ≤ 4) : callN PP none (k + 6) 15 [.dat la, .dat lc, .dat (.int wi)] S = .ok (.dat d) S := by
  obtain ⟨v, e, rfl⟩ := wf_ex wf (fun v hv => ⟨_, hv⟩) (s_fewest (k := k) (S := S) (a := a.map (mvP u)) (c := c.map (mvP u)) (w := w) (by rw [List.length_map]; exact h) (by rw [List.length_map, List.length_map]; exact hc) (bn_nr h1 hu) (bn_nr h2 hu) (by omega) hw)
  have q : rowV (fewX (a.map (mvP u)) (c.map (mvP u)) w) = d := by
    unfold fewX
    rw [few_q hc.symm]
    exact hr
  rw [q, el, ec, ew] at e
  exact e
noncomputable def twB : List (Int × Int) := [(0, 1), (1, 1)]
noncomputable def twR : List (Int × Int) := [(1, 1), (0, 1)]
noncomputable def tw1 : List (Int × Int) := [(2, 1), (1, 1)]
noncomputable def tw2 : List (Int × Int) := [(2, 1), (3, 1)]
noncomputable def tw3 : List (Int × Int) := [(4, 1), (3, 1)]
noncomputable def tw4 : List (Int × Int) := [(4, 1), (5, 1)]
noncomputable def hpL : List (Int × Int) := [(0, 0), (0, 0), (0, 0)]
noncomputable def bsL : List (Int × Int) := [(0, 0), (0, 0), (1, 0)]
noncomputable def bsM : List (Int × Int) := [(2, 0), (0, 0), (1, 0)]
noncomputable def sxL : List (Int × Int) := [(0, 0), (1, 0), (0, 1), (5, 7), (11, 3), (20, 31)]
noncomputable def sxM : List (Int × Int) := [(2, 0), (1, 0), (2, -1), (-3, -7), (-9, -3), (20, 31)]
noncomputable def loL : List (Int × Int) := [(0, 3)]
noncomputable def loM : List (Int × Int) := [(0, 4)]
noncomputable def due1 : List PyData := [.tuple [.int 0, .int 1]]
noncomputable def due2 : List PyData := [.tuple [.int 0, .int 1], .tuple [.int 1, .int 0]]
noncomputable def due3 : List PyData := [.tuple [.int 0, .int 1], .tuple [.int 1, .int 0], .tuple [.int 0, .int 1]]
noncomputable def due4 : List PyData := [.tuple [.int 0, .int 1], .tuple [.int 1, .int 0], .tuple [.int 0, .int 1], .tuple [.int 1, .int 0]]
theorem sx_f4 : rowV (fewQ sxL sxM 5 0) = .tuple [.tuple [.int 0, .int 1], .tuple [.int 2, .int 1], .tuple [.int 3, .int 1], .tuple [.int 4, .int 1]] := by kernel_rfl
theorem sx_f3 : rowV (fewQ sxL sxM 4 0) = .none := by kernel_rfl
theorem sx_m3 : manyQ sxL sxM 3 = 0 := by kernel_rfl
theorem sx_m4 : manyQ sxL sxM 4 = 24 := by kernel_rfl
theorem tw_f1 : rowV (fewQ twB tw1 5 0) = .tuple due1 := by kernel_rfl
theorem tw_f2 : rowV (fewQ twB tw2 5 0) = .tuple due2 := by kernel_rfl
theorem tw_f3 : rowV (fewQ twB tw3 5 0) = .tuple due3 := by kernel_rfl
theorem tw_f4 : rowV (fewQ twB tw4 5 0) = .tuple due4 := by kernel_rfl
theorem tw_n1 : rowV (fewQ twB tw1 1 0) = .none := by kernel_rfl
theorem tw_n2 : rowV (fewQ twB tw2 2 0) = .none := by kernel_rfl
theorem tw_n3 : rowV (fewQ twB tw3 3 0) = .none := by kernel_rfl
theorem tw_n4 : rowV (fewQ twB tw4 4 0) = .none := by kernel_rfl
theorem tw_r : rowV (fewQ twB twR 5 0) = .none := by kernel_rfl
theorem tw_s : rowV (fewQ twB twB 1 0) = .tuple [] := by kernel_rfl
theorem tw_m : [manyQ twB tw1 0, manyQ twB tw1 1, manyQ twB tw2 0, manyQ twB tw2 1, manyQ twB tw2 2, manyQ twB tw3 0, manyQ twB tw3 1, manyQ twB tw3 2, manyQ twB tw3 3, manyQ twB tw4 0, manyQ twB tw4 1, manyQ twB tw4 2, manyQ twB tw4 3, manyQ twB tw4 4] = [0, 1, 0, 0, 1, 0, 0, 0, 1, 0, 0, 0, 0, 1] := by kernel_rfl
theorem tw_o : [manyQ twB twB 0, manyQ twB twB 1, manyQ twB twB 2, manyQ twB twB 3, manyQ twB twB 4] = [1, 0, 2, 0, 6] := by kernel_rfl
theorem hp_f : rowV (fewQ hpL hpL 5 0) = .tuple [] := by kernel_rfl
theorem hp_m : [manyQ hpL hpL 0, manyQ hpL hpL 1, manyQ hpL hpL 2, manyQ hpL hpL 3] = [1, 6, 36, 216] := by kernel_rfl
theorem bs_f : rowV (fewQ bsL bsM 2 0) = .tuple [.tuple [.int 0, .int 2]] := by kernel_rfl
theorem bs_m : [manyQ bsL bsM 1, manyQ bsL bsM 2, manyQ bsL bsL 1, manyQ bsL bsL 2] = [1, 2, 2, 10] := by kernel_rfl
theorem lo_f : rowV (fewQ loL loL 5 0) = .tuple [] := by kernel_rfl
theorem lo_n : rowV (fewQ loL loM 5 0) = .none := by kernel_rfl
theorem lo_m : [manyQ loL loL 0, manyQ loL loL 1, manyQ loL loL 4] = [1, 0, 0] := by kernel_rfl
theorem perm3 {A : Type} {a b c : A} : permute [2, 1, 0] [a, b, c] = some [c, b, a] := rfl

theorem l_2 {p q x y : Int} (v : Int) (h1 : p + v = x) (h2 : q + v = y) : lay ([(p, 1), (q, 1)].map (mvP (v, 0))) = .tuple [.tuple [.int x, .int 1], .tuple [.int y, .int 1]] := by
  subst h1
  subst h2
  simp only [lay, List.map_cons, List.map_nil, pl, mvP, Int.add_zero]
theorem l_bs (v : Int) : lay (bsL.map (mvP (v, 0))) = .tuple [.tuple [.int v, .int 0], .tuple [.int v, .int 0], .tuple [.int (v + 1), .int 0]] := by
  simp only [lay, bsL, List.map_cons, List.map_nil, pl, mvP, Int.zero_add, Int.add_zero, Int.add_comm 1 v]
theorem l_bm (v : Int) : lay (bsM.map (mvP (v, 0))) = .tuple [.tuple [.int (v + 2), .int 0], .tuple [.int v, .int 0], .tuple [.int (v + 1), .int 0]] := by
  simp only [lay, bsM, List.map_cons, List.map_nil, pl, mvP, Int.zero_add, Int.add_zero, Int.add_comm 1 v, Int.add_comm 2 v]
noncomputable def hpD (v : Int) : List PyData := List.replicate 3 (.tuple [.int v, .int v])
theorem l_hp (v : Int) : lay (hpL.map (mvP (v, v))) = .tuple (hpD v) := by
  simp only [lay, hpL, List.map_cons, List.map_nil, pl, mvP, Int.zero_add, Int.add_zero]
  rfl
theorem l_sx : lay (sxL.map (mvP (0, 0))) = .tuple [.tuple [.int 0, .int 0], .tuple [.int 1, .int 0], .tuple [.int 0, .int 1], .tuple [.int 5, .int 7], .tuple [.int 11, .int 3], .tuple [.int 20, .int 31]] := rfl
theorem l_sm : lay (sxM.map (mvP (0, 0))) = .tuple [.tuple [.int 2, .int 0], .tuple [.int 1, .int 0], .tuple [.int 2, .int (-1)], .tuple [.int (-3), .int (-7)], .tuple [.int (-9), .int (-3)], .tuple [.int 20, .int 31]] := rfl
theorem l_lo (v : Int) : lay (loL.map (mvP (v, 0))) = .tuple [.tuple [.int v, .int 3]] := by
  simp only [lay, loL, List.map_cons, List.map_nil, pl, mvP, Int.zero_add, Int.add_zero]
theorem l_lm (v : Int) : lay (loM.map (mvP (v, 0))) = .tuple [.tuple [.int v, .int 4]] := by
  simp only [lay, loM, List.map_cons, List.map_nil, pl, mvP, Int.zero_add, Int.add_zero]
theorem qq_d1 : eqP (.tuple due1) (.tuple due1) = some true := by kernel_rfl
theorem qq_d2 : eqP (.tuple due2) (.tuple due2) = some true := by kernel_rfl
theorem qq_d3 : eqP (.tuple due3) (.tuple due3) = some true := by kernel_rfl
theorem qq_d4 : eqP (.tuple due4) (.tuple due4) = some true := by kernel_rfl
theorem qq_t : eqP (.tuple []) (.tuple []) = some true := by kernel_rfl
theorem qq_s : eqP (.tuple [.tuple [.int 0, .int 1], .tuple [.int 2, .int 1], .tuple [.int 3, .int 1], .tuple [.int 4, .int 1]]) (.tuple [.tuple [.int 0, .int 1], .tuple [.int 2, .int 1], .tuple [.int 3, .int 1], .tuple [.int 4, .int 1]]) = some true := by kernel_rfl
theorem qq_b : eqP (.tuple [.tuple [.int 0, .int 2]]) (.tuple [.tuple [.int 0, .int 2]]) = some true := by kernel_rfl
theorem qq_l1 : eqP (.list [.int 0, .int 1]) (.list [.int 0, .int 1]) = some true := by kernel_rfl
theorem qq_l2 : eqP (.list [.int 0, .int 0, .int 1]) (.list [.int 0, .int 0, .int 1]) = some true := by kernel_rfl
theorem qq_l3 : eqP (.list [.int 0, .int 0, .int 0, .int 1]) (.list [.int 0, .int 0, .int 0, .int 1]) = some true := by kernel_rfl
theorem qq_l4 : eqP (.list [.int 0, .int 0, .int 0, .int 0, .int 1]) (.list [.int 0, .int 0, .int 0, .int 0, .int 1]) = some true := by kernel_rfl
theorem qq_o : eqP (.list [.int 1, .int 0, .int 2, .int 0, .int 6]) (.list [.int 1, .int 0, .int 2, .int 0, .int 6]) = some true := by kernel_rfl
theorem qq_6 : eqP (.list [.int 0, .int 24]) (.list [.int 0, .int 24]) = some true := by kernel_rfl
theorem qq_h : eqP (.list [.int 1, .int 6, .int 36, .int 216]) (.list [.int 1, .int 6, .int 36, .int 216]) = some true := by kernel_rfl
theorem qq_12 : eqP (.list [.int 1, .int 2]) (.list [.int 1, .int 2]) = some true := by kernel_rfl
theorem qq_lo : eqP (.list [.int 1, .int 0, .int 0]) (.list [.int 1, .int 0, .int 0]) = some true := by kernel_rfl
theorem rg_4 : intRange 0 4 = [.int 0, .int 1, .int 2, .int 3] := by kernel_rfl
theorem rg_5 : intRange 0 5 = [.int 0, .int 1, .int 2, .int 3, .int 4] := by kernel_rfl
theorem hu0 {v : Int} (hv : v.natAbs ≤ 35) : ((v, 0) : Int × Int).1.natAbs ≤ 100 ∧ ((v, 0) : Int × Int).2.natAbs ≤ 100 := ⟨by dsimp only; omega, by dsimp only; omega⟩
theorem hu1 {v : Int} (hv : v.natAbs ≤ 35) : ((v, v) : Int × Int).1.natAbs ≤ 100 ∧ ((v, v) : Int × Int).2.natAbs ≤ 100 := ⟨by dsimp only; omega, by dsimp only; omega⟩
theorem s_six {k : Nat} {S : Store} (wf : Wf S) : callN PP none (k + 8) 22 [] S = .ok (.dat (.bool true)) S := by
  have zz : ∀ a : Nat, a ≤ 100 → a ≤ sizeLine := fun a ha => by rw [sizeLine_eq]; omega
  have z2 := zz 2 (by omega)
  have z4 := zz 4 (by omega)
  have z6 := zz 6 (by omega)
  have y2 : (2 : Nat) < sizeLine := by rw [sizeLine_eq]; omega
  have hu : ((0, 0) : Int × Int).1.natAbs ≤ 100 ∧ ((0, 0) : Int × Int).2.natAbs ≤ 100 := ⟨by decide, by decide⟩
  have f4 := few_x (k := k + 1) (w := 4) (wi := 4) sx_f4 wf hu l_sx l_sm rfl (by decide) (by decide) (by decide) (by decide) (by decide)
  have f3 := few_x (k := k + 1) (w := 3) (wi := 3) sx_f3 wf hu l_sx l_sm rfl (by decide) (by decide) (by decide) (by decide) (by decide)
  have m3 := many_x (k := k + 1) (w := 3) (wi := 3) sx_m3 wf hu l_sx l_sm rfl (by decide) (by decide) (by decide) (by decide) (by decide)
  have m4 := many_x (k := k + 1) (w := 4) (wi := 4) sx_m4 wf hu l_sx l_sm rfl (by decide) (by decide) (by decide) (by decide) (by decide)
  rw [callN_at P_22 rfl]
  simp_arith! only [d_22, b_22, z2, y2, z4, z6, f4, f3, m3, m4, qq_s, qq_6]
theorem s_heap {k : Nat} {v : Int} {S : Store} (wf : Wf S) (hv : v.natAbs ≤ 35) : callN PP none (k + 8) 21 [.dat (.int v)] S = .ok (.dat (.bool true)) S := by
  have zz : ∀ a : Nat, a ≤ 100 → a ≤ sizeLine := fun a ha => by rw [sizeLine_eq]; omega
  have z0 := zz 0 (by omega)
  have z1 := zz 1 (by omega)
  have z2 := zz 2 (by omega)
  have z3 := zz 3 (by omega)
  have z4 := zz 4 (by omega)
  have y4 : (4 : Nat) < sizeLine := by rw [sizeLine_eq]; omega
  have y2 : (2 : Nat) < sizeLine := by rw [sizeLine_eq]; omega
  have c4 : small 4 = true := small_of (by omega) (by omega)
  have hm := hp_m
  have bm := bs_m
  simp only [List.cons.injEq, and_true] at hm bm
  have f := few_x (k := k + 1) (w := 4) (wi := 4) hp_f wf (hu1 hv) (l_hp v) (l_hp v) rfl (by decide) (by decide) (by decide) (by decide) (by decide)
  have m0 := many_x (k := k + 1) (w := 0) (wi := 0) hm.1 wf (hu1 hv) (l_hp v) (l_hp v) rfl (by decide) (by decide) (by decide) (by decide) (by decide)
  have m1 := many_x (k := k + 1) (w := 1) (wi := 1) hm.2.1 wf (hu1 hv) (l_hp v) (l_hp v) rfl (by decide) (by decide) (by decide) (by decide) (by decide)
  have m2 := many_x (k := k + 1) (w := 2) (wi := 2) hm.2.2.1 wf (hu1 hv) (l_hp v) (l_hp v) rfl (by decide) (by decide) (by decide) (by decide) (by decide)
  have m3 := many_x (k := k + 1) (w := 3) (wi := 3) hm.2.2.2 wf (hu1 hv) (l_hp v) (l_hp v) rfl (by decide) (by decide) (by decide) (by decide) (by decide)
  have g := few_x (k := k + 1) (w := 1) (wi := 1) bs_f wf (hu0 hv) (l_bs v) (l_bm v) rfl (by decide) (by decide) (by decide) (by decide) (by decide)
  have n1 := many_x (k := k + 1) (w := 1) (wi := 1) bm.1 wf (hu0 hv) (l_bs v) (l_bm v) rfl (by decide) (by decide) (by decide) (by decide) (by decide)
  have n2 := many_x (k := k + 1) (w := 2) (wi := 2) bm.2.1 wf (hu0 hv) (l_bs v) (l_bm v) rfl (by decide) (by decide) (by decide) (by decide) (by decide)
  have n3 := many_x (k := k + 1) (w := 1) (wi := 1) bm.2.2.1 wf (hu0 hv) (l_bs v) (l_bs v) rfl (by decide) (by decide) (by decide) (by decide) (by decide)
  have n4 := many_x (k := k + 1) (w := 2) (wi := 2) bm.2.2.2 wf (hu0 hv) (l_bs v) (l_bs v) rfl (by decide) (by decide) (by decide) (by decide) (by decide)
  have km : ∀ (env : Env) (S : Store), evE (callN PP none (k + 7)) (.bin .mul (.tup [.tup [.var 0, .var 0]]) (.cst (.int 3))) (some (Val.dat (.int v)) :: env) S = .ok (.dat (.tuple (hpD v))) S := fun env S => by
    simp_arith! only [z1, z2]
    rfl
  rw [callN_at P_21 rfl]
  refine eq_sat (a := Val.dat (.bool true)) (finD_sat (sat_mono (Q := fun r S' => retOf r = Val.dat (.bool true) ∧ S' = S) ?_ fun r S' ⟨h1, h2⟩ => ⟨⟨h1, h2⟩, h1, by rw [h2, List.take_length]⟩))
  simp only [d_21, b_21, List.map_cons, List.map_nil, List.cons_append, List.nil_append, Nat.reduceSub, List.replicate_succ, List.replicate_zero]
  refine sat_seq ?_
  simp_arith only [↓km]
  refine sat_seq ?_
  simp_arith only [z0, z4, y4, c4, rg_4, f, m0, m1, m2, m3, qq_t, qq_h]
  refine sat_nil (sat_seq ?_)
  simp_arith only [z2, z3]
  refine sat_seq ?_
  simp_arith only [z1, z2, y2, g, n1, n2, qq_b, qq_12]
  refine sat_nil (sat_seq ?_)
  simp_arith only [n3, n4]
  exact ⟨by trivial, by trivial⟩

noncomputable def stpL : List PyData := [.tuple [.int 2, .int 1], .tuple [.int 2, .int 3], .tuple [.int 4, .int 3], .tuple [.int 4, .int 5]]
noncomputable def enuL : List PyData := [.tuple [.int 0, .tuple [.int 2, .int 1]], .tuple [.int 1, .tuple [.int 2, .int 3]], .tuple [.int 2, .tuple [.int 4, .int 3]], .tuple [.int 3, .tuple [.int 4, .int 5]]]
noncomputable def two_body : List IS := forBody b_20 2
theorem cu_0 : cutP [PyData.tuple [.int 0, .int 1], .tuple [.int 1, .int 0], .tuple [.int 0, .int 1], .tuple [.int 1, .int 0]] none (some (0 + 1)) = due1 := by kernel_rfl
theorem rx_0 : intRange 0 (0 + 2) = [.int 0, .int 1] := by kernel_rfl
theorem cu_1 : cutP [PyData.tuple [.int 0, .int 1], .tuple [.int 1, .int 0], .tuple [.int 0, .int 1], .tuple [.int 1, .int 0]] none (some (1 + 1)) = due2 := by kernel_rfl
theorem rx_1 : intRange 0 (1 + 2) = [.int 0, .int 1, .int 2] := by kernel_rfl
theorem cu_2 : cutP [PyData.tuple [.int 0, .int 1], .tuple [.int 1, .int 0], .tuple [.int 0, .int 1], .tuple [.int 1, .int 0]] none (some (2 + 1)) = due3 := by kernel_rfl
theorem rx_2 : intRange 0 (2 + 2) = [.int 0, .int 1, .int 2, .int 3] := by kernel_rfl
theorem cu_3 : cutP [PyData.tuple [.int 0, .int 1], .tuple [.int 1, .int 0], .tuple [.int 0, .int 1], .tuple [.int 1, .int 0]] none (some (3 + 1)) = due4 := by kernel_rfl
theorem rx_3 : intRange 0 (3 + 2) = [.int 0, .int 1, .int 2, .int 3, .int 4] := by kernel_rfl
theorem s_two {k : Nat} {v : Int} {S : Store} (wf : Wf S) (hv : v.natAbs ≤ 35) : callN PP none (k + 8) 20 [.dat (.int v)] S = .ok (.dat (.bool true)) S := by
  have zz : ∀ a : Nat, a ≤ 100 → a ≤ sizeLine := fun a ha => by rw [sizeLine_eq]; omega
  have z0 := zz 0 (by omega)
  have z1 := zz 1 (by omega)
  have z2 := zz 2 (by omega)
  have z4 := zz 4 (by omega)
  have yy : ∀ a : Nat, a ≤ 100 → a < sizeLine := fun a ha => by rw [sizeLine_eq]; omega
  have y2 := yy 2 (by omega)
  have y3 := yy 3 (by omega)
  have y4 := yy 4 (by omega)
  have y5 := yy 5 (by omega)
  have c2 : small 2 = true := small_of (by omega) (by omega)
  have c3 : small 3 = true := small_of (by omega) (by omega)
  have c4 : small 4 = true := small_of (by omega) (by omega)
  have cs0 : small (0 + 2) = true := small_of (by omega) (by omega)
  have cs1 : small (1 + 2) = true := small_of (by omega) (by omega)
  have cs2 : small (2 + 2) = true := small_of (by omega) (by omega)
  have cs3 : small (3 + 2) = true := small_of (by omega) (by omega)
  have c5 : small 5 = true := small_of (by omega) (by omega)
  have tm := tw_m
  have om := tw_o
  simp only [List.cons.injEq, and_true] at tm om
  obtain ⟨m10, m11, m20, m21, m22, m30, m31, m32, m33, m40, m41, m42, m43, m44⟩ := tm
  obtain ⟨o0, o1, o2, o3, o4⟩ := om
  have lb : lay (twB.map (mvP (v, 0))) = .tuple [.tuple [.int v, .int 1], .tuple [.int (v + 1), .int 1]] := l_2 v (by omega) (by omega)
  have lr : lay (twR.map (mvP (v, 0))) = .tuple [.tuple [.int (v + 1), .int 1], .tuple [.int v, .int 1]] := l_2 v (by omega) (by omega)
  have l1 : lay (tw1.map (mvP (v, 0))) = .tuple [.tuple [.int (v + 2), .int 1], .tuple [.int (v + 1), .int 1]] := l_2 v (by omega) (by omega)
  have l2 : lay (tw2.map (mvP (v, 0))) = .tuple [.tuple [.int (v + 2), .int 1], .tuple [.int (v + 3), .int 1]] := l_2 v (by omega) (by omega)
  have l3 : lay (tw3.map (mvP (v, 0))) = .tuple [.tuple [.int (v + 4), .int 1], .tuple [.int (v + 3), .int 1]] := l_2 v (by omega) (by omega)
  have l4 : lay (tw4.map (mvP (v, 0))) = .tuple [.tuple [.int (v + 4), .int 1], .tuple [.int (v + 5), .int 1]] := l_2 v (by omega) (by omega)
  have ff := fun {c : List (Int × Int)} {w : Nat} {wi : Int} {d lc : PyData} (hr : rowV (fewQ twB c (w + 1) 0) = d) (ec : lay (c.map (mvP (v, 0))) = lc) (ew : (w : Int) = wi) (hc : c.length = twB.length) (h2 : nrB c = true) (hw : w ≤ 4) => few_x (k := k + 1) (a := twB) hr wf (hu0 hv) lb ec ew (by decide) hc (by decide) h2 hw
  have mm := fun {c : List (Int × Int)} {w : Nat} {wi d : Int} {lc : PyData} (hr : manyQ twB c w = d) (ec : lay (c.map (mvP (v, 0))) = lc) (ew : (w : Int) = wi) (hc : c.length = twB.length) (h2 : nrB c = true) (hw : w ≤ 4) => many_x (k := k + 1) (a := twB) hr wf (hu0 hv) lb ec ew (by decide) hc (by decide) h2 hw
  rw [callN_at P_20 rfl]
  refine eq_sat (a := Val.dat (.bool true)) (finD_sat (sat_mono (Q := fun r S' => retOf r = Val.dat (.bool true) ∧ S' = S) ?_ fun r S' ⟨h1, h2⟩ => ⟨⟨h1, h2⟩, h1, by rw [h2, List.take_length]⟩))
  simp only [d_20, b_20, List.map_cons, List.map_nil, List.cons_append, List.nil_append, Nat.reduceSub, List.replicate_succ, List.replicate_zero]
  refine sat_seq ?_
  simp_arith only [z2]
  refine sat_seq ?_
  simp_arith only [z2, z4]
  refine sat_seq ?_
  refine sat_for (xs := enuL) (S1 := S) (by simp_arith only [y4]; rfl) ?_
  refine for_inv (fun j s S' => (∃ v3 v4 v5 v6 v7 v8 v9, s = [some (Val.dat (.int v)), some (Val.dat (.tuple [.tuple [.int v, .int 1], .tuple [.int (v + 1), .int 1]])), some (Val.dat (.list stpL)), v3, v4, v5, v6, v7, v8, v9]) ∧ S' = S) _ ⟨⟨_, _, _, _, _, _, _, rfl⟩, rfl⟩ ?_ ?_
  · rintro j x s S' e ⟨⟨v3, v4, v5, v6, v7, v8, v9, rfl⟩, rfl⟩
    have m := List.mem_of_getElem? e
    simp only [enuL, List.mem_cons, List.not_mem_nil, or_false] at m
    have pt : ∀ (a b c : Int), bindPt (.tp [.nm 3, .tp [.nm 7, .nm 8]]) (Val.dat (.tuple [.int a, .tuple [.int b, .int c]])) [some (Val.dat (.int v)), some (Val.dat (.tuple [.tuple [.int v, .int 1], .tuple [.int (v + 1), .int 1]])), some (Val.dat (.list stpL)), v3, v4, v5, v6, v7, v8, v9] = some [some (Val.dat (.int v)), some (Val.dat (.tuple [.tuple [.int v, .int 1], .tuple [.int (v + 1), .int 1]])), some (Val.dat (.list stpL)), some (Val.dat (.int a)), v4, v5, v6, some (Val.dat (.int b)), some (Val.dat (.int c)), v9] := fun a b c => rfl
    rcases m with rfl | rfl | rfl | rfl
    · have kk : ∀ (a b c d f g h i j : Option Val) (S : Store), evE (callN PP none (k + 7)) (.bin .mul (.lst [.cst (.int 0)]) (.bin .add (.var 3) (.cst (.int 1)))) [a, b, c, some (Val.dat (.int 0)), d, f, g, h, i, j] S = .ok (.dat (.list [.int 0])) S := fun a b c d f g h i j S => ev_mul_ll (xs := [.int 0]) (n := 1) (by simp_arith! only [z1]) (by simp_arith! only [id_eq]; rfl) (by omega) (by simp)
      have f := ff (w := 4) (wi := 4) tw_f1 l1 rfl rfl (by decide) (by decide)
      have n := ff (w := 0) (wi := 0) tw_n1 l1 rfl rfl (by decide) (by decide)
      have p0 := mm (w := 0) (wi := 0) m10 l1 rfl rfl (by decide) (by decide)
      have p1 := mm (w := 1) (wi := 1) m11 l1 rfl rfl (by decide) (by decide)
      simp only [stepF, pt, two_body, b_20, forBody]
      refine sat_seq ?_
      simp_arith only [z2]
      refine sat_seq ?_
      simp_arith only [z2, z4, cu_0]
      refine sat_seq ?_
      simp_arith only [perm3, z2, f, n, qq_d1]
      refine sat_nil (sat_seq ?_)
      simp_arith only [perm3, yy (2), cs0, rx_0, p0, p1]
      refine sat_seq ?_
      simp_arith only [↓kk, z1, qq_l1]
      exact ⟨_, rfl, ⟨_, _, _, _, _, _, _, rfl⟩, rfl⟩
    · have kk : ∀ (a b c d f g h i j : Option Val) (S : Store), evE (callN PP none (k + 7)) (.bin .mul (.lst [.cst (.int 0)]) (.bin .add (.var 3) (.cst (.int 1)))) [a, b, c, some (Val.dat (.int 1)), d, f, g, h, i, j] S = .ok (.dat (.list [.int 0, .int 0])) S := fun a b c d f g h i j S => ev_mul_ll (xs := [.int 0]) (n := 2) (by simp_arith! only [z1]) (by simp_arith! only [id_eq]; rfl) (by omega) (by simp)
      have f := ff (w := 4) (wi := 4) tw_f2 l2 rfl rfl (by decide) (by decide)
      have n := ff (w := 1) (wi := 1) tw_n2 l2 rfl rfl (by decide) (by decide)
      have p0 := mm (w := 0) (wi := 0) m20 l2 rfl rfl (by decide) (by decide)
      have p1 := mm (w := 1) (wi := 1) m21 l2 rfl rfl (by decide) (by decide)
      have p2 := mm (w := 2) (wi := 2) m22 l2 rfl rfl (by decide) (by decide)
      simp only [stepF, pt, two_body, b_20, forBody]
      refine sat_seq ?_
      simp_arith only [z2]
      refine sat_seq ?_
      simp_arith only [z2, z4, cu_1]
      refine sat_seq ?_
      simp_arith only [perm3, z2, f, n, qq_d2]
      refine sat_nil (sat_seq ?_)
      simp_arith only [perm3, yy (3), cs1, rx_1, p0, p1, p2]
      refine sat_seq ?_
      simp_arith only [↓kk, z1, qq_l2]
      exact ⟨_, rfl, ⟨_, _, _, _, _, _, _, rfl⟩, rfl⟩
    · have kk : ∀ (a b c d f g h i j : Option Val) (S : Store), evE (callN PP none (k + 7)) (.bin .mul (.lst [.cst (.int 0)]) (.bin .add (.var 3) (.cst (.int 1)))) [a, b, c, some (Val.dat (.int 2)), d, f, g, h, i, j] S = .ok (.dat (.list [.int 0, .int 0, .int 0])) S := fun a b c d f g h i j S => ev_mul_ll (xs := [.int 0]) (n := 3) (by simp_arith! only [z1]) (by simp_arith! only [id_eq]; rfl) (by omega) (by simp)
      have f := ff (w := 4) (wi := 4) tw_f3 l3 rfl rfl (by decide) (by decide)
      have n := ff (w := 2) (wi := 2) tw_n3 l3 rfl rfl (by decide) (by decide)
      have p0 := mm (w := 0) (wi := 0) m30 l3 rfl rfl (by decide) (by decide)
      have p1 := mm (w := 1) (wi := 1) m31 l3 rfl rfl (by decide) (by decide)
      have p2 := mm (w := 2) (wi := 2) m32 l3 rfl rfl (by decide) (by decide)
      have p3 := mm (w := 3) (wi := 3) m33 l3 rfl rfl (by decide) (by decide)
      simp only [stepF, pt, two_body, b_20, forBody]
      refine sat_seq ?_
      simp_arith only [z2]
      refine sat_seq ?_
      simp_arith only [z2, z4, cu_2]
      refine sat_seq ?_
      simp_arith only [perm3, z2, f, n, qq_d3]
      refine sat_nil (sat_seq ?_)
      simp_arith only [perm3, yy (4), cs2, rx_2, p0, p1, p2, p3]
      refine sat_seq ?_
      simp_arith only [↓kk, z1, qq_l3]
      exact ⟨_, rfl, ⟨_, _, _, _, _, _, _, rfl⟩, rfl⟩
    · have kk : ∀ (a b c d f g h i j : Option Val) (S : Store), evE (callN PP none (k + 7)) (.bin .mul (.lst [.cst (.int 0)]) (.bin .add (.var 3) (.cst (.int 1)))) [a, b, c, some (Val.dat (.int 3)), d, f, g, h, i, j] S = .ok (.dat (.list [.int 0, .int 0, .int 0, .int 0])) S := fun a b c d f g h i j S => ev_mul_ll (xs := [.int 0]) (n := 4) (by simp_arith! only [z1]) (by simp_arith! only [id_eq]; rfl) (by omega) (by simp)
      have f := ff (w := 4) (wi := 4) tw_f4 l4 rfl rfl (by decide) (by decide)
      have n := ff (w := 3) (wi := 3) tw_n4 l4 rfl rfl (by decide) (by decide)
      have p0 := mm (w := 0) (wi := 0) m40 l4 rfl rfl (by decide) (by decide)
      have p1 := mm (w := 1) (wi := 1) m41 l4 rfl rfl (by decide) (by decide)
      have p2 := mm (w := 2) (wi := 2) m42 l4 rfl rfl (by decide) (by decide)
      have p3 := mm (w := 3) (wi := 3) m43 l4 rfl rfl (by decide) (by decide)
      have p4 := mm (w := 4) (wi := 4) m44 l4 rfl rfl (by decide) (by decide)
      simp only [stepF, pt, two_body, b_20, forBody]
      refine sat_seq ?_
      simp_arith only [z2]
      refine sat_seq ?_
      simp_arith only [z2, z4, cu_3]
      refine sat_seq ?_
      simp_arith only [perm3, z2, f, n, qq_d4]
      refine sat_nil (sat_seq ?_)
      simp_arith only [perm3, yy (5), cs3, rx_3, p0, p1, p2, p3, p4]
      refine sat_seq ?_
      simp_arith only [↓kk, z1, qq_l4]
      exact ⟨_, rfl, ⟨_, _, _, _, _, _, _, rfl⟩, rfl⟩
  · rintro s S' ⟨⟨v3, v4, v5, v6, v7, v8, v9, rfl⟩, rfl⟩
    have fr := ff (w := 4) (wi := 4) tw_r lr rfl rfl (by decide) (by decide)
    have fs := ff (w := 0) (wi := 0) tw_s lb rfl rfl (by decide) (by decide)
    have p0 := mm (w := 0) (wi := 0) o0 lb rfl rfl (by decide) (by decide)
    have p1 := mm (w := 1) (wi := 1) o1 lb rfl rfl (by decide) (by decide)
    have p2 := mm (w := 2) (wi := 2) o2 lb rfl rfl (by decide) (by decide)
    have p3 := mm (w := 3) (wi := 3) o3 lb rfl rfl (by decide) (by decide)
    have p4 := mm (w := 4) (wi := 4) o4 lb rfl rfl (by decide) (by decide)
    refine sat_seq ?_
    simp_arith only [z0, z2, List.reverse_cons, List.reverse_nil, List.nil_append, List.singleton_append, fr, fs, qq_t]
    refine sat_nil (sat_seq ?_)
    simp_arith only [y5, c5, rg_5, p0, p1, p2, p3, p4, qq_o]
    exact ⟨by trivial, by trivial⟩

noncomputable def cell_body : List IS := (forBody b_23 1).drop 1
theorem cell_ok {l : Nat} {S : Store} {v1 v3 v4 v5 : Option Val} (h : Pen 0 l S) (wf : Wf S) :
    (evSs none (callN PP none 11) cell_body [some (Val.ref 0), v1, some (Val.ref l), v3, v4, v5] S).sat fun r S' => ∃ v1' v2' rest', r = .nx (some (Val.ref 0) :: v1' :: v2' :: rest') ∧ rest'.length = 3 ∧ Fr l S S' ∧ Wf S' := by
  have zz : ∀ a : Nat, a ≤ 100 → a ≤ sizeLine := fun a ha => by rw [sizeLine_eq]; omega
  have z0 := zz 0 (by omega)
  have z1 := zz 1 (by omega)
  have z2 := zz 2 (by omega)
  have z3 := zz 3 (by omega)
  have y3 : (3 : Nat) < sizeLine := by rw [sizeLine_eq]; omega
  simp_arith only [cell_body, b_23, forBody, List.drop_succ_cons, List.drop_zero]
  refine sat_seq ?_
  simp_arith only [id_eq]
  refine sat_then (wf_pen wf h.lt (fun v hv => let ⟨r, e, _⟩ := hv; ⟨_, e⟩) (s_draw h (by omega) (by omega) (by omega))) ?_
  rintro v S1 ⟨⟨r, rfl, hr⟩, P1, F1, W1⟩
  obtain ⟨v, hv⟩ : ∃ v : Int, (r : Int) - 35 = v := ⟨_, rfl⟩
  have hv35 : v.natAbs ≤ 35 := by omega
  simp_arith only [hv]
  have t2 := s_two (k := 3) W1 hv35
  have t3 := s_heap (k := 3) W1 hv35
  have lm := lo_m
  simp only [List.cons.injEq, and_true] at lm
  have f := few_x (k := 5) (w := 4) (wi := 4) lo_f W1 (hu0 hv35) (l_lo v) (l_lo v) rfl (by decide) (by decide) (by decide) (by decide) (by decide)
  have n := few_x (k := 5) (w := 4) (wi := 4) lo_n W1 (hu0 hv35) (l_lo v) (l_lm v) rfl (by decide) (by decide) (by decide) (by decide) (by decide)
  have m0 := many_x (k := 5) (w := 0) (wi := 0) lm.1 W1 (hu0 hv35) (l_lo v) (l_lo v) rfl (by decide) (by decide) (by decide) (by decide) (by decide)
  have m1 := many_x (k := 5) (w := 1) (wi := 1) lm.2.1 W1 (hu0 hv35) (l_lo v) (l_lo v) rfl (by decide) (by decide) (by decide) (by decide) (by decide)
  have m4 := many_x (k := 5) (w := 4) (wi := 4) lm.2.2 W1 (hu0 hv35) (l_lo v) (l_lo v) rfl (by decide) (by decide) (by decide) (by decide) (by decide)
  refine sat_seq ?_
  simp_arith only [t2, t3]
  refine sat_nil (sat_seq ?_)
  simp_arith only [z1, z2]
  refine sat_seq ?_
  simp_arith only [z0, z3, y3, f, m0, m1, m4, qq_t, qq_lo]
  refine sat_nil (sat_seq ?_)
  simp_arith only [z1, z2, n]
  exact sat_nil (sat_nil ⟨_, _, _, rfl, rfl, F1, W1⟩)
theorem first_ok {S : Store} {env : Env} (wf : Wf S) : (evS none (callN PP none 11) (.ite (.not (.call 22 [] [])) [.ret (.cst (.bool false))] []) env S).sat fun r S' => r = .nx env ∧ S' = S := by
  have t6 := s_six (k := 3) wf
  simp_arith only [t6]
  exact sat_nil ⟨rfl, rfl⟩
noncomputable def cells_it : List IS := cellsOf 17 18 3 cell_body
theorem body_eq : b_23 = .ite (.not (.call 22 [] [])) [.ret (.cst (.bool false))] [] :: cells_it := rfl
theorem rest_ok {ns : List Int} : (evSs none (callN PP none 11) cells_it [some (Val.ref 0), none, none, none, none, none] [.frz (ns.map .int)]).sat fun r S' => retOf r = .dat (.bool true) := by
  refine cells_okW (cellF := 17) (penF := 18) (N := 3) (body := cell_body) (c := 3) (ns := ns) (by omega) (by omega) (fun i S h => s_cell_at (k := 10) h) (fun x S => s_pen (k := 10)) ?_ _ _ _ rfl
  intro l S v1 rest hr P hl wf h0
  match rest, hr with
  | [v3, v4, v5], _ => exact cell_ok P wf
theorem law_ok (ns : List Int) : ∃ S', callN PP none 12 23 [.ref 0] [.frz (ns.map .int)] = .ok (.dat (.bool true)) S' := by
  have key : (callN PP none 12 23 [.ref 0] [.frz (ns.map .int)]).sat fun v S' => v = Val.dat (.bool true) := by
    refine call_sat P_23 rfl ?_
    simp only [d_23, body_eq]
    refine sat_seq ?_
    refine sat_mono (first_ok rfl) ?_
    rintro r S' ⟨rfl, rfl⟩
    exact sat_mono rest_ok fun r S' h => ⟨h, h⟩
  obtain ⟨v, S', e, rfl⟩ := sat_ex key
  exact ⟨S', e⟩

theorem f_0 {K : PySem.W.Frag} {h : Heap} {mg : Str → Option Value} {ms : List (Addr × Addr × Str)} (X : K.In h) (G : h.Ns mainGlobals mg) {f : Addr} {oc kV dc pm cd ct : Value} {od an : Option Addr} {sl : Array (Option Value)} (a : PySem.W.nsIn K mainGlobals "is_whole" = some (some (.ref f))) (l : K.lookup f = some ⟨oc, od, .func (PySem.W.fnOf "is_whole" "is_whole" (defArgs st_0) (defBody st_0) (defScope st_0) .none kV dc pm an cd ct), sl⟩) (c : PySem.W.codeIn K cd "is_whole" = true) (k : PySem.W.keepIn K (.ref f) = true) : FnHave TT PP K ms mg 0 t_0 :=
  fn_have (st := st_0) X G a l c k rfl rfl c_0 (bd_none 1 rfl rfl (fun us hl => match us, hl with | [_], _ => by kernel_rfl) (kb_no rfl))
theorem f_1 {K : PySem.W.Frag} {h : Heap} {mg : Str → Option Value} {ms : List (Addr × Addr × Str)} (X : K.In h) (G : h.Ns mainGlobals mg) {f : Addr} {oc kV dc pm cd ct : Value} {od an : Option Addr} {sl : Array (Option Value)} (a : PySem.W.nsIn K mainGlobals "is_within" = some (some (.ref f))) (l : K.lookup f = some ⟨oc, od, .func (PySem.W.fnOf "is_within" "is_within" (defArgs st_1) (defBody st_1) (defScope st_1) .none kV dc pm an cd ct), sl⟩) (c : PySem.W.codeIn K cd "is_within" = true) (k : PySem.W.keepIn K (.ref f) = true) : FnHave TT PP K ms mg 1 t_1 :=
  fn_have (st := st_1) X G a l c k rfl rfl c_1 (bd_none 3 rfl rfl (fun us hl => match us, hl with | [_, _, _], _ => by kernel_rfl) (kb_no rfl))
theorem f_2 {K : PySem.W.Frag} {h : Heap} {mg : Str → Option Value} {ms : List (Addr × Addr × Str)} (X : K.In h) (G : h.Ns mainGlobals mg) {f : Addr} {oc kV dc pm cd ct : Value} {od an : Option Addr} {sl : Array (Option Value)} (a : PySem.W.nsIn K mainGlobals "is_long" = some (some (.ref f))) (l : K.lookup f = some ⟨oc, od, .func (PySem.W.fnOf "is_long" "is_long" (defArgs st_2) (defBody st_2) (defScope st_2) .none kV dc pm an cd ct), sl⟩) (c : PySem.W.codeIn K cd "is_long" = true) (k : PySem.W.keepIn K (.ref f) = true) : FnHave TT PP K ms mg 2 t_2 :=
  fn_have (st := st_2) X G a l c k rfl rfl c_2 (bd_none 3 rfl rfl (fun us hl => match us, hl with | [_, _, _], _ => by kernel_rfl) (kb_no rfl))
theorem f_3 {K : PySem.W.Frag} {h : Heap} {mg : Str → Option Value} {ms : List (Addr × Addr × Str)} (X : K.In h) (G : h.Ns mainGlobals mg) {f : Addr} {oc kV dc pm cd ct : Value} {od an : Option Addr} {sl : Array (Option Value)} (a : PySem.W.nsIn K mainGlobals "is_place" = some (some (.ref f))) (l : K.lookup f = some ⟨oc, od, .func (PySem.W.fnOf "is_place" "is_place" (defArgs st_3) (defBody st_3) (defScope st_3) .none kV dc pm an cd ct), sl⟩) (c : PySem.W.codeIn K cd "is_place" = true) (k : PySem.W.keepIn K (.ref f) = true) : FnHave TT PP K ms mg 3 t_3 :=
  fn_have (st := st_3) X G a l c k rfl rfl c_3 (bd_none 1 rfl rfl (fun us hl => match us, hl with | [_], _ => by kernel_rfl) (kb_no rfl))
theorem f_4 {K : PySem.W.Frag} {h : Heap} {mg : Str → Option Value} {ms : List (Addr × Addr × Str)} (X : K.In h) (G : h.Ns mainGlobals mg) {f : Addr} {oc kV dc pm cd ct : Value} {od an : Option Addr} {sl : Array (Option Value)} (a : PySem.W.nsIn K mainGlobals "is_lay" = some (some (.ref f))) (l : K.lookup f = some ⟨oc, od, .func (PySem.W.fnOf "is_lay" "is_lay" (defArgs st_4) (defBody st_4) (defScope st_4) .none kV dc pm an cd ct), sl⟩) (c : PySem.W.codeIn K cd "is_lay" = true) (k : PySem.W.keepIn K (.ref f) = true) : FnHave TT PP K ms mg 4 t_4 :=
  fn_have (st := st_4) X G a l c k rfl rfl c_4 (bd_none 1 rfl rfl (fun us hl => match us, hl with | [_], _ => by kernel_rfl) (kb_no rfl))
theorem f_5 {K : PySem.W.Frag} {h : Heap} {mg : Str → Option Value} {ms : List (Addr × Addr × Str)} (X : K.In h) (G : h.Ns mainGlobals mg) {f : Addr} {oc kV dc pm cd ct : Value} {od an : Option Addr} {sl : Array (Option Value)} (a : PySem.W.nsIn K mainGlobals "need_lay" = some (some (.ref f))) (l : K.lookup f = some ⟨oc, od, .func (PySem.W.fnOf "need_lay" "need_lay" (defArgs st_5) (defBody st_5) (defScope st_5) .none kV dc pm an cd ct), sl⟩) (c : PySem.W.codeIn K cd "need_lay" = true) (k : PySem.W.keepIn K (.ref f) = true) : FnHave TT PP K ms mg 5 t_5 :=
  fn_have (st := st_5) X G a l c k rfl rfl c_5 (bd_none 1 rfl rfl (fun us hl => match us, hl with | [_], _ => by kernel_rfl) (kb_no rfl))
theorem f_6 {K : PySem.W.Frag} {h : Heap} {mg : Str → Option Value} {ms : List (Addr × Addr × Str)} (X : K.In h) (G : h.Ns mainGlobals mg) {f : Addr} {oc kV dc pm cd ct : Value} {od an : Option Addr} {sl : Array (Option Value)} (a : PySem.W.nsIn K mainGlobals "need_two" = some (some (.ref f))) (l : K.lookup f = some ⟨oc, od, .func (PySem.W.fnOf "need_two" "need_two" (defArgs st_6) (defBody st_6) (defScope st_6) .none kV dc pm an cd ct), sl⟩) (c : PySem.W.codeIn K cd "need_two" = true) (k : PySem.W.keepIn K (.ref f) = true) : FnHave TT PP K ms mg 6 t_6 :=
  fn_have (st := st_6) X G a l c k rfl rfl c_6 (bd_none 2 rfl rfl (fun us hl => match us, hl with | [_, _], _ => by kernel_rfl) (kb_no rfl))
theorem f_7 {K : PySem.W.Frag} {h : Heap} {mg : Str → Option Value} {ms : List (Addr × Addr × Str)} (X : K.In h) (G : h.Ns mainGlobals mg) {f : Addr} {oc kV dc pm cd ct : Value} {od an : Option Addr} {sl : Array (Option Value)} (a : PySem.W.nsIn K mainGlobals "beyond" = some (some (.ref f))) (l : K.lookup f = some ⟨oc, od, .func (PySem.W.fnOf "beyond" "beyond" (defArgs st_7) (defBody st_7) (defScope st_7) .none kV dc pm an cd ct), sl⟩) (c : PySem.W.codeIn K cd "beyond" = true) (k : PySem.W.keepIn K (.ref f) = true) : FnHave TT PP K ms mg 7 t_7 :=
  fn_have (st := st_7) X G a l c k rfl rfl c_7 (bd_none 2 rfl rfl (fun us hl => match us, hl with | [_, _], _ => by kernel_rfl) (kb_no rfl))
theorem f_8 {K : PySem.W.Frag} {h : Heap} {mg : Str → Option Value} {ms : List (Addr × Addr × Str)} (X : K.In h) (G : h.Ns mainGlobals mg) {f : Addr} {oc kV dc pm cd ct : Value} {od an : Option Addr} {sl : Array (Option Value)} (a : PySem.W.nsIn K mainGlobals "put" = some (some (.ref f))) (l : K.lookup f = some ⟨oc, od, .func (PySem.W.fnOf "put" "put" (defArgs st_8) (defBody st_8) (defScope st_8) .none kV dc pm an cd ct), sl⟩) (c : PySem.W.codeIn K cd "put" = true) (k : PySem.W.keepIn K (.ref f) = true) : FnHave TT PP K ms mg 8 t_8 :=
  fn_have (st := st_8) X G a l c k rfl rfl c_8 (bd_none 3 rfl rfl (fun us hl => match us, hl with | [_, _, _], _ => by kernel_rfl) (kb_no rfl))
theorem f_9 {K : PySem.W.Frag} {h : Heap} {mg : Str → Option Value} {ms : List (Addr × Addr × Str)} (X : K.In h) (G : h.Ns mainGlobals mg) {f : Addr} {oc kV dc pm cd ct : Value} {od an : Option Addr} {sl : Array (Option Value)} (a : PySem.W.nsIn K mainGlobals "leapt" = some (some (.ref f))) (l : K.lookup f = some ⟨oc, od, .func (PySem.W.fnOf "leapt" "leapt" (defArgs st_9) (defBody st_9) (defScope st_9) .none kV dc pm an cd ct), sl⟩) (c : PySem.W.codeIn K cd "leapt" = true) (k : PySem.W.keepIn K (.ref f) = true) : FnHave TT PP K ms mg 9 t_9 :=
  fn_have (st := st_9) X G a l c k rfl rfl c_9 (bd_none 2 rfl rfl (fun us hl => match us, hl with | [_, _], _ => by kernel_rfl) (kb_no rfl))
theorem f_10 {K : PySem.W.Frag} {h : Heap} {mg : Str → Option Value} {ms : List (Addr × Addr × Str)} (X : K.In h) (G : h.Ns mainGlobals mg) {f : Addr} {oc kV dc pm cd ct : Value} {od an : Option Addr} {sl : Array (Option Value)} (a : PySem.W.nsIn K mainGlobals "need_number" = some (some (.ref f))) (l : K.lookup f = some ⟨oc, od, .func (PySem.W.fnOf "need_number" "need_number" (defArgs st_10) (defBody st_10) (defScope st_10) .none kV dc pm an cd ct), sl⟩) (c : PySem.W.codeIn K cd "need_number" = true) (k : PySem.W.keepIn K (.ref f) = true) : FnHave TT PP K ms mg 10 t_10 :=
  fn_have (st := st_10) X G a l c k rfl rfl c_10 (bd_none 1 rfl rfl (fun us hl => match us, hl with | [_], _ => by kernel_rfl) (kb_no rfl))
theorem f_11 {K : PySem.W.Frag} {h : Heap} {mg : Str → Option Value} {ms : List (Addr × Addr × Str)} (X : K.In h) (G : h.Ns mainGlobals mg) {f : Addr} {oc kV dc pm cd ct : Value} {od an : Option Addr} {sl : Array (Option Value)} (a : PySem.W.nsIn K mainGlobals "leaps_of" = some (some (.ref f))) (l : K.lookup f = some ⟨oc, od, .func (PySem.W.fnOf "leaps_of" "leaps_of" (defArgs st_11) (defBody st_11) (defScope st_11) .none kV dc pm an cd ct), sl⟩) (c : PySem.W.codeIn K cd "leaps_of" = true) (k : PySem.W.keepIn K (.ref f) = true) : FnHave TT PP K ms mg 11 t_11 :=
  fn_have (st := st_11) X G a l c k rfl rfl c_11 (bd_none 1 rfl rfl (fun us hl => match us, hl with | [_], _ => by kernel_rfl) (kb_no rfl))
theorem f_12 {K : PySem.W.Frag} {h : Heap} {mg : Str → Option Value} {ms : List (Addr × Addr × Str)} (X : K.In h) (G : h.Ns mainGlobals mg) {f : Addr} {oc kV dc pm cd ct : Value} {od an : Option Addr} {sl : Array (Option Value)} (a : PySem.W.nsIn K mainGlobals "ahead" = some (some (.ref f))) (l : K.lookup f = some ⟨oc, od, .func (PySem.W.fnOf "ahead" "ahead" (defArgs st_12) (defBody st_12) (defScope st_12) .none kV dc pm an cd ct), sl⟩) (c : PySem.W.codeIn K cd "ahead" = true) (k : PySem.W.keepIn K (.ref f) = true) : FnHave TT PP K ms mg 12 t_12 :=
  fn_have (st := st_12) X G a l c k rfl rfl c_12 (bd_none 1 rfl rfl (fun us hl => match us, hl with | [_], _ => by kernel_rfl) (kb_no rfl))
theorem f_13 {K : PySem.W.Frag} {h : Heap} {mg : Str → Option Value} {ms : List (Addr × Addr × Str)} (X : K.In h) (G : h.Ns mainGlobals mg) {f : Addr} {oc kV dc pm cd ct : Value} {od an : Option Addr} {sl : Array (Option Value)} (a : PySem.W.nsIn K mainGlobals "back" = some (some (.ref f))) (l : K.lookup f = some ⟨oc, od, .func (PySem.W.fnOf "back" "back" (defArgs st_13) (defBody st_13) (defScope st_13) .none kV dc pm an cd ct), sl⟩) (c : PySem.W.codeIn K cd "back" = true) (k : PySem.W.keepIn K (.ref f) = true) : FnHave TT PP K ms mg 13 t_13 :=
  fn_have (st := st_13) X G a l c k rfl rfl c_13 (bd_none 1 rfl rfl (fun us hl => match us, hl with | [_], _ => by kernel_rfl) (kb_no rfl))
theorem f_14 {K : PySem.W.Frag} {h : Heap} {mg : Str → Option Value} {ms : List (Addr × Addr × Str)} (X : K.In h) (G : h.Ns mainGlobals mg) {f : Addr} {oc kV dc pm cd ct : Value} {od an : Option Addr} {sl : Array (Option Value)} (a : PySem.W.nsIn K mainGlobals "rows_between" = some (some (.ref f))) (l : K.lookup f = some ⟨oc, od, .func (PySem.W.fnOf "rows_between" "rows_between" (defArgs st_14) (defBody st_14) (defScope st_14) .none kV dc pm an cd ct), sl⟩) (c : PySem.W.codeIn K cd "rows_between" = true) (k : PySem.W.keepIn K (.ref f) = true) : FnHave TT PP K ms mg 14 t_14 :=
  fn_have (st := st_14) X G a l c k rfl rfl c_14 (bd_none 3 rfl rfl (fun us hl => match us, hl with | [_, _, _], _ => by kernel_rfl) (kb_no rfl))
theorem f_15 {K : PySem.W.Frag} {h : Heap} {mg : Str → Option Value} {ms : List (Addr × Addr × Str)} (X : K.In h) (G : h.Ns mainGlobals mg) {f : Addr} {oc kV dc pm cd ct : Value} {od an : Option Addr} {sl : Array (Option Value)} (a : PySem.W.nsIn K mainGlobals "fewest" = some (some (.ref f))) (l : K.lookup f = some ⟨oc, od, .func (PySem.W.fnOf "fewest" "fewest" (defArgs st_15) (defBody st_15) (defScope st_15) .none kV dc pm an cd ct), sl⟩) (c : PySem.W.codeIn K cd "fewest" = true) (k : PySem.W.keepIn K (.ref f) = true) : FnHave TT PP K ms mg 15 t_15 :=
  fn_have (st := st_15) X G a l c k rfl rfl c_15 (bd_none 3 rfl rfl (fun us hl => match us, hl with | [_, _, _], _ => by kernel_rfl) (kb_one rfl (fun s us ws zs X h1 h2 h3 => match us, ws, h1, h2 with | [], [w0, w1, w2], _, _ => by cases (show some [w2, w1, w0] = some zs from h3); exact .of_eq (by kernel_rfl))))
theorem f_16 {K : PySem.W.Frag} {h : Heap} {mg : Str → Option Value} {ms : List (Addr × Addr × Str)} (X : K.In h) (G : h.Ns mainGlobals mg) {f : Addr} {oc kV dc pm cd ct : Value} {od an : Option Addr} {sl : Array (Option Value)} (a : PySem.W.nsIn K mainGlobals "how_many_rows" = some (some (.ref f))) (l : K.lookup f = some ⟨oc, od, .func (PySem.W.fnOf "how_many_rows" "how_many_rows" (defArgs st_16) (defBody st_16) (defScope st_16) .none kV dc pm an cd ct), sl⟩) (c : PySem.W.codeIn K cd "how_many_rows" = true) (k : PySem.W.keepIn K (.ref f) = true) : FnHave TT PP K ms mg 16 t_16 :=
  fn_have (st := st_16) X G a l c k rfl rfl c_16 (bd_none 3 rfl rfl (fun us hl => match us, hl with | [_, _, _], _ => by kernel_rfl) (kb_one rfl (fun s us ws zs X h1 h2 h3 => match us, ws, h1, h2 with | [], [w0, w1, w2], _, _ => by cases (show some [w2, w1, w0] = some zs from h3); exact .of_eq (by kernel_rfl))))
theorem f_17 {K : PySem.W.Frag} {h : Heap} {mg : Str → Option Value} {ms : List (Addr × Addr × Str)} (X : K.In h) (G : h.Ns mainGlobals mg) {f : Addr} {oc kV dc pm cd ct : Value} {od an : Option Addr} {sl : Array (Option Value)} (a : PySem.W.nsIn K mainGlobals "_law_cell_at" = some (some (.ref f))) (l : K.lookup f = some ⟨oc, od, .func (PySem.W.fnOf "_law_cell_at" "_law_cell_at" (defArgs st_17) (defBody st_17) (defScope st_17) .none kV dc pm an cd ct), sl⟩) (c : PySem.W.codeIn K cd "_law_cell_at" = true) (k : PySem.W.keepIn K (.ref f) = true) : FnHave TT PP K ms mg 17 t_17 :=
  fn_have (st := st_17) X G a l c k rfl rfl c_17 (bd_none 2 rfl rfl (fun us hl => match us, hl with | [_, _], _ => by kernel_rfl) (kb_no rfl))
theorem f_18 {K : PySem.W.Frag} {h : Heap} {mg : Str → Option Value} {ms : List (Addr × Addr × Str)} (X : K.In h) (G : h.Ns mainGlobals mg) {f : Addr} {oc kV dc pm cd ct : Value} {od an : Option Addr} {sl : Array (Option Value)} (a : PySem.W.nsIn K mainGlobals "_law_pen" = some (some (.ref f))) (l : K.lookup f = some ⟨oc, od, .func (PySem.W.fnOf "_law_pen" "_law_pen" (defArgs st_18) (defBody st_18) (defScope st_18) .none kV dc pm an cd ct), sl⟩) (c : PySem.W.codeIn K cd "_law_pen" = true) (k : PySem.W.keepIn K (.ref f) = true) : FnHave TT PP K ms mg 18 t_18 :=
  fn_have (st := st_18) X G a l c k rfl rfl c_18 (bd_none 1 rfl rfl (fun us hl => match us, hl with | [_], _ => by kernel_rfl) (kb_no rfl))
theorem f_19 {K : PySem.W.Frag} {h : Heap} {mg : Str → Option Value} {ms : List (Addr × Addr × Str)} (X : K.In h) (G : h.Ns mainGlobals mg) {f : Addr} {oc kV dc pm cd ct : Value} {od an : Option Addr} {sl : Array (Option Value)} (a : PySem.W.nsIn K mainGlobals "_law_draw" = some (some (.ref f))) (l : K.lookup f = some ⟨oc, od, .func (PySem.W.fnOf "_law_draw" "_law_draw" (defArgs st_19) (defBody st_19) (defScope st_19) .none kV dc pm an cd ct), sl⟩) (c : PySem.W.codeIn K cd "_law_draw" = true) (k : PySem.W.keepIn K (.ref f) = true) : FnHave TT PP K ms mg 19 t_19 :=
  fn_have (st := st_19) X G a l c k rfl rfl c_19 (bd_none 2 rfl rfl (fun us hl => match us, hl with | [_, _], _ => by kernel_rfl) (kb_no rfl))
theorem f_20 {K : PySem.W.Frag} {h : Heap} {mg : Str → Option Value} {ms : List (Addr × Addr × Str)} (X : K.In h) (G : h.Ns mainGlobals mg) {f : Addr} {oc kV dc pm cd ct : Value} {od an : Option Addr} {sl : Array (Option Value)} (a : PySem.W.nsIn K mainGlobals "_law_two_right" = some (some (.ref f))) (l : K.lookup f = some ⟨oc, od, .func (PySem.W.fnOf "_law_two_right" "_law_two_right" (defArgs st_20) (defBody st_20) (defScope st_20) .none kV dc pm an cd ct), sl⟩) (c : PySem.W.codeIn K cd "_law_two_right" = true) (k : PySem.W.keepIn K (.ref f) = true) : FnHave TT PP K ms mg 20 t_20 :=
  fn_have (st := st_20) X G a l c k rfl rfl c_20 (bd_none 1 rfl rfl (fun us hl => match us, hl with | [_], _ => by kernel_rfl) (kb_no rfl))
theorem f_21 {K : PySem.W.Frag} {h : Heap} {mg : Str → Option Value} {ms : List (Addr × Addr × Str)} (X : K.In h) (G : h.Ns mainGlobals mg) {f : Addr} {oc kV dc pm cd ct : Value} {od an : Option Addr} {sl : Array (Option Value)} (a : PySem.W.nsIn K mainGlobals "_law_heap_right" = some (some (.ref f))) (l : K.lookup f = some ⟨oc, od, .func (PySem.W.fnOf "_law_heap_right" "_law_heap_right" (defArgs st_21) (defBody st_21) (defScope st_21) .none kV dc pm an cd ct), sl⟩) (c : PySem.W.codeIn K cd "_law_heap_right" = true) (k : PySem.W.keepIn K (.ref f) = true) : FnHave TT PP K ms mg 21 t_21 :=
  fn_have (st := st_21) X G a l c k rfl rfl c_21 (bd_none 1 rfl rfl (fun us hl => match us, hl with | [_], _ => by kernel_rfl) (kb_no rfl))
theorem f_22 {K : PySem.W.Frag} {h : Heap} {mg : Str → Option Value} {ms : List (Addr × Addr × Str)} (X : K.In h) (G : h.Ns mainGlobals mg) {f : Addr} {oc kV dc pm cd ct : Value} {od an : Option Addr} {sl : Array (Option Value)} (a : PySem.W.nsIn K mainGlobals "_law_six_right" = some (some (.ref f))) (l : K.lookup f = some ⟨oc, od, .func (PySem.W.fnOf "_law_six_right" "_law_six_right" (defArgs st_22) (defBody st_22) (defScope st_22) .none kV dc pm an cd ct), sl⟩) (c : PySem.W.codeIn K cd "_law_six_right" = true) (k : PySem.W.keepIn K (.ref f) = true) : FnHave TT PP K ms mg 22 t_22 :=
  fn_have (st := st_22) X G a l c k rfl rfl c_22 (bd_none 0 rfl rfl (fun us hl => match us, hl with | [], _ => by kernel_rfl) (kb_no rfl))
theorem f_23 {K : PySem.W.Frag} {h : Heap} {mg : Str → Option Value} {ms : List (Addr × Addr × Str)} (X : K.In h) (G : h.Ns mainGlobals mg) {f : Addr} {oc kV dc pm cd ct : Value} {od an : Option Addr} {sl : Array (Option Value)} (a : PySem.W.nsIn K mainGlobals "law" = some (some (.ref f))) (l : K.lookup f = some ⟨oc, od, .func (PySem.W.fnOf "law" "law" (defArgs st_23) (defBody st_23) (defScope st_23) .none kV dc pm an cd ct), sl⟩) (c : PySem.W.codeIn K cd "law" = true) (k : PySem.W.keepIn K (.ref f) = true) : FnHave TT PP K ms mg 23 t_23 :=
  fn_have (st := st_23) X G a l c k rfl rfl c_23 (bd_none 1 rfl rfl (fun us hl => match us, hl with | [_], _ => by kernel_rfl) (kb_no rfl))
theorem tchk : tabChk TT = true := by decide +kernel
theorem tab {w : World} {K : PySem.W.Frag} {h : Heap} {mg : Str → Option Value} (X : K.In h) (G : h.Ns mainGlobals mg) {k0 k1 k2 : Tok} (h0 : FnHave TT PP K [] mg 0 t_0) (h1 : FnHave TT PP K [] mg 1 t_1) (h2 : FnHave TT PP K [] mg 2 t_2) (h3 : FnHave TT PP K [] mg 3 t_3) (h4 : FnHave TT PP K [] mg 4 t_4) (h5 : FnHave TT PP K [] mg 5 t_5) (h6 : FnHave TT PP K [] mg 6 t_6) (h7 : FnHave TT PP K [] mg 7 t_7) (h8 : FnHave TT PP K [] mg 8 t_8) (h9 : FnHave TT PP K [] mg 9 t_9) (h10 : FnHave TT PP K [] mg 10 t_10) (h11 : FnHave TT PP K [] mg 11 t_11) (h12 : FnHave TT PP K [] mg 12 t_12) (h13 : FnHave TT PP K [] mg 13 t_13) (h14 : FnHave TT PP K [] mg 14 t_14) (h15 : FnHave TT PP K [] mg 15 t_15) (h16 : FnHave TT PP K [] mg 16 t_16) (h17 : FnHave TT PP K [] mg 17 t_17) (h18 : FnHave TT PP K [] mg 18 t_18) (h19 : FnHave TT PP K [] mg 19 t_19) (h20 : FnHave TT PP K [] mg 20 t_20) (h21 : FnHave TT PP K [] mg 21 t_21) (h22 : FnHave TT PP K [] mg 22 t_22) (h23 : FnHave TT PP K [] mg 23 t_23) (z0 : PySem.W.nsIn K mainGlobals "all" = some none) (z1 : PySem.W.nsIn K mainGlobals "bool" = some none) (z2 : PySem.W.nsIn K mainGlobals "enumerate" = some none) (z3 : PySem.W.nsIn K mainGlobals "int" = some none) (z4 : PySem.W.nsIn K mainGlobals "isinstance" = some none) (z5 : PySem.W.nsIn K mainGlobals "len" = some none) (z6 : PySem.W.nsIn K mainGlobals "list" = some none) (z7 : PySem.W.nsIn K mainGlobals "max" = some none) (z8 : PySem.W.nsIn K mainGlobals "min" = some none) (z9 : PySem.W.nsIn K mainGlobals "range" = some none) (z10 : PySem.W.nsIn K mainGlobals "sum" = some none) (z11 : PySem.W.nsIn K mainGlobals "tuple" = some none) (z12 : PySem.W.nsIn K mainGlobals "zip" = some none) (y0 : PySem.W.nsIn K mainGlobals "MOST_TOKENS" = some (some (.int 6 k0))) (y1 : PySem.W.nsIn K mainGlobals "LONG" = some (some (.int 2 k1))) (y2 : PySem.W.nsIn K mainGlobals "MOST_LEAPS" = some (some (.int 4 k2))) : ∃ cs, TabF TT (GCc TT K cs (fun _ => 0) [] w) PP K [] mg := by
  refine ⟨[], tab_of w _ (fun _ => 0) .nil (fun z => nomatch z) (fun z => nomatch z) tchk ⟨fun _ => h0, fun _ => h1, fun _ => h2, fun _ => h3, fun _ => h4, fun _ => h5, fun _ => h6, fun _ => h7, fun _ => h8, fun _ => h9, fun _ => h10, fun _ => h11, fun _ => h12, fun _ => h13, fun _ => h14, fun _ => h15, fun _ => h16, fun _ => h17, fun _ => h18, fun _ => h19, fun _ => h20, fun _ => h21, fun _ => h22, fun _ => h23, trivial⟩ rfl ?_ ?_ ?_⟩
  · intro c x e
    match c, e with
    | n + 0, e => cases e
  · intro x e
    rw [List.contains_iff_mem] at e
    exact (show ∀ x, x ∈ TT.blt → mg x = none from List.forall_mem_cons.mpr ⟨PySem.W.mg_none_of X G z0, List.forall_mem_cons.mpr ⟨PySem.W.mg_none_of X G z1, List.forall_mem_cons.mpr ⟨PySem.W.mg_none_of X G z2, List.forall_mem_cons.mpr ⟨PySem.W.mg_none_of X G z3, List.forall_mem_cons.mpr ⟨PySem.W.mg_none_of X G z4, List.forall_mem_cons.mpr ⟨PySem.W.mg_none_of X G z5, List.forall_mem_cons.mpr ⟨PySem.W.mg_none_of X G z6, List.forall_mem_cons.mpr ⟨PySem.W.mg_none_of X G z7, List.forall_mem_cons.mpr ⟨PySem.W.mg_none_of X G z8, List.forall_mem_cons.mpr ⟨PySem.W.mg_none_of X G z9, List.forall_mem_cons.mpr ⟨PySem.W.mg_none_of X G z10, List.forall_mem_cons.mpr ⟨PySem.W.mg_none_of X G z11, List.forall_mem_cons.mpr ⟨PySem.W.mg_none_of X G z12, fun _ z => nomatch z⟩⟩⟩⟩⟩⟩⟩⟩⟩⟩⟩⟩⟩) x e
  · intro i x d e
    match i, e with
    | 0, e => cases e; exact ⟨.int 6, _, PySem.W.mg_of X G y0, ⟨_, rfl⟩, fun _ _ => .int _⟩
    | 1, e => cases e; exact ⟨.int 2, _, PySem.W.mg_of X G y1, ⟨_, rfl⟩, fun _ _ => .int _⟩
    | 2, e => cases e; exact ⟨.int 4, _, PySem.W.mg_of X G y2, ⟨_, rfl⟩, fun _ _ => .int _⟩
    | n + 3, e => cases e
/-- the law by the small evaluator -/
theorem fin {P : Program} {w : World} {K : PySem.W.Frag} {h : Heap} {mg : Str → Option Value} {fa : Addr} (X : K.In h) (G : h.Ns mainGlobals mg) (hfa : mg "law" = some (.ref fa)) {k0 k1 k2 : Tok} (h0 : FnHave TT PP K [] mg 0 t_0) (h1 : FnHave TT PP K [] mg 1 t_1) (h2 : FnHave TT PP K [] mg 2 t_2) (h3 : FnHave TT PP K [] mg 3 t_3) (h4 : FnHave TT PP K [] mg 4 t_4) (h5 : FnHave TT PP K [] mg 5 t_5) (h6 : FnHave TT PP K [] mg 6 t_6) (h7 : FnHave TT PP K [] mg 7 t_7) (h8 : FnHave TT PP K [] mg 8 t_8) (h9 : FnHave TT PP K [] mg 9 t_9) (h10 : FnHave TT PP K [] mg 10 t_10) (h11 : FnHave TT PP K [] mg 11 t_11) (h12 : FnHave TT PP K [] mg 12 t_12) (h13 : FnHave TT PP K [] mg 13 t_13) (h14 : FnHave TT PP K [] mg 14 t_14) (h15 : FnHave TT PP K [] mg 15 t_15) (h16 : FnHave TT PP K [] mg 16 t_16) (h17 : FnHave TT PP K [] mg 17 t_17) (h18 : FnHave TT PP K [] mg 18 t_18) (h19 : FnHave TT PP K [] mg 19 t_19) (h20 : FnHave TT PP K [] mg 20 t_20) (h21 : FnHave TT PP K [] mg 21 t_21) (h22 : FnHave TT PP K [] mg 22 t_22) (h23 : FnHave TT PP K [] mg 23 t_23) (z0 : PySem.W.nsIn K mainGlobals "all" = some none) (z1 : PySem.W.nsIn K mainGlobals "bool" = some none) (z2 : PySem.W.nsIn K mainGlobals "enumerate" = some none) (z3 : PySem.W.nsIn K mainGlobals "int" = some none) (z4 : PySem.W.nsIn K mainGlobals "isinstance" = some none) (z5 : PySem.W.nsIn K mainGlobals "len" = some none) (z6 : PySem.W.nsIn K mainGlobals "list" = some none) (z7 : PySem.W.nsIn K mainGlobals "max" = some none) (z8 : PySem.W.nsIn K mainGlobals "min" = some none) (z9 : PySem.W.nsIn K mainGlobals "range" = some none) (z10 : PySem.W.nsIn K mainGlobals "sum" = some none) (z11 : PySem.W.nsIn K mainGlobals "tuple" = some none) (z12 : PySem.W.nsIn K mainGlobals "zip" = some none) (y0 : PySem.W.nsIn K mainGlobals "MOST_TOKENS" = some (some (.int 6 k0))) (y1 : PySem.W.nsIn K mainGlobals "LONG" = some (some (.int 2 k1))) (y2 : PySem.W.nsIn K mainGlobals "MOST_LEAPS" = some (some (.int 4 k2))) :
    ∃ (ms : List (Addr × Addr × Str)) (fd : FuncData), (∀ y ∈ ms, h.get? y.2.1 = some { cls := .none, data := .fields #[] }) ∧ (∀ y ∈ ms, K.lookup y.2.1 = none) ∧ (∀ y ∈ ms, PySem.W.CodeHd h y.1 y.2.1) ∧ (∀ (s : Shared) (u : Value), K.In s.heap → BindsTo s fd ⟨[u], []⟩ [("_law_script", u)]) ∧ ∀ base : Heap, K.In base → base.Ns mainGlobals mg → Sys base → (∀ y ∈ ms, LamX.TabB base mg y.1 y.2.1) → FnG P w K mg base (L2.CX P w) (4 * 12) fa fd 1 ["_law_script"] (spScr (ms.map fun x => (x.2.1, lamN x.2.2))) := by
  obtain ⟨cs, D⟩ := tab (w := w) X G h0 h1 h2 h3 h4 h5 h6 h7 h8 h9 h10 h11 h12 h13 h14 h15 h16 h17 h18 h19 h20 h21 h22 h23 z0 z1 z2 z3 z4 z5 z6 z7 z8 z9 z10 z11 z12 y0 y1 y2
  obtain ⟨fd, hb, hF⟩ := law_of (M := none) (P := P) (w := w) (base := h) (fa := fa) (li := 23) (lv := 12) (t := t_23) (x := "_law_script") D rfl rfl rfl rfl rfl hfa
  exact ⟨[], fd, (fun _ z => nomatch z), (fun _ z => nomatch z), (fun _ z => nomatch z), hb, fun base X G Y Z => (hF base X G Y Z).imp (script_imp (G := GCc TT K cs (fun _ => 0) [] w) fun ns _ => law_ok ns)⟩
end IP
open PySem PySem.W PyProof.Rows
set_option maxRecDepth 100000 in
set_option maxHeartbeats 0 in
theorem PySem.Challenge.cw_overleaps_k41_fewest_by_hand_and_by_name_holds : PySem.Challenge.rw_overleaps_k41_fewest_by_hand_and_by_name.Holds := by
  w_on; o_law; k_head; (case hw => w_witness2)
  k_fill
  refine IP.walk_scr (l := PySem.Challenge.rw_overleaps_k41_fewest_by_hand_and_by_name) (k := 4 * 12) (x := "_law_script") (by kernel_rfl) rfl rfl ⟨rfl, by decide, by decide⟩ (fun w h Y => PySem.W.kIn_of Y) ?F ?nl
  (case nl => intro P; kernel_rfl)
  case F =>
    intro w mg fa h Y KX G hmg
    refine' IP.fin KX G hmg ?h0 ?h1 ?h2 ?h3 ?h4 ?h5 ?h6 ?h7 ?h8 ?h9 ?h10 ?h11 ?h12 ?h13 ?h14 ?h15 ?h16 ?h17 ?h18 ?h19 ?h20 ?h21 ?h22 ?h23 ?z0 ?z1 ?z2 ?z3 ?z4 ?z5 ?z6 ?z7 ?z8 ?z9 ?z10 ?z11 ?z12 ?y0 ?y1 ?y2
    (case h0 => refine' IP.f_0 KX G ?a ?l ?c ?k; (case a => k_is); (case l => k_is); (case c => k_is); (case k => k_is))
    (case h1 => refine' IP.f_1 KX G ?a ?l ?c ?k; (case a => k_is); (case l => k_is); (case c => k_is); (case k => k_is))
    (case h2 => refine' IP.f_2 KX G ?a ?l ?c ?k; (case a => k_is); (case l => k_is); (case c => k_is); (case k => k_is))
    (case h3 => refine' IP.f_3 KX G ?a ?l ?c ?k; (case a => k_is); (case l => k_is); (case c => k_is); (case k => k_is))
    (case h4 => refine' IP.f_4 KX G ?a ?l ?c ?k; (case a => k_is); (case l => k_is); (case c => k_is); (case k => k_is))
    (case h5 => refine' IP.f_5 KX G ?a ?l ?c ?k; (case a => k_is); (case l => k_is); (case c => k_is); (case k => k_is))
    (case h6 => refine' IP.f_6 KX G ?a ?l ?c ?k; (case a => k_is); (case l => k_is); (case c => k_is); (case k => k_is))
    (case h7 => refine' IP.f_7 KX G ?a ?l ?c ?k; (case a => k_is); (case l => k_is); (case c => k_is); (case k => k_is))
    (case h8 => refine' IP.f_8 KX G ?a ?l ?c ?k; (case a => k_is); (case l => k_is); (case c => k_is); (case k => k_is))
    (case h9 => refine' IP.f_9 KX G ?a ?l ?c ?k; (case a => k_is); (case l => k_is); (case c => k_is); (case k => k_is))
    (case h10 => refine' IP.f_10 KX G ?a ?l ?c ?k; (case a => k_is); (case l => k_is); (case c => k_is); (case k => k_is))
    (case h11 => refine' IP.f_11 KX G ?a ?l ?c ?k; (case a => k_is); (case l => k_is); (case c => k_is); (case k => k_is))
    (case h12 => refine' IP.f_12 KX G ?a ?l ?c ?k; (case a => k_is); (case l => k_is); (case c => k_is); (case k => k_is))
    (case h13 => refine' IP.f_13 KX G ?a ?l ?c ?k; (case a => k_is); (case l => k_is); (case c => k_is); (case k => k_is))
    (case h14 => refine' IP.f_14 KX G ?a ?l ?c ?k; (case a => k_is); (case l => k_is); (case c => k_is); (case k => k_is))
    (case h15 => refine' IP.f_15 KX G ?a ?l ?c ?k; (case a => k_is); (case l => k_is); (case c => k_is); (case k => k_is))
    (case h16 => refine' IP.f_16 KX G ?a ?l ?c ?k; (case a => k_is); (case l => k_is); (case c => k_is); (case k => k_is))
    (case h17 => refine' IP.f_17 KX G ?a ?l ?c ?k; (case a => k_is); (case l => k_is); (case c => k_is); (case k => k_is))
    (case h18 => refine' IP.f_18 KX G ?a ?l ?c ?k; (case a => k_is); (case l => k_is); (case c => k_is); (case k => k_is))
    (case h19 => refine' IP.f_19 KX G ?a ?l ?c ?k; (case a => k_is); (case l => k_is); (case c => k_is); (case k => k_is))
    (case h20 => refine' IP.f_20 KX G ?a ?l ?c ?k; (case a => k_is); (case l => k_is); (case c => k_is); (case k => k_is))
    (case h21 => refine' IP.f_21 KX G ?a ?l ?c ?k; (case a => k_is); (case l => k_is); (case c => k_is); (case k => k_is))
    (case h22 => refine' IP.f_22 KX G ?a ?l ?c ?k; (case a => k_is); (case l => k_is); (case c => k_is); (case k => k_is))
    (case h23 => refine' IP.f_23 KX G ?a ?l ?c ?k; (case a => k_is); (case l => k_is); (case c => k_is); (case k => k_is))
    (case z0 => k_is)
    (case z1 => k_is)
    (case z2 => k_is)
    (case z3 => k_is)
    (case z4 => k_is)
    (case z5 => k_is)
    (case z6 => k_is)
    (case z7 => k_is)
    (case z8 => k_is)
    (case z9 => k_is)
    (case z10 => k_is)
    (case z11 => k_is)
    (case z12 => k_is)
    (case y0 => k_is)
    (case y1 => k_is)
    (case y2 => k_is)
