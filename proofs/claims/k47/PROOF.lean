import PyProof.Rows.All
import Wide.All
import OpenK.AllK
import Wide.FinOn
import HandS.ForMost
import HandS.Conv
import HandS.TupAny
import HandS.Style
import HandS.SortInts
import HandS.IsInst
import HandS.Deep
import HandS.SuiteRaise
import HandS.ExcCtx
import HandS.HotCalls
import HandS.CallSlots
import HandS.Evl
import HandS.TupLen
import HandS.SortKw
import HandS.ExcInit
import HandS.ExcInitHot
import KE.KDictKeyed
import KE.KDictList
import KE.DataMinMax
import PySem.Challenge.RW_wardens_k47_whole_monitor_is_the_judge
set_option Elab.async false
set_option linter.all false
set_option maxRecDepth 100000
set_option maxHeartbeats 4000000
/-! A1: the data of a run, the slots of a frame, and what expressions and statements do to them: plain Lean, no heap. -/
namespace Wd
open PySem PySem.Spec PyProof.Rows L2

/-- data: .dict stands for a locked list (the script), its items the keys -/
abbrev D := PyData

mutual
def keyN : D → Option NestedKey
  | .none => some .none
  | .bool b => some (.num (if b = true then 1 else 0))
  | .int i => some (.num i)
  | .str s => some (.text s)
  | .tuple ds => (keyNs ds).map .tup
  | .list _ => none
  | .dict _ => none
def keyNs : List D → Option (List NestedKey)
  | [] => some []
  | d :: r => (keyN d).bind fun k => (keyNs r).map fun ks => k :: ks
end
/-- the key that a datum is: of a flat dict an int or a text, of a dict of tuples a tuple -/
def keyOf (tp : Bool) (d : D) : Option NestedKey :=
  match tp, d with
  | false, .int i => some (.num i)
  | false, .str s => some (.text s)
  | true, .tuple ds => (keyNs ds).bind fun ks => if (NestedKey.tup ks).depth ≤ 8 then some (.tup ks) else none
  | _, _ => none
abbrev Kvs := List (NestedKey × D)
def dlook (kvs : Kvs) (k : NestedKey) : Option D := (kvs.find? fun p => decide (p.1 = k)).map (·.2)
def dput (kvs : Kvs) (k : NestedKey) (d : D) : Kvs :=
  if (dlook kvs k).isSome = true then kvs.map fun p => if p.1 = k then (p.1, d) else p else kvs ++ [(k, d)]
/-- the datum of a flat key -/
def unkey : NestedKey → D
  | .num i => .int i
  | .text s => .str s
  | _ => .none

inductive Own where
  | lst (ds : List D)
  | dct (tp : Bool) (kvs : Kvs)
inductive Slot where
  | un
  | im (d : D)
  | ow (l : Addr) (o : Own)
abbrev Gm := List Slot
inductive Out where
  | nx (G : Gm) | rt (d : D) (G : Gm) | bk (G : Gm) | ct (G : Gm) | ex (G : Gm)
/-- an expression, a test, an argument list, what is walked, a statement -/
abbrev Sm := Gm → (D → Gm → Prop) → (Gm → Prop) → Prop
abbrev Tm := Gm → (Bool → Gm → Prop) → (Gm → Prop) → Prop
abbrev Am := Gm → (List D → Gm → Prop) → (Gm → Prop) → Prop
abbrev Im := Gm → (List D → (Gm → Prop) → Gm → Prop) → (Gm → Prop) → Prop
abbrev Om := Gm → (Option Int → Gm → Prop) → (Gm → Prop) → Prop
abbrev Ss := Gm → (Out → Prop) → Prop

/-! ### expressions -/
def eVar (i : Nat) : Sm := fun G P _ =>
  match G[i]? with
  | some (.im d) => P d G
  | some (.ow _ (.lst ds)) => P (.list ds) (G.set i (.im (.list ds)))
  | _ => False
def eC (d : D) : Sm := fun G P _ => P d G
def opB : Operator → D → D → (D → Prop) → Prop
  | .Add, .int i, .int j, k => k (.int (i + j))
  | .Add, .str s, .str t, k => s.length + t.length ≤ 100000 ∧ k (.str (s ++ t))
  | .Add, .tuple a, .tuple b, k => a.length + b.length ≤ 1000000 ∧ k (.tuple (a ++ b))
  | .Add, .list a, .list b, k => a.length + b.length ≤ 1000000 ∧ k (.list (a ++ b))
  | .Sub, .int i, .int j, k => k (.int (i - j))
  | .Mult, .int i, .int j, k => CMul i j ∧ k (.int (i * j))
  | .Mult, .list a, .int j, k => (0 ≤ j ∧ j ≤ 1000 ∧ a.length ≤ 1000) ∧ k (.list (List.replicate j.toNat a).flatten)
  | .Mod, .int i, .int j, k => 0 < j ∧ k (.int (i % j))
  | .FloorDiv, .int i, .int j, k => CDiv i j ∧ k (.int (i / j))
  | .Pow, .int i, .int j, k => CPow i j ∧ k (.int (i ^ j.toNat))
  | _, _, _, _ => False
def eBin (op : Operator) (a b : Sm) : Sm := fun G P E => a G (fun x G1 => b G1 (fun y G2 => opB op x y fun d => P d G2) E) E
def eNeg (a : Sm) : Sm := fun G P E => a G (fun x G1 => match x with | .int i => P (.int (-i)) G1 | _ => False) E
/-- not, and, or as values: truth values all -/
def eNot (a : Sm) : Sm := fun G P E => a G (fun x G1 => match x with | .bool b => P (.bool (!b)) G1 | _ => False) E
def eAnd (a b : Sm) : Sm := fun G P E => a G (fun x G1 => match x with | .bool true => b G1 P E | .bool false => P (.bool false) G1 | _ => False) E
def eOr (a b : Sm) : Sm := fun G P E => a G (fun x G1 => match x with | .bool false => b G1 P E | .bool true => P (.bool true) G1 | _ => False) E
def isNon : D → Bool
  | .none => true
  | _ => false
def cmpB : CmpOp → D → D → (Bool → Prop) → Prop
  | .Eq, .int i, .int j, k => k (decide (i = j))
  | .Eq, .str i, .str j, k => k (decide (i = j))
  | .Eq, .bool i, .bool j, k => k (decide (i = j))
  | .Eq, .list a, .list b, k => (SeqAt.shaped (.list a) = true ∧ SeqAt.shaped (.list b) = true) ∧ k (PyData.eqv (.list a) (.list b))
  | .NotEq, .int i, .int j, k => k (!decide (i = j))
  | .NotEq, .str i, .str j, k => k (!decide (i = j))
  | .Lt, .int i, .int j, k => k (decide (i < j))
  | .LtE, .int i, .int j, k => k (decide (i ≤ j))
  | .Gt, .int i, .int j, k => k (decide (j < i))
  | .GtE, .int i, .int j, k => k (decide (j ≤ i))
  | .Is, x, .none, k => k (isNon x)
  | _, _, _, _ => False
def tCmp (op : CmpOp) (a b : Sm) : Tm := fun G P E => a G (fun x G1 => b G1 (fun y G2 => cmpB op x y fun c => P c G2) E) E
/-- x not in s, s the i-th slot: a dict or a list that is being made -/
def tNin (a : Sm) (i : Nat) : Tm := fun G P E => a G (fun x G1 =>
  match G1[i]? with
  | some (.ow _ (.dct tp kvs)) => (match keyOf tp x with | some k => P (!(dlook kvs k).isSome) G1 | none => False)
  | some (.ow _ (.lst ds)) => (SeqAt.shaped x = true ∧ SeqAt.shaped (.list ds) = true) ∧ P (!ds.any fun z => PyData.eqv z x) G1
  | _ => False) E
/-- a test as a value; a value as a test -/
def eT (t : Tm) : Sm := fun G P E => t G (fun b G1 => P (.bool b) G1) E
def tV (a : Sm) : Tm := fun G P E => a G (fun x G1 => match x with | .bool b => P b G1 | _ => False) E
def tAndM (t u : Tm) : Tm := fun G P E => t G (fun b G1 => if b = true then u G1 P E else P false G1) E
def tOrM (t u : Tm) : Tm := fun G P E => t G (fun b G1 => if b = true then P true G1 else u G1 P E) E
def tNotM (t : Tm) : Tm := fun G P E => t G (fun b G1 => P (!b) G1) E
def eIf (t : Tm) (a b : Sm) : Sm := fun G P E => t G (fun c G1 => if c = true then a G1 P E else b G1 P E) E
/-- items -/
def ixD : D → D → (D → Prop) → Prop
  | .tuple ds, .int i, k => (match atI ds i with | some d => k d | none => False)
  | .list ds, .int i, k => (match atI ds i with | some d => k d | none => False)
  | .dict kvs, .int i, k => (match atI (kvs.map (·.1)) i with | some d => k d | none => False)
  | _, _, _ => False
def eIx (a b : Sm) : Sm := fun G P E => a G (fun x G1 => b G1 (fun y G2 => ixD x y fun d => P d G2) E) E
/-- s[e], s the i-th slot -/
def eIxN (i : Nat) (b : Sm) : Sm := fun G P E => (∃ s, G[i]? = some s ∧ s ≠ .un) ∧ b G (fun y G1 =>
  match G1[i]? with
  | some (.im x) => ixD x y fun d => P d G1
  | some (.ow _ (.lst ds)) => ixD (.list ds) y fun d => P d G1
  | some (.ow _ (.dct tp kvs)) => (match keyOf tp y with | some k => (match dlook kvs k with | some d => P d G1 | none => False) | none => False)
  | _ => False) E
def oNone : Om := fun G P _ => P none G
def oSome (a : Sm) : Om := fun G P E => a G (fun x G1 => match x with | .int i => P (some i) G1 | _ => False) E
def cutD (xs : List D) (lo hi : Option Int) : List D := (xs.drop (HT.sIx xs.length 0 lo)).take (HT.sIx xs.length xs.length hi - HT.sIx xs.length 0 lo)
def slD : D → Option Int → Option Int → (D → Prop) → Prop
  | .tuple ds, lo, hi, k => k (.tuple (cutD ds lo hi))
  | .list ds, lo, hi, k => k (.list (cutD ds lo hi))
  | .str s, lo, hi, k => s.length ≤ 100000 ∧ k (.str (cutS s lo hi))
  | _, _, _, _ => False
def eSl (a : Sm) (lo hi : Om) : Sm := fun G P E => a G (fun x G1 => lo G1 (fun l G2 => hi G2 (fun h G3 => slD x l h fun d => P d G3) E) E) E
/-- e[::-1] -/
def eRev (a : Sm) : Sm := fun G P E => a G (fun x G1 => match x with | .list ds => P (.list ds.reverse) G1 | _ => False) E
/-- arguments -/
def aNil : Am := fun G P _ => P [] G
def aCons (a : Sm) (r : Am) : Am := fun G P E => a G (fun x G1 => r G1 (fun xs G2 => P (x :: xs) G2) E) E
def eTup (as : Am) : Sm := fun G P E => as G (fun xs G1 => xs.length ≤ 1000000 ∧ P (.tuple xs) G1) E
def eLst (as : Am) : Sm := fun G P E => as G (fun xs G1 => xs.length ≤ 1000000 ∧ P (.list xs) G1) E
/-- built-ins -/
def lenD : D → (Int → Prop) → Prop
  | .list ds, k => k ds.length
  | .tuple ds, k => k ds.length
  | .dict kvs, k => k kvs.length
  | _, _ => False
def eLen (a : Sm) : Sm := fun G P E => a G (fun x G1 => lenD x fun n => P (.int n) G1) E
def eLenN (i : Nat) : Sm := fun G P _ =>
  match G[i]? with
  | some (.im x) => lenD x fun n => P (.int n) G
  | some (.ow _ (.lst ds)) => P (.int ds.length) G
  | some (.ow _ (.dct _ kvs)) => kvs.length ≤ 1000000 ∧ P (.int kvs.length) G
  | _ => False
def eTuple (a : Sm) : Sm := fun G P E => a G (fun x G1 => match x with | .list ds => P (.tuple ds) G1 | .tuple ds => P (.tuple ds) G1 | _ => False) E
def eTupleN (i : Nat) : Sm := fun G P _ =>
  match G[i]? with
  | some (.im (.list ds)) => P (.tuple ds) G
  | some (.im (.tuple ds)) => P (.tuple ds) G
  | some (.ow _ (.lst ds)) => P (.tuple ds) G
  | _ => False
/-- list(x) of a list, a tuple; of the keys of a flat dict -/
def eList (a : Sm) : Sm := fun G P E => a G (fun x G1 => match x with | .list ds => P (.list ds) G1 | .tuple ds => P (.list ds) G1 | _ => False) E
def eKeysN (i : Nat) : Sm := fun G P _ =>
  match G[i]? with
  | some (.ow _ (.dct false kvs)) => P (.list (kvs.map fun p => unkey p.1)) G
  | _ => False
def rgD (a b : Int) : List D := (List.range (b - a).toNat).map fun i => .int (a + (i : Nat))
def eListR (a b : Sm) : Sm := fun G P E => a G (fun x G1 => b G1 (fun y G2 => match x, y with | .int i, .int j => RgOk i j ∧ P (.list (rgD i j)) G2 | _, _ => False) E) E
def eTupR (b : Sm) : Sm := fun G P E => b G (fun y G2 => match y with | .int j => RgOk 0 j ∧ P (.tuple (rgD 0 j)) G2 | _ => False) E
def intsOf : List D → Option (List Int)
  | [] => some []
  | .int i :: r => (intsOf r).map (i :: ·)
  | _ :: _ => none
def eSum (a : Sm) : Sm := fun G P E => a G (fun x G1 => match x with | .list ds => (match intsOf ds with | some ns => P (.int ns.sum) G1 | none => False) | _ => False) E
def eMax2 (a b : Sm) : Sm := fun G P E => a G (fun x G1 => b G1 (fun y G2 => match x, y with | .int i, .int j => P (.int (if j > i then j else i)) G2 | _, _ => False) E) E
def eMin2 (a b : Sm) : Sm := fun G P E => a G (fun x G1 => b G1 (fun y G2 => match x, y with | .int i, .int j => P (.int (if j < i then j else i)) G2 | _, _ => False) E) E
/-- max(x, default=0): a greatest one of a list of ints, or 0 -/
def eMaxD (a : Sm) : Sm := fun G P E => a G (fun x G1 => match x with
  | .list ds => (match intsOf ds with | some ns => (ns = [] → P (.int 0) G1) ∧ ∀ m, m ∈ ns → (∀ y, y ∈ ns → y ≤ m) → P (.int m) G1 | none => False)
  | _ => False) E
def eInt (a : Sm) : Sm := fun G P E => a G (fun x G1 => match x with | .bool b => P (.int (if b = true then 1 else 0)) G1 | _ => False) E
def eAbs (a : Sm) : Sm := fun G P E => a G (fun x G1 => match x with | .int i => P (.int (if i < 0 then -i else i)) G1 | _ => False) E
/-- str(n): some text of at most twenty signs -/
def eStrI (a : Sm) : Sm := fun G P E => a G (fun x G1 => match x with | .int i => (0 ≤ i ∧ i ≤ 1000) ∧ ∀ t : Str, t.length ≤ 20 → P (.str t) G1 | _ => False) E
def eSorted (a : Sm) : Sm := fun G P E => a G (fun x G1 => match x with | .list ds => (match intsOf ds with | some ns => ∀ ns' : List Int, ns'.Perm ns → ns'.Pairwise (· ≤ ·) → P (.list (ns'.map .int)) G1 | none => False) | _ => False) E
/-- isinstance(x, T) of None, a bool, an int, a text -/
inductive Ty3 where
  | b | i | s
def instB : Ty3 → D → (Bool → Prop) → Prop
  | .b, .bool _, k => k true
  | .b, .int _, k => k false
  | .b, .str _, k => k false
  | .i, .bool _, k => k true
  | .i, .int _, k => k true
  | .i, .str _, k => k false
  | .s, .bool _, k => k false
  | .s, .int _, k => k false
  | .s, .str _, k => k true
  | _, _, _ => False
def eInst (a : Sm) (T : Ty3) : Sm := fun G P E => a G (fun x G1 => instB T x fun b => P (.bool b) G1) E
/-- a def's promise on data: its arguments, what is wanted of its value, what is wanted where it raises TooMany -/
abbrev FSp := List D → (D → Prop) → Prop → Prop
def eCall (sp : FSp) (as : Am) : Sm := fun G P E => as G (fun xs G1 => sp xs (fun d => P d G1) (E G1)) E
/-- number_of(e, pairs, numbers): the slots i and j -/
def eNum (a : Sm) (i j : Nat) : Sm := fun G P E => a G (fun x G1 =>
  match G1[i]?, G1[j]? with
  | some (.ow l (.lst ds)), some (.ow m (.dct true kvs)) =>
    (match keyOf true x with
    | some k => (match dlook kvs k with
      | some v => (ds.length ≤ 1000000 ∧ kvs.length ≤ 1000000) ∧ P v G1
      | none => (ds.length ≤ 1000000 ∧ kvs.length ≤ 1000000) ∧ P (.int ds.length) ((G1.set i (.ow l (.lst (ds ++ [x])))).set j (.ow m (.dct true (dput kvs k (.int ds.length))))))
    | none => False)
  | _, _ => False) E

/-! ### what is walked -/
def iOver (a : Sm) : Im := fun G P E => a G (fun x G1 => match x with | .list ds => P ds (fun _ => True) G1 | .tuple ds => P ds (fun _ => True) G1 | _ => False) E
def iName (i : Nat) : Im := fun G P _ =>
  match G[i]? with
  | some (.im (.list ds)) => P ds (fun _ => True) G
  | some (.im (.tuple ds)) => P ds (fun _ => True) G
  | some (.ow l (.lst ds)) => P ds (fun G' => G'[i]? = some (.ow l (.lst ds))) G
  | _ => False
def iR1 (a : Sm) : Im := fun G P E => a G (fun x G1 => match x with | .int n => (-(2 ^ 62) ≤ n ∧ n < 2 ^ 62) ∧ P (rgD 0 n) (fun _ => True) G1 | _ => False) E
def iR2 (a b : Sm) : Im := fun G P E => a G (fun x G1 => b G1 (fun y G2 => match x, y with
  | .int i, .int j => (-(2 ^ 62) ≤ i ∧ i < 2 ^ 62 ∧ -(2 ^ 62) ≤ j ∧ j < 2 ^ 62) ∧ P (rgD i j) (fun _ => True) G2
  | _, _ => False) E) E

/-! ### comprehensions: own: the block's own slots, forgotten within -/
def wipeG (G : Gm) : List Nat → Gm
  | [] => G
  | v :: vs => (wipeG G vs).set v .un
/-- a target: one name, or names for a tuple's items -/
inductive Tg where
  | one (j : Nat)
  | many (js : List Nat)
def setMany (G : Gm) : List Nat → List D → Option Gm
  | [], [] => some G
  | j :: js, d :: ds => setMany (G.set j (.im d)) js ds
  | _, _ => none
def setTg (G : Gm) (d : D) : Tg → Option Gm
  | .one j => some (G.set j (.im d))
  | .many js => match d with
    | .tuple ds => setMany G js ds
    | _ => none
/-- none of these slots owns -/
def noOw (G : Gm) (own : List Nat) : Bool := own.all fun j => match G[j]? with
  | some (.ow _ _) => false
  | _ => true
def eLc (elt : Sm) (tg : Tg) (it : Im) (cond : Tm) (own : List Nat) : Sm := fun G P E => it G (fun ds stay G1 =>
  noOw G1 own = true ∧ stay (wipeG G1 own) ∧ ds.length ≤ 1000000 ∧ ∃ I : Nat → List D → Prop, I 0 [] ∧
    (∀ k d acc, ds[k]? = some d → I k acc → acc.length ≤ k → ∃ Gb, setTg (wipeG G1 own) d tg = some Gb ∧
      cond Gb (fun c G2 => G2 = Gb ∧ if c = true then elt Gb (fun r G3 => G3 = Gb ∧ I (k + 1) (acc ++ [r])) (fun _ => False) else I (k + 1) acc) (fun _ => False)) ∧
    ∀ acc, acc.length ≤ ds.length → I ds.length acc → P (.list acc) G1) E
def tTrue : Tm := fun G P _ => P true G
/-- two clauses, the second one's source read in the block -/
def eLc2 (elt : Sm) (j : Nat) (it : Im) (j2 : Nat) (it2 : Im) (own : List Nat) : Sm := fun G P E => it G (fun ds stay G1 =>
  noOw G1 own = true ∧ stay (wipeG G1 own) ∧ ∃ I : Nat → List D → Prop, I 0 [] ∧
    (∀ k d acc, ds[k]? = some d → I k acc →
      it2 ((wipeG G1 own).set j (.im d)) (fun es stay2 G2 => G2 = (wipeG G1 own).set j (.im d) ∧ stay2 (G2.set j2 .un) ∧ ∃ L : Nat → List D → Prop, L 0 acc ∧
        (∀ m e acc2, es[m]? = some e → L m acc2 → acc2.length < 1000000 ∧ elt (G2.set j2 (.im e)) (fun r G3 => G3 = G2.set j2 (.im e) ∧ L (m + 1) (acc2 ++ [r])) (fun _ => False)) ∧
        ∀ acc2, L es.length acc2 → I (k + 1) acc2) (fun _ => False)) ∧
    ∀ acc, I ds.length acc → P (.list acc) G1) E

/-! ### statements -/
def sNop : Ss := fun G P => P (.nx G)
def sSeq (a b : Ss) : Ss := fun G P => a G fun o => match o with | .nx G1 => b G1 P | o => P o
def sAsg (j : Nat) (e : Sm) : Ss := fun G P => e G (fun d G1 => P (.nx (G1.set j (.im d)))) (fun G1 => P (.ex G1))
/-- a new list at a name: being made, or done -/
def sAsgL (j : Nat) (e : Sm) : Ss := fun G P =>
  e G (fun d G1 => match d with | .list ds => ∀ l, P (.nx (G1.set j (.ow l (.lst ds)))) | _ => False) (fun G1 => P (.ex G1)) ∨ sAsg j e G P
def sNewD (j : Nat) : Ss := fun G P => ∃ tp : Bool, ∀ l, P (.nx (G.set j (.ow l (.dct tp []))))
def sNewD1 (j : Nat) (a b : Sm) : Ss := fun G P => a G (fun x G1 => b G1 (fun y G2 => match keyOf false x with | some k => ∀ l, P (.nx (G2.set j (.ow l (.dct false [(k, y)])))) | none => False) (fun _ => False)) (fun _ => False)
/-- s[k] = v, s the i-th slot -/
def sPut (i : Nat) (k v : Sm) : Ss := fun G P => v G (fun y G1 => (∃ s, G1[i]? = some s ∧ s ≠ .un) ∧ k G1 (fun x G2 =>
  match G2[i]? with
  | some (.ow l (.dct tp kvs)) => (match keyOf tp x with | some q => kvs.length ≤ 1000000 ∧ P (.nx (G2.set i (.ow l (.dct tp (dput kvs q y))))) | none => False)
  | some (.ow l (.lst ds)) => (match x with | .int z => (match ixN ds.length z with | some m => P (.nx (G2.set i (.ow l (.lst (ds.set m y))))) | none => False) | _ => False)
  | _ => False) (fun G' => P (.ex G'))) (fun G' => P (.ex G'))
/-- s.append(e) -/
def sApp (i : Nat) (e : Sm) : Ss := fun G P => (∃ l ds, G[i]? = some (.ow l (.lst ds))) ∧ e G (fun y G1 =>
  match G1[i]? with
  | some (.ow l (.lst ds)) => ds.length ≤ 1000000 ∧ P (.nx (G1.set i (.ow l (.lst (ds ++ [y])))))
  | _ => False) (fun G' => P (.ex G'))
def sAug (i : Nat) (e : Sm) : Ss := fun G P => (∃ n : Int, G[i]? = some (.im (.int n)) ∧ e G (fun y G1 => match y with | .int z => P (.nx (G1.set i (.im (.int (n + z))))) | _ => False) (fun G' => P (.ex G')))
/-- a, b = e -/
def sUnp (js : List Nat) (e : Sm) : Ss := fun G P => e G (fun d G1 => match setTg G1 d (.many js) with | some G2 => P (.nx G2) | none => False) (fun G' => P (.ex G'))
def sIf (t : Tm) (a b : Ss) : Ss := fun G P => t G (fun c G1 => if c = true then a G1 P else b G1 P) (fun G' => P (.ex G'))
def sRet (e : Sm) : Ss := fun G P => e G (fun d G1 => P (.rt d G1)) (fun G' => P (.ex G'))
def sRaise : Ss := fun G P => P (.ex G)
def loopO (I : Gm → Prop) (P : Out → Prop) : Out → Prop
  | .nx G => I G
  | .ct G => I G
  | .bk G => P (.nx G)
  | .rt d G => P (.rt d G)
  | .ex G => P (.ex G)
def sFor (j : Nat) (it : Im) (body : Ss) : Ss := fun G P => it G (fun ds stay G1 => ∃ I : Nat → Gm → Prop, I 0 G1 ∧ (∀ k G', k ≤ ds.length → I k G' → stay G') ∧
  (∀ k d G', ds[k]? = some d → I k G' → body (G'.set j (.im d)) (loopO (I (k + 1)) P)) ∧ ∀ G', I ds.length G' → P (.nx G')) (fun G' => P (.ex G'))
def sWhile (t : Tm) (body : Ss) : Ss := fun G P => ∃ I : Nat → Gm → Prop, (∃ m, I m G) ∧ ∀ m G', I m G' →
  t G' (fun b G1 => if b = true then body G1 (loopO (fun G2 => ∃ m', m' < m ∧ I m' G2) P) else P (.nx G1)) (fun G2 => P (.ex G2))
/-- try: body, except TooMany: the suite -/
def sTry (body suite : Ss) : Ss := fun G P => body G fun o => match o with
  | .ex G1 => suite G1 fun o' => match o' with | .ex _ => False | o' => P o'
  | o => P o
end Wd

/-! A2: how data stand in the abstract heap; the frozen part F of a heap H; the slots of a frame. -/
namespace Wd
open PySem PySem.Spec PyProof.Rows L2
open Evl (Ex Ex.refl Ex.trans Ex.new Ex.mut fresh_back)

mutual
/-- the value v stands for the datum d in the frozen heap F -/
inductive Rep (F : Hp) : V → D → Prop
  | non : Rep F .non .none
  | bl (b : Bool) : Rep F (.bl b) (.bool b)
  | int (i : Int) : Rep F (.int i) (.int i)
  | str (x : Str) : Rep F (.str x) (.str x)
  | lst {a : Addr} {xs : List V} {ds : List D} : F a = some (.lst xs) → Reps F xs ds → Rep F (.ref a) (.list ds)
  | tup {a : Addr} {xs : List V} {ds : List D} : F a = some (.tup xs) → Reps F xs ds → Rep F (.ref a) (.tuple ds)
  | frz {a : Addr} {o : Obj} {xs : List V} {kvs : List (D × D)} : F a = some (.frz o (.lst xs)) → Reps F xs (kvs.map (·.1)) → Rep F (.ref a) (.dict kvs)
inductive Reps (F : Hp) : List V → List D → Prop
  | nil : Reps F [] []
  | cons {v : V} {vs : List V} {d : D} {ds : List D} : Rep F v d → Reps F vs ds → Reps F (v :: vs) (d :: ds)
end
section
variable {F F' H : Hp}
mutual
theorem Rep.mono (e : Ex F F') : ∀ {v : V} {d : D}, Rep F v d → Rep F' v d
  | _, _, .non => .non
  | _, _, .bl b => .bl b
  | _, _, .int i => .int i
  | _, _, .str x => .str x
  | _, _, .lst h r => .lst (e _ _ h) (Reps.mono e r)
  | _, _, .tup h r => .tup (e _ _ h) (Reps.mono e r)
  | _, _, .frz h r => .frz (e _ _ h) (Reps.mono e r)
theorem Reps.mono (e : Ex F F') : ∀ {vs : List V} {ds : List D}, Reps F vs ds → Reps F' vs ds
  | _, _, .nil => .nil
  | _, _, .cons h r => .cons (Rep.mono e h) (Reps.mono e r)
end
theorem Reps.length : ∀ {vs : List V} {ds : List D}, Reps F vs ds → vs.length = ds.length
  | _, _, .nil => rfl
  | _, _, .cons _ r => by rw [List.length_cons, List.length_cons, Reps.length r]
theorem Reps.get : ∀ {vs : List V} {ds : List D} {i : Nat} {d : D}, Reps F vs ds → ds[i]? = some d → ∃ v, vs[i]? = some v ∧ Rep F v d
  | _, _, _, _, .nil, e => by simp at e
  | _, _, 0, d, .cons h _, e => by simp at e; subst e; exact ⟨_, rfl, h⟩
  | _, _, i + 1, d, .cons _ r, e => by
    obtain ⟨v, h1, h2⟩ := Reps.get (i := i) (d := d) r (by simpa using e)
    exact ⟨v, by simpa using h1, h2⟩
theorem Reps.getV : ∀ {vs : List V} {ds : List D} {i : Nat} {v : V}, Reps F vs ds → vs[i]? = some v → ∃ d, ds[i]? = some d ∧ Rep F v d
  | _, _, _, _, .nil, e => by simp at e
  | _, _, 0, d, .cons h _, e => by simp at e; subst e; exact ⟨_, rfl, h⟩
  | _, _, i + 1, d, .cons _ r, e => by
    obtain ⟨v, h1, h2⟩ := Reps.getV (i := i) (v := d) r (by simpa using e)
    exact ⟨v, by simpa using h1, h2⟩
theorem Reps.append : ∀ {xs ys : List V} {as bs : List D}, Reps F xs as → Reps F ys bs → Reps F (xs ++ ys) (as ++ bs)
  | _, _, _, _, .nil, s => s
  | _, _, _, _, .cons h r, s => .cons h (Reps.append r s)
theorem Reps.take : ∀ {xs : List V} {as : List D} (n : Nat), Reps F xs as → Reps F (xs.take n) (as.take n)
  | _, _, 0, _ => .nil
  | _, _, _ + 1, .nil => .nil
  | _, _, n + 1, .cons h r => .cons h (Reps.take n r)
theorem Reps.drop : ∀ {xs : List V} {as : List D} (n : Nat), Reps F xs as → Reps F (xs.drop n) (as.drop n)
  | _, _, 0, r => r
  | _, _, _ + 1, .nil => .nil
  | _, _, n + 1, .cons _ r => Reps.drop n r
theorem Reps.set {v : V} {d : D} (h : Rep F v d) : ∀ {xs : List V} {as : List D} (n : Nat), Reps F xs as → Reps F (xs.set n v) (as.set n d)
  | _, _, _, .nil => .nil
  | _, _, 0, .cons _ r => .cons h r
  | _, _, n + 1, .cons h' r => .cons h' (Reps.set h n r)
theorem Reps.snoc {xs : List V} {as : List D} {v : V} {d : D} (r : Reps F xs as) (h : Rep F v d) : Reps F (xs ++ [v]) (as ++ [d]) := r.append (.cons h .nil)
theorem Reps.reverse : ∀ {xs : List V} {as : List D}, Reps F xs as → Reps F xs.reverse as.reverse
  | _, _, .nil => .nil
  | _, _, .cons h r => by
    rw [List.reverse_cons, List.reverse_cons]
    exact (Reps.reverse r).snoc h
theorem Reps.rep {xs : List V} {as : List D} (r : Reps F xs as) : ∀ n : Nat, Reps F (List.replicate n xs).flatten (List.replicate n as).flatten
  | 0 => .nil
  | n + 1 => by
    rw [List.replicate_succ, List.replicate_succ, List.flatten_cons, List.flatten_cons]
    exact r.append (Reps.rep r n)
theorem Reps.cut {xs : List V} {as : List D} (r : Reps F xs as) (lo hi : Option Int) : Reps F (cutV xs lo hi) (cutD as lo hi) := by
  unfold cutV cutD
  rw [r.length]
  exact (r.drop _).take _
theorem Reps.at {xs : List V} {as : List D} (r : Reps F xs as) {i : Int} {d : D} (h : atI as i = some d) : ∃ v, atI xs i = some v ∧ Rep F v d := by
  unfold atI at h ⊢
  rw [r.length]
  cases e : ixN as.length i with
  | none => rw [e] at h; cases h
  | some j =>
    rw [e] at h
    exact r.get h
theorem Reps.ints : ∀ {vs : List V} {ds : List D} {ns : List Int}, Reps F vs ds → intsOf ds = some ns → vs = ns.map V.int
  | _, _, ns, .nil, e => by simp [intsOf] at e; subst e; rfl
  | _, _, ns, .cons h r, e => by
    cases h with
    | int i =>
      simp only [intsOf] at e
      cases q : intsOf _ with
      | none => rw [q] at e; cases e
      | some ms =>
        rw [q] at e
        cases e
        rw [Reps.ints r q]
        rfl
    | _ => simp [intsOf] at e
theorem reps_ints : ∀ ns : List Int, Reps F (ns.map V.int) (ns.map PyData.int)
  | [] => .nil
  | _ :: r => .cons (.int _) (reps_ints r)
theorem reps_rg (a b : Int) : Reps F (rgV a b) (rgD a b) := by
  have all : ∀ (l : List Nat), Reps F (l.map fun i => V.int (a + (i : Nat))) (l.map fun i => PyData.int (a + (i : Nat))) := by
    intro l
    induction l with
    | nil => exact .nil
    | cons x r ih => exact .cons (.int _) ih
  exact all _
mutual
theorem Rep.dp {K : PySem.W.Frag} (e : Ex F H) : ∀ {v : V} {d : D}, Rep F v d → d.canLay0 = true → Dp K H v d
  | _, _, .non, _ => .non
  | _, _, .bl b, _ => .bl b
  | _, _, .int i, _ => .int i
  | _, _, .str x, _ => .str x
  | _, _, .lst h r, c => .lst (SqL.of (e _ _ h)) (Reps.dp e r (by simpa [PyData.canLay0] using c))
  | _, _, .tup h r, c => .tup (SqT.of (e _ _ h)) (Reps.dp e r (by simpa [PyData.canLay0] using c))
  | _, _, .frz _ _, c => by simp [PyData.canLay0] at c
theorem Reps.dp {K : PySem.W.Frag} (e : Ex F H) : ∀ {vs : List V} {ds : List D}, Reps F vs ds → PyData.canLayAll0 ds = true → DpAll K H vs ds
  | _, _, .nil, _ => .nil
  | _, _, .cons h r, c => by
    simp only [PyData.canLayAll0, Bool.and_eq_true] at c
    exact .cons (Rep.dp e h c.1) (Reps.dp e r c.2)
end
theorem shaped_lay {d : D} (h : SeqAt.shaped d = true) : d.canLay0 = true := by
  unfold SeqAt.shaped at h
  simp only [Bool.and_eq_true] at h
  exact h.1
end

/-! ### the frozen part, what may change -/
structure Bs where
  P : Program
  w : World
  F0 : Hp
  H0 : Hp
  W : WX
  C : Addr
/-- F grows to F', H to H': what is new in F' was not in H -/
structure Step (F H F' H' : Hp) : Prop where
  ff : Ex F F'
  hh : Ex H H'
  fh : Ex F' H'
  new : ∀ a, F a = none → F' a ≠ none → H a = none
theorem Step.refl {F H : Hp} (e : Ex F H) : Step F H F H := ⟨Ex.refl _, Ex.refl _, e, fun a h h' => absurd h h'⟩
theorem Step.trans {F H F1 H1 F2 H2 : Hp} (a : Step F H F1 H1) (b : Step F1 H1 F2 H2) : Step F H F2 H2 :=
  ⟨a.ff.trans b.ff, a.hh.trans b.hh, b.fh, fun x h h' => by
    by_cases q : F1 x = none
    · exact fresh_back a.hh (b.new x q h')
    · exact a.new x h q⟩
/-- a new object, not frozen -/
theorem Step.tmp {F H : Hp} (e : Ex F H) {p : Addr} {o : HO} (h : H p = none) : Step F H F (upd H p o) := ⟨Ex.refl _, Ex.new h, e.trans (Ex.new h), fun a h h' => absurd h h'⟩
/-- a new object, frozen at once -/
theorem Step.new1 {F H : Hp} (e : Ex F H) {p : Addr} {o : HO} (h : H p = none) : Step F H (upd F p o) (upd H p o) := by
  have hf : F p = none := fresh_back e h
  refine ⟨Ex.new hf, Ex.new h, fun a u q => ?_, fun a h1 h2 => ?_⟩
  · by_cases hp : a = p
    · subst hp; rw [upd_same] at q ⊢; exact q
    · rw [upd_ne hp] at q ⊢; exact e a u q
  · by_cases hp : a = p
    · subst hp; exact h
    · rw [upd_ne hp] at h2; exact absurd h1 h2

def keyNk : Key → NestedKey
  | .inl i => .num i
  | .inr x => .text x
/-- the tuple at a is the key k -/
def KeyAt (F : Hp) (a : Addr) (k : NestedKey) : Prop := ∃ ds, Rep F (.ref a) (.tuple ds) ∧ keyOf true (.tuple ds) = some k
def dphi (P : Program) (w : World) (l : Addr) (xs : List (NestedKey × Addr × Value)) : Heap → Prop := fun h =>
  ∃ o es ep, h.get? l = some o ∧ o.ExactDict ∧ o.data = .dict es ep ∧ es.toList = xs.map (entryOfKey (nestedKind P w))
def OwnOk (b : Bs) (F H : Hp) (l : Addr) : Own → Prop
  | .lst ds => ∃ vs, H l = some (.lst vs) ∧ Reps F vs ds
  | .dct false kvs => ∃ kvs' : List (Key × V), H l = some (.dK kvs') ∧ Paired (fun (p : NestedKey × D) (q : Key × V) => p.1 = keyNk q.1 ∧ Rep F q.2 p.2) kvs kvs'
  | .dct true kvs => ∃ xs : List (NestedKey × Addr × Value), H l = some (.ext (dphi b.P b.w l xs)) ∧ (l == sysModules) = false ∧ (xs.map (·.1)).Nodup ∧
      Paired (fun (p : NestedKey × D) (x : NestedKey × Addr × Value) => p.1 = x.1 ∧ (∃ v, RelV v x.2.2 ∧ Rep F v p.2) ∧ KeyAt F x.2.1 x.1) kvs xs
theorem KeyAt.mono {F F' : Hp} {a : Addr} {k : NestedKey} (e : Ex F F') (h : KeyAt F a k) : KeyAt F' a k := let ⟨ds, r, q⟩ := h; ⟨ds, r.mono e, q⟩
theorem OwnOk.mono {b : Bs} {F F' H H' : Hp} {l : Addr} (e : Ex F F') (q : ∀ u, H l = some u → H' l = some u) : ∀ {o : Own}, OwnOk b F H l o → OwnOk b F' H' l o
  | .lst _, ⟨vs, h, r⟩ => ⟨vs, q _ h, r.mono e⟩
  | .dct false _, ⟨vs, h, r⟩ => ⟨vs, q _ h, Paired.mapP r fun _ _ z => ⟨z.1, z.2.mono e⟩⟩
  | .dct true _, ⟨vs, h, s, n, r⟩ => ⟨vs, q _ h, s, n, Paired.mapP r fun _ _ z => ⟨z.1, (let ⟨v, a, c⟩ := z.2.1; ⟨v, a, c.mono e⟩), z.2.2.mono e⟩⟩
theorem OwnOk.there {b : Bs} {F H : Hp} {l : Addr} : ∀ {o : Own}, OwnOk b F H l o → ∃ u, H l = some u
  | .lst _, ⟨_, h, _⟩ => ⟨_, h⟩
  | .dct false _, ⟨_, h, _⟩ => ⟨_, h⟩
  | .dct true _, ⟨_, h, _⟩ => ⟨_, h⟩
theorem OwnOk.mut {b : Bs} {F H : Hp} {l : Addr} : ∀ {o : Own}, OwnOk b F H l o → Mut (H l)
  | .lst _, ⟨_, h, _⟩ => by rw [h]; trivial
  | .dct false _, ⟨_, h, _⟩ => by rw [h]; trivial
  | .dct true _, ⟨_, h, _⟩ => by rw [h]; trivial

structure BaseOk (b : Bs) (F H : Hp) : Prop where
  f0 : Ex b.F0 F
  fh : Ex F H
  h0 : Ex b.H0 H
  new : ∀ a, b.F0 a = none → F a ≠ none → b.H0 a = none
def SlotOk (b : Bs) (F H : Hp) : Slot → Option (Option V) → Prop
  | .un, _ => True
  | .im d, x => ∃ v, x = some (some v) ∧ Rep F v d
  | .ow l o, x => x = some (some (.ref l)) ∧ F l = none ∧ b.H0 l = none ∧ OwnOk b F H l o
structure EnvOk (b : Bs) (F H : Hp) (G : Gm) (σ : L2.St) : Prop where
  base : BaseOk b F H
  len : σ.length = G.length
  slot : ∀ (i : Nat) (s : Slot), G[i]? = some s → SlotOk b F H s σ[i]?
  ap : ∀ (i j : Nat) (l : Addr) (o : Own) (l' : Addr) (o' : Own), G[i]? = some (.ow l o) → G[j]? = some (.ow l' o') → i ≠ j → l ≠ l'
theorem BaseOk.step {b : Bs} {F H F' H' : Hp} (h : BaseOk b F H) (s : Step F H F' H') : BaseOk b F' H' :=
  ⟨h.f0.trans s.ff, s.fh, h.h0.trans s.hh, fun a h1 h2 => by
    by_cases q : F a = none
    · exact fresh_back h.h0 (s.new a q h2)
    · exact h.new a h1 q⟩
theorem EnvOk.step {b : Bs} {F H F' H' : Hp} {G : Gm} {σ : L2.St} (h : EnvOk b F H G σ) (s : Step F H F' H') : EnvOk b F' H' G σ := by
  refine ⟨h.base.step s, h.len, fun i sl hi => ?_, h.ap⟩
  have q := h.slot i sl hi
  cases sl with
  | un => trivial
  | im d => obtain ⟨v, e, r⟩ := q; exact ⟨v, e, r.mono s.ff⟩
  | ow l o =>
    obtain ⟨e, f, n, k⟩ := q
    obtain ⟨u, hu⟩ := k.there
    refine ⟨e, ?_, n, k.mono s.ff fun u z => s.hh _ _ z⟩
    cases z : F' l with
    | none => rfl
    | some o' => exact absurd (s.new l f (by rw [z]; exact fun z => nomatch z)) (by rw [hu]; exact fun z => nomatch z)
section
variable {b : Bs} {F H F' H' : Hp} {G : Gm} {σ : L2.St} {i j : Nat} {l : Addr} {o o' : Own} {d : D} {v : V}
theorem getSet {α : Type} {l : List α} {i j : Nat} {x y : α} (h : (l.set j x)[i]? = some y) : (i = j ∧ y = x) ∨ (i ≠ j ∧ l[i]? = some y) := by
  by_cases e : j = i
  · subst e
    by_cases hj : j < l.length
    · rw [List.getElem?_set_self hj] at h; cases h; exact .inl ⟨rfl, rfl⟩
    · rw [List.getElem?_eq_none (by simpa using hj)] at h; cases h
  · rw [List.getElem?_set_ne e] at h; exact .inr ⟨fun z => e z.symm, h⟩
/-- a slot gets a frozen value -/
theorem EnvOk.setIm (h : EnvOk b F H G σ) (r : Rep F v d) : EnvOk b F H (G.set j (.im d)) (σ.set j (some v)) := by
  refine ⟨h.base, by rw [List.length_set, List.length_set, h.len], fun i s hi => ?_, fun i k l o l' o' h1 h2 => ?_⟩
  · rcases getSet hi with ⟨rfl, rfl⟩ | ⟨ne, hi⟩
    · have hlt : i < σ.length := by
        have := (List.getElem?_eq_some_iff.mp hi).1
        rw [List.length_set] at this
        rw [h.len]; exact this
      exact ⟨v, List.getElem?_set_self hlt, r⟩
    · rw [List.getElem?_set_ne (Ne.symm ne)]
      exact h.slot i s hi
  · rcases getSet h1 with ⟨_, q⟩ | ⟨_, h1⟩
    · cases q
    · rcases getSet h2 with ⟨_, q⟩ | ⟨_, h2⟩
      · cases q
      · exact h.ap i k l o l' o' h1 h2
/-- a slot forgets -/
theorem EnvOk.setUn (h : EnvOk b F H G σ) (x : Option V) : EnvOk b F H (G.set j .un) (σ.set j x) := by
  refine ⟨h.base, by rw [List.length_set, List.length_set, h.len], fun i s hi => ?_, fun i k l o l' o' h1 h2 => ?_⟩
  · rcases getSet hi with ⟨rfl, rfl⟩ | ⟨ne, hi⟩
    · trivial
    · rw [List.getElem?_set_ne (Ne.symm ne)]
      exact h.slot i s hi
  · rcases getSet h1 with ⟨_, q⟩ | ⟨_, h1⟩
    · cases q
    · rcases getSet h2 with ⟨_, q⟩ | ⟨_, h2⟩
      · cases q
      · exact h.ap i k l o l' o' h1 h2
theorem EnvOk.wipe (h : EnvOk b F H G σ) : ∀ vs : List Nat, EnvOk b F H (wipeG G vs) (wipe σ vs)
  | [] => h
  | v :: vs => (EnvOk.wipe h vs).setUn none
/-- a new object of the heap is owned by a slot -/
theorem EnvOk.setOw {u : HO} (h : EnvOk b F H G σ) (hn : H l = none) (k : OwnOk b F (upd H l u) l o) : EnvOk b F (upd H l u) (G.set j (.ow l o)) (σ.set j (some (.ref l))) := by
  have h1 := h.step (Step.tmp h.base.fh (o := u) hn)
  have dif : ∀ (i : Nat) (l' : Addr) (o' : Own), G[i]? = some (.ow l' o') → l' ≠ l := fun i l' o' hi e => by
    obtain ⟨_, _, _, q⟩ := h.slot i _ hi
    obtain ⟨u, hu⟩ := q.there
    rw [e, hn] at hu; cases hu
  refine ⟨h1.base, by rw [List.length_set, List.length_set, h.len], fun i s hi => ?_, fun i k l1 o1 l2 o2 h1 h2 ne => ?_⟩
  · rcases getSet hi with ⟨rfl, rfl⟩ | ⟨ne, hi⟩
    · have hlt : i < σ.length := by
        have := (List.getElem?_eq_some_iff.mp hi).1
        rw [List.length_set] at this
        rw [h.len]; exact this
      exact ⟨List.getElem?_set_self hlt, fresh_back h.base.fh hn, fresh_back h.base.h0 hn, k⟩
    · rw [List.getElem?_set_ne (Ne.symm ne)]
      exact h1.slot i s hi
  · rcases getSet h1 with ⟨ei, q⟩ | ⟨ni, h1⟩
    · cases q
      rcases getSet h2 with ⟨ek, q⟩ | ⟨nk, h2⟩
      · exact absurd (ei.trans ek.symm) ne
      · exact Ne.symm (dif _ _ _ h2)
    · rcases getSet h2 with ⟨ek, q⟩ | ⟨nk, h2⟩
      · cases q; exact dif _ _ _ h1
      · exact h.ap i k l1 o1 l2 o2 h1 h2 ne
/-- an owned object changes -/
theorem EnvOk.mutOw {u : HO} (h : EnvOk b F H G σ) (hi : G[i]? = some (.ow l o)) (k : OwnOk b F (upd H l u) l o') : EnvOk b F (upd H l u) (G.set i (.ow l o')) σ := by
  obtain ⟨e, f, n, _⟩ := h.slot i _ hi
  have ltG : i < G.length := (List.getElem?_eq_some_iff.mp hi).1
  refine ⟨⟨h.base.f0, h.base.fh.mut f, h.base.h0.mut n, h.base.new⟩, by rw [List.length_set, h.len], fun m s hm => ?_, fun m m' l1 o1 l2 o2 h1 h2 ne => ?_⟩
  · rcases getSet hm with ⟨rfl, rfl⟩ | ⟨ne, hm⟩
    · exact ⟨e, f, n, k⟩
    · have q := h.slot m s hm
      cases s with
      | un => trivial
      | im d => exact q
      | ow l2 o2 =>
        obtain ⟨e2, f2, n2, k2⟩ := q
        have dl : l2 ≠ l := h.ap m i l2 o2 l o hm hi ne
        exact ⟨e2, f2, n2, k2.mono (Ex.refl _) fun u z => by rw [upd_ne dl]; exact z⟩
  · rcases getSet h1 with ⟨ei, q⟩ | ⟨ni, h1⟩
    · cases q
      rcases getSet h2 with ⟨ek, q⟩ | ⟨nk, h2⟩
      · exact absurd (ei.trans ek.symm) ne
      · exact Ne.symm (h.ap m' i l2 o2 l o h2 hi nk)
    · rcases getSet h2 with ⟨ek, q⟩ | ⟨nk, h2⟩
      · cases q; exact h.ap m i l1 o1 l o h1 hi ni
      · exact h.ap m m' l1 o1 l2 o2 h1 h2 ne
/-- an owned list is frozen -/
theorem EnvOk.freeze {ds : List D} (h : EnvOk b F H G σ) (hi : G[i]? = some (.ow l (.lst ds))) : ∃ F', Ex F F' ∧ EnvOk b F' H (G.set i (.im (.list ds))) σ ∧ Rep F' (.ref l) (.list ds) ∧ σ[i]? = some (some (.ref l)) := by
  obtain ⟨e, f, n, vs, hl, r⟩ := h.slot i _ hi
  have ff : Ex F (upd F l (.lst vs)) := Ex.new f
  have rp : Rep (upd F l (.lst vs)) (.ref l) (.list ds) := .lst upd_same (r.mono ff)
  refine ⟨upd F l (.lst vs), ff, ⟨⟨h.base.f0.trans ff, fun a u q => ?_, h.base.h0, fun a h1 h2 => ?_⟩, by rw [List.length_set, h.len], fun m s hm => ?_, fun m m' l1 o1 l2 o2 h1 h2 ne => ?_⟩, rp, e⟩
  · by_cases ha : a = l
    · subst ha; rw [upd_same] at q; cases q; exact hl
    · rw [upd_ne ha] at q; exact h.base.fh a u q
  · by_cases ha : a = l
    · subst ha; exact n
    · rw [upd_ne ha] at h2; exact h.base.new a h1 h2
  · rcases getSet hm with ⟨rfl, rfl⟩ | ⟨ne, hm⟩
    · exact ⟨_, e, rp⟩
    · have q := h.slot m s hm
      cases s with
      | un => trivial
      | im d => obtain ⟨v, e, r⟩ := q; exact ⟨v, e, r.mono ff⟩
      | ow l2 o2 =>
        obtain ⟨e2, f2, n2, k2⟩ := q
        have dl : l2 ≠ l := h.ap m i l2 o2 l _ hm hi ne
        exact ⟨e2, by rw [upd_ne dl]; exact f2, n2, k2.mono ff fun u z => z⟩
  · rcases getSet h1 with ⟨ei, q⟩ | ⟨ni, h1⟩
    · cases q
    · rcases getSet h2 with ⟨ek, q⟩ | ⟨nk, h2⟩
      · cases q
      · exact h.ap m m' l1 o1 l2 o2 h1 h2 ne
end

/-! ### readings -/
def Kt (b : Bs) (F : Hp) (σ : L2.St) (P : D → Gm → Prop) (Q : VK) : Prop := ∀ v d G F' H', P d G → Ex F F' → EnvOk b F' H' G σ → Rep F' v d → Q v H'
def Ke (b : Bs) (F : Hp) (σ : L2.St) (E : Gm → Prop) : Prop := ∀ G F' H' dd, E G → Ex F F' → EnvOk b F' H' G σ → b.W (.ref b.C) (some dd) σ H'
def Kb (b : Bs) (F : Hp) (σ : L2.St) (P : Bool → Gm → Prop) (Q : Bool → Hp → Prop) : Prop := ∀ c G F' H', P c G → Ex F F' → EnvOk b F' H' G σ → Q c H'
def Ka (b : Bs) (F : Hp) (σ : L2.St) (P : List D → Gm → Prop) (Q : List V → Hp → Prop) : Prop := ∀ vs ds G F' H', P ds G → Ex F F' → EnvOk b F' H' G σ → Reps F' vs ds → Q vs H'
def Ko (b : Bs) (F : Hp) (σ : L2.St) (P : Option Int → Gm → Prop) (Q : Option Int → Hp → Prop) : Prop := ∀ c G F' H', P c G → Ex F F' → EnvOk b F' H' G σ → Q c H'
def tA (b : Bs) (m : Sm) : TE := fun σ H Q => ∃ G P E F, m G P E ∧ EnvOk b F H G σ ∧ Kt b F σ P Q ∧ Ke b F σ E
def tT (b : Bs) (m : Tm) : TT := fun σ H Q => ∃ G P E F, m G P E ∧ EnvOk b F H G σ ∧ Kb b F σ P Q ∧ Ke b F σ E
def tAs (b : Bs) (m : Am) : TA := fun σ H Q => ∃ G P E F, m G P E ∧ EnvOk b F H G σ ∧ Ka b F σ P Q ∧ Ke b F σ E
def tO (b : Bs) (m : Om) : TO := fun σ H Q => ∃ G P E F, m G P E ∧ EnvOk b F H G σ ∧ Ko b F σ P Q ∧ Ke b F σ E
section
variable {b : Bs} {F F' : Hp} {σ : L2.St}
theorem Kt.mono {P : D → Gm → Prop} {Q : VK} (e : Ex F F') (k : Kt b F σ P Q) : Kt b F' σ P Q := fun v d G F1 H1 p x => k v d G F1 H1 p (e.trans x)
theorem Ke.mono {E : Gm → Prop} (e : Ex F F') (k : Ke b F σ E) : Ke b F' σ E := fun G F1 H1 dd p x => k G F1 H1 dd p (e.trans x)
theorem Kb.mono {P : Bool → Gm → Prop} {Q : Bool → Hp → Prop} (e : Ex F F') (k : Kb b F σ P Q) : Kb b F' σ P Q := fun v G F1 H1 p x => k v G F1 H1 p (e.trans x)
theorem Ka.mono {P : List D → Gm → Prop} {Q : List V → Hp → Prop} (e : Ex F F') (k : Ka b F σ P Q) : Ka b F' σ P Q := fun v d G F1 H1 p x => k v d G F1 H1 p (e.trans x)
theorem Ko.mono {P : Option Int → Gm → Prop} {Q : Option Int → Hp → Prop} (e : Ex F F') (k : Ko b F σ P Q) : Ko b F' σ P Q := fun v G F1 H1 p x => k v G F1 H1 p (e.trans x)
end
end Wd
namespace L2
open PySem PySem.Spec PyProof.Rows
theorem PE.imp {X : Cx} {e : Expr} {t t' : TE} (h : PE X e t) (i : ∀ σ H Q, t' σ H Q → t σ H Q) : PE X e t' := ⟨fun pins s σ H Q I q => h.run pins s σ H Q I (i σ H Q q)⟩
theorem PT.imp {X : Cx} {e : Expr} {t t' : TT} (h : PT X e t) (i : ∀ σ H Q, t' σ H Q → t σ H Q) : PT X e t' := ⟨fun pins s σ H Q I q => h.run pins s σ H Q I (i σ H Q q)⟩
theorem PW.imp {X : Cx} {e : Expr} {t t' : TT} (h : PW X e t) (i : ∀ σ H Q, t' σ H Q → t σ H Q) : PW X e t' := ⟨fun whole pins s σ H Q I q => h.run whole pins s σ H Q I (i σ H Q q)⟩
theorem PA.imp {X : Cx} {es : List Expr} {t t' : TA} (h : PA X es t) (i : ∀ σ H Q, t' σ H Q → t σ H Q) : PA X es t' := ⟨fun pos pins s σ H Q I q => h.run pos pins s σ H Q I (i σ H Q q)⟩
theorem PO.imp {X : Cx} {e : Option Expr} {t t' : TO} (h : PO X e t) (i : ∀ σ H Q, t' σ H Q → t σ H Q) : PO X e t' := ⟨fun pins s σ H Q I q => h.run pins s σ H Q I (i σ H Q q)⟩
theorem PS.imp {X : Cx} {e : Stmt} {t t' : TS} (h : PS X e t) (i : ∀ D σ H, t' D σ H → t D σ H) : PS X e t' := ⟨fun pins s σ H D I q => h.run pins s σ H D I (i D σ H q)⟩
theorem PSs.imp {X : Cx} {e : List Stmt} {t t' : TS} (h : PSs X e t) (i : ∀ D σ H, t' D σ H → t D σ H) : PSs X e t' := ⟨fun pins s σ H D I q => h.run pins s σ H D I (i D σ H q)⟩
end L2

/-! A3: operations on values: each keeps what the data say. -/
namespace Wd
open PySem PySem.Spec PyProof.Rows L2
open Evl (Ex Ex.refl Ex.trans Ex.new Ex.mut fresh_back)

theorem big_le {n : Nat} (h : n ≤ 1000000) : n ≤ sizeLine := by rw [sizeLine_eq]; omega
theorem big_lt {n : Nat} (h : n ≤ 1000000) : n < sizeLine := by rw [sizeLine_eq]; omega
theorem OpR.or {X : Cx} {f : Value → Value → Sem Value} {r r' : R2} (h : OpR X f r) (h' : OpR X f r') : OpR X f (fun x y H Q => r x y H Q ∨ r' x y H Q) := by
  intro pins s σ H x y v u Q I rx ry q
  rcases q with q | q
  · exact h pins s σ H x y v u Q I rx ry q
  · exact h' pins s σ H x y v u Q I rx ry q

/-- the values v1 v2 stand for x y; what is wanted behind the operation -/
structure Two (b : Bs) (v1 v2 : V) (H : Hp) (Q : VK) (x y : D) (P : D → Prop) : Prop where
  ex : ∃ σ G F, EnvOk b F H G σ ∧ Rep F v1 x ∧ Rep F v2 y ∧ ∀ v d F' H', P d → Ex F F' → EnvOk b F' H' G σ → Rep F' v d → Q v H'

def rBinD (b : Bs) (op : Operator) : R2 := fun v1 v2 H Q => ∃ x y P, opB op x y P ∧ Two b v1 v2 H Q x y P
section
variable {b : Bs} {X : Cx}
theorem ref_tup {F : Hp} {v : V} {ds : List D} (r : Rep F v (.tuple ds)) : ∃ a vs, v = .ref a ∧ F a = some (.tup vs) ∧ Reps F vs ds := by
  cases r with
  | tup h r => exact ⟨_, _, rfl, h, r⟩
theorem ref_lst {F : Hp} {v : V} {ds : List D} (r : Rep F v (.list ds)) : ∃ a vs, v = .ref a ∧ F a = some (.lst vs) ∧ Reps F vs ds := by
  cases r with
  | lst h r => exact ⟨_, _, rfl, h, r⟩
theorem op_binD {op : Operator} : OpR X (binaryOp op) (rBinD b op) := by
  intro pins s σ0 H v1 v2 u1 u2 Q I r1 r2 h
  obtain ⟨x, y, P, ho, ⟨σ, G, F, env, q1, q2, k⟩⟩ := h
  have fin : ∀ {v : V} {d : D}, P d → Rep F v d → Q v H := fun p r => k _ _ F H p (Ex.refl F) env r
  have newT : ∀ {vs : List V} {ds : List D}, P (.tuple ds) → Reps F vs ds → ∀ p, H p = none → Q (.ref p) (upd H p (.tup vs)) := fun {vs ds} p r a ha => by
    have st := Step.new1 env.base.fh (p := a) (o := .tup vs) ha
    exact k _ _ _ _ p st.ff (env.step st) (.tup upd_same (r.mono st.ff))
  have newL : ∀ {vs : List V} {ds : List D}, P (.list ds) → Reps F vs ds → ∀ p, H p = none → Q (.ref p) (upd H p (.lst vs)) := fun {vs ds} p r a ha => by
    have st := Step.new1 env.base.fh (p := a) (o := .lst vs) ha
    exact k _ _ _ _ p st.ff (env.step st) (.lst upd_same (r.mono st.ff))
  unfold opB at ho
  split at ho
  · cases q1; cases q2
    exact op_add pins s σ0 H _ _ u1 u2 Q I r1 r2 ⟨_, _, rfl, rfl, fin ho (.int _)⟩
  · cases q1; cases q2
    exact op_add_str pins s σ0 H _ _ u1 u2 Q I r1 r2 ⟨_, _, rfl, rfl, big_le (by omega), fin ho.2 (.str _)⟩
  · obtain ⟨a, xs, rfl, ha, ra⟩ := ref_tup q1
    obtain ⟨c, ys, rfl, hc, rc⟩ := ref_tup q2
    have l1 := ra.length
    have l2 := rc.length
    refine op_catA pins s σ0 H _ _ u1 u2 Q I r1 r2 ⟨a, c, xs, ys, rfl, rfl, SqT.of (env.base.fh _ _ ha), SqT.of (env.base.fh _ _ hc), big_le (by omega), fun e => ?_, fun _ e => ?_, fun _ _ => newT ho.2 (ra.append rc)⟩
    · subst e
      cases ra
      exact fin ho.2 (.tup hc rc)
    · subst e
      cases rc
      rw [List.append_nil] at ho
      exact fin ho.2 (.tup ha ra)
  · obtain ⟨a, xs, rfl, ha, ra⟩ := ref_lst q1
    obtain ⟨c, ys, rfl, hc, rc⟩ := ref_lst q2
    have l1 := ra.length
    have l2 := rc.length
    exact op_cat pins s σ0 H _ _ u1 u2 Q I r1 r2 ⟨a, c, xs, ys, rfl, rfl, env.base.fh _ _ ha, env.base.fh _ _ hc, big_le (by omega), newL ho.2 (ra.append rc)⟩
  · cases q1; cases q2
    exact op_sub pins s σ0 H _ _ u1 u2 Q I r1 r2 ⟨_, _, rfl, rfl, fin ho (.int _)⟩
  · cases q1; cases q2
    exact op_mul pins s σ0 H _ _ u1 u2 Q I r1 r2 ⟨_, _, rfl, rfl, ho.1, fin ho.2 (.int _)⟩
  · obtain ⟨a, xs, rfl, ha, ra⟩ := ref_lst q1
    cases q2
    have l1 := ra.length
    obtain ⟨⟨h1, h2, h3⟩, hp⟩ := ho
    refine op_rep pins s σ0 H _ _ u1 u2 Q I r1 r2 ⟨a, _, xs, rfl, rfl, env.base.fh _ _ ha, by omega, by omega, big_le ?_, newL hp (ra.rep _)⟩
    rename_i j
    have e1 : xs.length ≤ 1000 := by omega
    have e2 : j.toNat ≤ 1000 := by omega
    exact Nat.le_trans (Nat.mul_le_mul e1 e2) (by decide)
  · cases q1; cases q2
    exact op_mod pins s σ0 H _ _ u1 u2 Q I r1 r2 ⟨_, _, rfl, rfl, ho.1, fin ho.2 (.int _)⟩
  · cases q1; cases q2
    exact op_fdiv pins s σ0 H _ _ u1 u2 Q I r1 r2 ⟨_, _, rfl, rfl, ho.1, fin ho.2 (.int _)⟩
  · cases q1; cases q2
    exact op_pow pins s σ0 H _ _ u1 u2 Q I r1 r2 ⟨_, _, rfl, rfl, ho.1, fin ho.2 (.int _)⟩
  · exact ho.elim

/-! ### comparisons -/
def rCmpD (b : Bs) (op : CmpOp) : R2 := fun v1 v2 H Q => ∃ x y P, cmpB op x y P ∧ ∃ σ G F, EnvOk b F H G σ ∧ Rep F v1 x ∧ Rep F v2 y ∧ ∀ c, P c → Q (.bl c) H
theorem rep_non {F : Hp} {v : V} {x : D} (r : Rep F v x) : decide (v = .non) = isNon x := by
  cases r <;> rfl
theorem op_cmpD (hu : X.A.units + 64 < cLine) {op : CmpOp} : OpR X (compareOp op) (rCmpD b op) := by
  intro pins s σ0 H v1 v2 u1 u2 Q I r1 r2 h
  obtain ⟨x, y, P, ho, σ, G, F, env, q1, q2, k⟩ := h
  have dI : ∀ i j : Int, decide (V.int i = V.int j) = decide (i = j) := fun i j => by simp
  have dS : ∀ i j : Str, decide (V.str i = V.str j) = decide (i = j) := fun i j => by simp
  have dB : ∀ i j : Bool, decide (V.bl i = V.bl j) = decide (i = j) := fun i j => by simp
  unfold cmpB at ho
  split at ho
  · cases q1; cases q2
    exact op_eq pins s σ0 H _ _ u1 u2 Q I r1 r2 ⟨rfl, by rw [dI]; exact k _ ho⟩
  · cases q1; cases q2
    exact op_eq pins s σ0 H _ _ u1 u2 Q I r1 r2 ⟨rfl, by rw [dS]; exact k _ ho⟩
  · cases q1; cases q2
    exact op_eq pins s σ0 H _ _ u1 u2 Q I r1 r2 ⟨rfl, by rw [dB]; exact k _ ho⟩
  · exact op_eqD hu pins s σ0 H _ _ u1 u2 Q I r1 r2 ⟨_, _, q1.dp env.base.fh (shaped_lay ho.1.1), q2.dp env.base.fh (shaped_lay ho.1.2), ho.1.1, ho.1.2, k _ ho.2⟩
  · cases q1; cases q2
    exact op_ne pins s σ0 H _ _ u1 u2 Q I r1 r2 ⟨rfl, by rw [dI]; exact k _ ho⟩
  · cases q1; cases q2
    exact op_ne pins s σ0 H _ _ u1 u2 Q I r1 r2 ⟨rfl, by rw [dS]; exact k _ ho⟩
  · cases q1; cases q2
    exact op_lt pins s σ0 H _ _ u1 u2 Q I r1 r2 ⟨_, _, rfl, rfl, k _ ho⟩
  · cases q1; cases q2
    exact op_le pins s σ0 H _ _ u1 u2 Q I r1 r2 ⟨_, _, rfl, rfl, k _ ho⟩
  · cases q1; cases q2
    exact op_gt pins s σ0 H _ _ u1 u2 Q I r1 r2 ⟨_, _, rfl, rfl, k _ ho⟩
  · cases q1; cases q2
    exact op_ge pins s σ0 H _ _ u1 u2 Q I r1 r2 ⟨_, _, rfl, rfl, k _ ho⟩
  · cases q2
    exact op_isN pins s σ0 H _ _ u1 u2 Q I r1 r2 ⟨rfl, by rw [rep_non q1]; exact k _ ho⟩
  · exact ho.elim

/-! ### items -/
def rIxD (b : Bs) : R2 := fun v1 v2 H Q => ∃ x y P, ixD x y P ∧ ∃ σ G F, EnvOk b F H G σ ∧ Rep F v1 x ∧ Rep F v2 y ∧ ∀ v d, P d → Rep F v d → Q v H
theorem ix_D : IxR X (rIxD b) := by
  intro value slice pins s σ0 H v1 v2 u1 u2 Q I r1 r2 h hs
  obtain ⟨x, y, P, ho, σ, G, F, env, q1, q2, k⟩ := h
  unfold ixD at ho
  split at ho
  · obtain ⟨a, xs, rfl, ha, ra⟩ := ref_tup q1
    cases q2
    split at ho
    · rename_i e
      obtain ⟨v, ev, rv⟩ := ra.at e
      exact ix_tup value slice pins s σ0 H _ _ u1 u2 Q I r1 r2 ⟨a, xs, _, v, rfl, rfl, SqT.of (env.base.fh _ _ ha), ev, k _ _ ho rv⟩ hs
    · exact ho.elim
  · obtain ⟨a, xs, rfl, ha, ra⟩ := ref_lst q1
    cases q2
    split at ho
    · rename_i e
      obtain ⟨v, ev, rv⟩ := ra.at e
      exact ix_list value slice pins s σ0 H _ _ u1 u2 Q I r1 r2 ⟨a, xs, _, v, rfl, rfl, SqL.of (env.base.fh _ _ ha), ev, k _ _ ho rv⟩ hs
    · exact ho.elim
  · cases q1 with
    | frz ha ra =>
      cases q2
      split at ho
      · rename_i e
        obtain ⟨v, ev, rv⟩ := ra.at e
        exact ix_list value slice pins s σ0 H _ _ u1 u2 Q I r1 r2 ⟨_, _, _, v, rfl, rfl, .inl (.inr ⟨_, env.base.fh _ _ ha⟩), ev, k _ _ ho rv⟩ hs
      · exact ho.elim
  · exact ho.elim

/-! ### slices -/
def rSlD (b : Bs) : V → Option Int → Option Int → Hp → VK → Prop := fun v lo hi H Q => ∃ x P, slD x lo hi P ∧ ∃ σ G F, EnvOk b F H G σ ∧ Rep F v x ∧ ∀ v d F' H', P d → Ex F F' → EnvOk b F' H' G σ → Rep F' v d → Q v H'
theorem sl_D : SlR X (rSlD b) := by
  intro pins s σ0 H v u vl vu lo hi sl Q I rx hs pl pu h
  obtain ⟨x, P, ho, σ, G, F, env, q1, k⟩ := h
  unfold slD at ho
  split at ho
  · obtain ⟨a, xs, rfl, ha, ra⟩ := ref_tup q1
    refine sl_tupA pins s σ0 H _ u vl vu lo hi sl Q I rx hs pl pu ⟨a, xs, rfl, SqT.of (env.base.fh _ _ ha), fun w => ?_, fun _ p hp => ?_⟩
    · refine k _ _ F H ho (Ex.refl F) env (.tup ha ?_)
      have e := ra.cut lo hi
      have e2 : cutV xs lo hi = xs := by
        unfold cutV
        rw [w.1, w.2, List.drop_zero, Nat.sub_zero, List.take_length]
      rw [e2] at e
      exact e
    · have st := Step.new1 env.base.fh (p := p) (o := .tup (cutV xs lo hi)) hp
      exact k _ _ _ _ ho st.ff (env.step st) (.tup upd_same ((ra.cut lo hi).mono st.ff))
  · obtain ⟨a, xs, rfl, ha, ra⟩ := ref_lst q1
    refine sl_list pins s σ0 H _ u vl vu lo hi sl Q I rx hs pl pu ⟨a, xs, rfl, SqL.of (env.base.fh _ _ ha), fun p hp => ?_⟩
    have st := Step.new1 env.base.fh (p := p) (o := .lst (cutV xs lo hi)) hp
    exact k _ _ _ _ ho st.ff (env.step st) (.lst upd_same ((ra.cut lo hi).mono st.ff))
  · cases q1
    exact sl_str pins s σ0 H _ u vl vu lo hi sl Q I rx hs pl pu ⟨_, rfl, big_le (by omega), k _ _ F H ho.2 (Ex.refl F) env (.str _)⟩
  · exact ho.elim
end
end Wd

/-! A4: dicts that a slot owns: flat ones (HO.dK) and those whose keys are nested tuples (HO.ext). -/
namespace Wd
open PySem PySem.Spec PyProof.Rows L2
open Evl (Ex Ex.refl Ex.trans Ex.new Ex.mut fresh_back)

theorem keyNk_inj {a c : Key} (e : keyNk a = keyNk c) : a = c := by
  cases a <;> cases c <;> simp [keyNk] at e <;> rw [e]
abbrev KP (F : Hp) : NestedKey × D → Key × V → Prop := fun p q => p.1 = keyNk q.1 ∧ Rep F q.2 p.2
theorem kp_look {F : Hp} {kvs : Kvs} {kvs' : List (Key × V)} (r : Paired (KP F) kvs kvs') (k : Key) :
    match dlook kvs (keyNk k) with
    | none => valV kvs' k = none
    | some d => ∃ v, valV kvs' k = some v ∧ Rep F v d := by
  induction r with
  | nil => rfl
  | @cons p q ps qs h t ih =>
    obtain ⟨h1, h2⟩ := h
    by_cases e : q.1 = k
    · have e' : p.1 = keyNk k := by rw [h1, e]
      have a : dlook (p :: ps) (keyNk k) = some p.2 := by simp [dlook, List.find?_cons, e']
      rw [a, valV_pos e]
      exact ⟨_, rfl, h2⟩
    · have e' : ¬ p.1 = keyNk k := fun z => e (keyNk_inj (h1.symm.trans z))
      have a : dlook (p :: ps) (keyNk k) = dlook ps (keyNk k) := by simp [dlook, List.find?_cons, e']
      rw [a, valV_neg e]
      exact ih
theorem kp_some {F : Hp} {kvs : Kvs} {kvs' : List (Key × V)} (r : Paired (KP F) kvs kvs') (k : Key) : (valV kvs' k).isSome = (dlook kvs (keyNk k)).isSome := by
  have h := kp_look r k
  cases e : dlook kvs (keyNk k) with
  | none => rw [e] at h; rw [h]; rfl
  | some d => rw [e] at h; obtain ⟨v, h, _⟩ := h; rw [h]; rfl
theorem kp_put {F : Hp} {kvs : Kvs} {kvs' : List (Key × V)} (r : Paired (KP F) kvs kvs') (k : Key) {v : V} {d : D} (rv : Rep F v d) : Paired (KP F) (dput kvs (keyNk k) d) (putK kvs' k v) := by
  unfold dput putK
  rw [valV_any, kp_some r k]
  by_cases q : (dlook kvs (keyNk k)).isSome = true
  · rw [if_pos q, if_pos q]
    clear q
    induction r with
    | nil => exact .nil
    | @cons p q ps qs h t ih =>
      rw [List.map_cons, List.map_cons]
      refine .cons ?_ ih
      obtain ⟨h1, h2⟩ := h
      by_cases e : q.1 = k
      · rw [if_pos e, if_pos (show p.1 = keyNk k by rw [h1, e])]
        exact ⟨h1, rv⟩
      · rw [if_neg e, if_neg (fun z => e (keyNk_inj (h1.symm.trans z)))]
        exact ⟨h1, h2⟩
  · rw [if_neg q, if_neg q]
    exact Paired.snoc r ⟨rfl, rv⟩

/-! ### keys that are nested tuples -/
section
variable {X : Cx} {pins : List (Addr × Obj)} {σ : L2.St} {H F : Hp} {s : Shared}
mutual
theorem rep_key (I : Inv X pins σ H s) (e : Ex F H) : ∀ {v : V} {d : D} {k : NestedKey} {u : Value}, Rep F v d → keyN d = some k → RelV v u → NestedIs s.heap k u
  | _, _, _, _, .non, h, r => by cases r; cases h; exact .none
  | _, _, _, _, .bl c, h, r => by cases r; cases h; exact .bool rfl
  | _, _, _, _, .int i, h, r => by obtain ⟨t, rfl⟩ := r; cases h; exact .int _ _
  | _, _, _, _, .str x, h, r => by obtain ⟨t, rfl⟩ := r; cases h; exact .text _ _
  | _, _, k, _, .tup (ds := ds) ha ra, h, r => by
    cases r
    have h : (keyNs ds).map NestedKey.tup = some k := h
    obtain ⟨ks, hk, rfl⟩ := Option.map_eq_some_iff.mp h
    obtain ⟨its, rv, ⟨o, ho, hc, n, hd⟩, _⟩ := I.tuple (SqT.of (e _ _ ha))
    exact .tup ho hc hd (by simpa using reps_keys I e ra hk rv)
  | _, _, _, _, .lst _ _, h, _ => by cases h
  | _, _, _, _, .frz _ _, h, _ => by cases h
theorem reps_keys (I : Inv X pins σ H s) (e : Ex F H) : ∀ {vs : List V} {ds : List D} {ks : List NestedKey} {us : List Value}, Reps F vs ds → keyNs ds = some ks → Vals vs us → NestedAll s.heap ks us
  | _, _, _, _, .nil, h, r => by cases r; cases h; exact .nil
  | _, _, ks, _, .cons (d := d) (ds := ds) h1 h2, h, r => by
    have h : (keyN d).bind (fun k => (keyNs ds).map fun ks => k :: ks) = some ks := h
    obtain ⟨k, hk, h⟩ := Option.bind_eq_some_iff.mp h
    obtain ⟨ks', hks, rfl⟩ := Option.map_eq_some_iff.mp h
    cases r with
    | cons r1 r2 => exact .cons (rep_key I e h1 hk r1) (reps_keys I e h2 hks r2)
end
theorem key_tup {tp : Bool} {d : D} {k : NestedKey} (h : keyOf true d = some k) : ∃ ds, d = .tuple ds ∧ keyN d = some k ∧ k.depth ≤ 8 := by
  cases d with
  | tuple ds =>
    have h : ((keyNs ds).bind fun ks => if (NestedKey.tup ks).depth ≤ 8 then some (NestedKey.tup ks) else none) = some k := h
    obtain ⟨ks, hk, h⟩ := Option.bind_eq_some_iff.mp h
    split at h
    · cases h
      refine ⟨ds, rfl, ?_, by assumption⟩
      show (keyNs ds).map NestedKey.tup = _
      rw [hk]; rfl
    · cases h
  | _ => cases h
theorem key_at (I : Inv X pins σ H s) (e : Ex F H) {v : V} {d : D} {k : NestedKey} {u : Value} (r : Rep F v d) (h : keyOf true d = some k) (ru : RelV v u) : ∃ a, v = .ref a ∧ u = .ref a ∧ (nestedKind X.prog X.w).is s.heap k a ∧ KeyAt F a k := by
  obtain ⟨ds, rfl, h1, h2⟩ := key_tup (tp := true) h
  obtain ⟨a, vs, rfl, ha, ra⟩ := ref_tup r
  have q := rep_key I e r h1 ru
  cases ru
  exact ⟨a, rfl, rfl, ⟨q, h2⟩, ds, r, h⟩
theorem keyAt_is (I : Inv X pins σ H s) (e : Ex F H) {a : Addr} {k : NestedKey} (h : KeyAt F a k) : (nestedKind X.prog X.w).is s.heap k a := by
  obtain ⟨ds, r, h⟩ := h
  obtain ⟨a', e1, _, q, _⟩ := key_at I e r h (u := .ref a) rfl
  cases e1
  exact q
end
abbrev KX (F : Hp) : NestedKey × D → NestedKey × Addr × Value → Prop := fun p x => p.1 = x.1 ∧ (∃ v, RelV v x.2.2 ∧ Rep F v p.2) ∧ KeyAt F x.2.1 x.1
theorem kx_look {F : Hp} {kvs : Kvs} {xs : List (NestedKey × Addr × Value)} (r : Paired (KX F) kvs xs) (k : NestedKey) :
    match dlook kvs k with
    | none => atKey xs k = none
    | some d => ∃ p, atKey xs k = some p ∧ ∃ v, RelV v p.2 ∧ Rep F v d := by
  induction r with
  | nil => rfl
  | @cons p q ps qs h t ih =>
    obtain ⟨h1, h2, h3⟩ := h
    by_cases e : p.1 = k
    · have e' : q.1 = k := h1.symm.trans e
      have a : dlook (p :: ps) k = some p.2 := by simp [dlook, List.find?_cons, e]
      have c : atKey (q :: qs) k = some q.2 := by simp [atKey, List.find?_cons, e']
      rw [a, c]
      exact ⟨_, rfl, h2⟩
    · have e' : ¬ q.1 = k := fun z => e (h1.trans z)
      have a : dlook (p :: ps) k = dlook ps k := by simp [dlook, List.find?_cons, e]
      have c : atKey (q :: qs) k = atKey qs k := by simp [atKey, List.find?_cons, e']
      rw [a, c]
      exact ih
theorem kx_some {F : Hp} {kvs : Kvs} {xs : List (NestedKey × Addr × Value)} (r : Paired (KX F) kvs xs) (k : NestedKey) : (atKey xs k).isSome = (dlook kvs k).isSome := by
  have h := kx_look r k
  cases e : dlook kvs k with
  | none => rw [e] at h; rw [h]; rfl
  | some d => rw [e] at h; obtain ⟨v, h, _⟩ := h; rw [h]; rfl
theorem kx_put {F : Hp} {kvs : Kvs} {xs : List (NestedKey × Addr × Value)} (r : Paired (KX F) kvs xs) {k : NestedKey} {a : Addr} (ka : KeyAt F a k) {v : V} {u : Value} {d : D} (ru : RelV v u) (rv : Rep F v d) :
    Paired (KX F) (dput kvs k d) (storedH xs k a u) := by
  unfold dput storedH
  rw [kx_some r k]
  by_cases q : (dlook kvs k).isSome = true
  · rw [if_pos q, if_pos q]
    clear q
    induction r with
    | nil => exact .nil
    | @cons p q ps qs h t ih =>
      rw [List.map_cons, List.map_cons]
      refine .cons ?_ ih
      obtain ⟨h1, h2, h3⟩ := h
      unfold putAt
      by_cases e : p.1 = k
      · rw [if_pos e, if_pos (h1.symm.trans e)]
        exact ⟨h1, ⟨v, ru, rv⟩, h3⟩
      · rw [if_neg e, if_neg (fun z => e (h1.trans z))]
        exact ⟨h1, h2, h3⟩
  · rw [if_neg q, if_neg q]
    exact Paired.snoc r ⟨rfl, ⟨v, ru, rv⟩, ka⟩

section
variable {b : Bs} {X : Cx} {pins : List (Addr × Obj)} {σ σ1 : L2.St} {H F : Hp} {s : Shared} {l : Addr} {G : Gm} {i : Nat}
theorem kx_is (I : Inv X pins σ H s) (e : Ex F H) {kvs : Kvs} {xs : List (NestedKey × Addr × Value)} (r : Paired (KX F) kvs xs) : ∀ x ∈ xs, (nestedKind X.prog X.w).is s.heap x.1 x.2.1 := by
  induction r with
  | nil => exact fun x hx => nomatch hx
  | @cons p q ps qs hq t ih =>
    intro x hx
    rcases List.mem_cons.mp hx with z | z
    · rw [z]; exact keyAt_is I e hq.2.2
    · exact ih x z
/-- the dict of nested keys at l, as the library has it -/
theorem dn_of (hP : b.P = X.prog) (hw : b.w = X.w) (I : Inv X pins σ H s) (e : Ex F H) {kvs : Kvs} (h : OwnOk b F H l (.dct true kvs)) :
    ∃ xs, Paired (KX F) kvs xs ∧ s.heap.DictOfH (nestedKind X.prog X.w) l xs ∧ (l == sysModules) = false ∧ H l = some (.ext (dphi b.P b.w l xs)) := by
  obtain ⟨xs, hl, hsys, nd, r⟩ := h
  have ok : ObjOk X.prog X.w H s.heap l (.ext (dphi b.P b.w l xs)) := I.hok l _ hl
  obtain ⟨⟨o, es, ep, h1, h2, h3, h4⟩, _, _⟩ := ok
  rw [hP, hw] at h4
  exact ⟨xs, r, ⟨o, es, ep, h1, h2, h3, h4, kx_is I e r, nd⟩, hsys, hl⟩
theorem dphi_stay {P : Program} {w : World} {xs : List (NestedKey × Addr × Value)} (h1 h2 : Heap) (h : dphi P w l xs h1) (k : ∀ o, h1.get? l = some o → h2.get? l = some o) : dphi P w l xs h2 := by
  obtain ⟨o, es, ep, a, c, d, e⟩ := h
  exact ⟨o, es, ep, k o a, c, d, e⟩
theorem nested_room (hu : X.A.units + 64 < cLine) : (nestedKind X.prog X.w).room X.A.in1 := by
  show X.A.units + 1 + 8 < cLine
  omega

/-! ### not in -/
def rNinD (b : Bs) : R2 := fun v1 v2 H Q => ∃ (x : D) (σ : L2.St) (G : Gm) (F : Hp) (i : Nat) (l : Addr) (o : Own), EnvOk b F H G σ ∧ G[i]? = some (.ow l o) ∧ v2 = .ref l ∧ Rep F v1 x ∧
  match o with
  | .dct tp kvs => ∃ k, keyOf tp x = some k ∧ Q (.bl (!(dlook kvs k).isSome)) H
  | .lst ds => (SeqAt.shaped x = true ∧ SeqAt.shaped (.list ds) = true) ∧ Q (.bl (!ds.any fun z => PyData.eqv z x)) H
theorem op_ninD (hP : b.P = X.prog) (hw : b.w = X.w) (hu : X.A.units + 100 < cLine) : OpR X (compareOp .NotIn) (rNinD b) := by
  intro pins s σ0 H v1 v2 u1 u2 Q I r1 r2 h
  obtain ⟨x, σ, G, F, i, l, o, env, hi, rfl, q1, h⟩ := h
  obtain ⟨_, _, _, own⟩ := env.slot i _ hi
  cases o with
  | lst ds =>
    obtain ⟨vs, hl, rs⟩ := own
    refine op_notInD (by omega) pins s σ0 H _ _ u1 u2 Q I r1 r2 ⟨_, _, q1.dp env.base.fh (shaped_lay h.1.1), .lst (SqL.of hl) (rs.dp env.base.fh ?_), h.1.1, h.1.2, h.2⟩
    have z := shaped_lay h.1.2
    simpa [PyData.canLay0] using z
  | dct tp kvs =>
    obtain ⟨k, hk, q⟩ := h
    cases r2
    cases tp with
    | false =>
      obtain ⟨kvs', hl, rk⟩ := own
      have fin : ∀ {key : Key}, k = keyNk key → v1 = kV key → wpAny (model X.prog X.w) X.A (compareOp .NotIn u1 (.ref l)) (EP X pins σ0 Q) X.xe s := fun {key} ek ev => by
        refine d_notIn (by omega) I (DGet.k (k := key) hl) (by rw [← ev]; exact r1) fun s' I' => ?_
        rw [kp_some rk key, ← ek]
        exact ⟨.bl _, H, I', rfl, q⟩
      cases x with
      | int j => cases q1; cases hk; exact fin (key := .inl j) rfl rfl
      | str j => cases q1; cases hk; exact fin (key := .inr j) rfl rfl
      | _ => cases hk
    | true =>
      obtain ⟨xs, rk, dd, hsys, hl⟩ := dn_of hP hw I env.base.fh own
      obtain ⟨a, rfl, rfl, his, _⟩ := key_at I env.base.fh q1 hk r1
      refine wpAny_notIn_heap (nested_room (by omega)) his hsys dd ?_
      rw [kx_some rk k]
      exact ⟨.bl _, H, I.tok _, rfl, q⟩

/-! ### d[k] -/
def rGetD (b : Bs) : R2 := fun v1 v2 H Q => ∃ (y : D) (σ : L2.St) (G : Gm) (F : Hp) (i : Nat) (l : Addr) (tp : Bool) (kvs : Kvs) (k : NestedKey) (d : D), EnvOk b F H G σ ∧ G[i]? = some (.ow l (.dct tp kvs)) ∧ v1 = .ref l ∧ Rep F v2 y ∧ keyOf tp y = some k ∧ dlook kvs k = some d ∧ ∀ v, Rep F v d → Q v H
theorem ix_getD (hP : b.P = X.prog) (hw : b.w = X.w) (hu : X.A.units + 100 < cLine) : IxR X (rGetD b) := by
  intro value slice pins s σ0 H v1 v2 u1 u2 Q I r1 r2 h hs
  obtain ⟨y, σ, G, F, i, l, tp, kvs, k, d, env, hi, rfl, q2, hk, hd, h⟩ := h
  obtain ⟨_, _, _, own⟩ := env.slot i _ hi
  cases r1
  have go : s.TypeIs (.ref l) "dict" → wpAny (model X.prog X.w) X.A (getItem (.ref l) u2) (EP X pins σ0 Q) X.xe s → wpAny (model X.prog X.w) X.A (subscriptTail value slice (.ref l) u2) (EP X pins σ0 Q) X.xe s := fun ty w => by
    unfold subscriptTail
    refine wpAny_bind ?_
    rw [getitemInPython_of_ne ty.not_modules]
    refine wpAny_bind (wpAny_specialOf ty PySem.F.slot_dict_getitem.lookup ?_)
    have fin : wpAny (model X.prog X.w) X.A (subscripted slice false (.ref l) u2) (fun r s₃ => wpAny (model X.prog X.w) X.A (letTemporaryGo value (.ref l) r >>= fun _ => pure r) (EP X pins σ0 Q) X.xe s₃) X.xe s := by
      rw [hs]
      exact wpAny_operating (wpAny_mono w (fun r s₃ h₃ => wpAny_bind (wpAny_letTemporaryGo (wpAny_pure h₃))) fun _ _ x => x)
    first
      | exact wpAny_pure (wpAny_bind fin)
      | exact wpAny_bind (wpAny_pure (wpAny_bind fin))
      | exact wpAny_bind fin
  cases tp with
  | false =>
    obtain ⟨kvs', hl, rk⟩ := own
    have fin : ∀ {key : Key}, k = keyNk key → v2 = kV key → wpAny (model X.prog X.w) X.A (subscriptTail value slice (.ref l) u2) (EP X pins σ0 Q) X.xe s := fun {key} ek ev => by
      have z := kp_look rk key
      rw [← ek, hd] at z
      obtain ⟨v, hv, rv⟩ := z
      have g : DGet H l (kV key) (some v) := by rw [← hv]; exact DGet.k hl
      refine go (dict_typeIs I g) (d_getItem (by omega) I g (by rw [← ev]; exact r2) fun w' s' I' rw' => ⟨v, H, I', rw', h v rv⟩)
    cases y with
    | int j => cases q2; cases hk; exact fin (key := .inl j) rfl rfl
    | str j => cases q2; cases hk; exact fin (key := .inr j) rfl rfl
    | _ => cases hk
  | true =>
    obtain ⟨xs, rk, dd, hsys, hl⟩ := dn_of hP hw I env.base.fh own
    obtain ⟨a, rfl, rfl, his, _⟩ := key_at I env.base.fh q2 hk r2
    have z := kx_look rk k
    rw [hd] at z
    obtain ⟨p, hp, v, ru, rv⟩ := z
    exact go dd.typeIs (wpAny_getItem_heap (nested_room (by omega)) his dd hp ⟨v, H, I.tok _, ru, h v rv⟩)

/-! ### d[k] = v, xs[i] = v -/
def rPutD (b : Bs) : TSet := fun o k v H Q => ∃ (x y : D) (σ : L2.St) (G : Gm) (F : Hp) (i : Nat) (l : Addr) (own : Own), EnvOk b F H G σ ∧ G[i]? = some (.ow l own) ∧ o = .ref l ∧ Rep F k x ∧ Rep F v y ∧
  match own with
  | .dct tp kvs => ∃ q, keyOf tp x = some q ∧ kvs.length ≤ 1000000 ∧ ∀ H', EnvOk b F H' (G.set i (.ow l (.dct tp (dput kvs q y)))) σ → Q H'
  | .lst ds => ∃ z m, x = .int z ∧ ixN ds.length z = some m ∧ ∀ H', EnvOk b F H' (G.set i (.ow l (.lst (ds.set m y)))) σ → Q H'
theorem length_kp {F : Hp} {kvs : Kvs} {kvs' : List (Key × V)} (r : Paired (KP F) kvs kvs') : kvs.length = kvs'.length := Paired.length r
theorem set_D (hP : b.P = X.prog) (hw : b.w = X.w) (hu : X.A.units + 100 < cLine) : PSet X (rPutD b) := by
  intro pins s σ0 H o k v ou ku vu Q I ro rk rv h
  obtain ⟨x, y, σ, G, F, i, l, own, env, hi, rfl, qk, qv, h⟩ := h
  obtain ⟨_, _, _, ok⟩ := env.slot i _ hi
  cases own with
  | lst ds =>
    obtain ⟨z, m, rfl, hm, h⟩ := h
    obtain ⟨vs, hl, rs⟩ := ok
    cases qk
    refine set_list pins s σ0 H _ _ v ou ku vu Q I ro rk rv ⟨l, vs, z, m, rfl, rfl, hl, by rw [rs.length]; exact hm, h _ ?_⟩
    exact env.mutOw hi ⟨_, upd_same, rs.set qv m⟩
  | dct tp kvs =>
    obtain ⟨q, hq, hz, h⟩ := h
    cases ro
    cases tp with
    | false =>
      obtain ⟨kvs', hl, rr⟩ := ok
      have hlen := length_kp rr
      have fin : ∀ {key : Key}, q = keyNk key → k = kV key → wpAny (model X.prog X.w) X.A (setItem (.ref l) ku vu) (fun _ s' => ∃ H', Inv X pins σ0 H' s' ∧ Q H') X.xe s := fun {key} ek ev => by
        refine d_setItem (by omega) I (DPut.k (k := key) (v := v) hl (big_lt (by omega))) (by rw [← ev]; exact rk) rv fun s' I' => ⟨_, I', h _ ?_⟩
        rw [ek]
        exact env.mutOw hi ⟨_, upd_same, kp_put rr key qv⟩
      cases x with
      | int j => cases qk; cases hq; exact fin (key := .inl j) rfl rfl
      | str j => cases qk; cases hq; exact fin (key := .inr j) rfl rfl
      | _ => cases hq
    | true =>
      obtain ⟨xs, rr, dd, hsys, hl⟩ := dn_of hP hw I env.base.fh ok
      obtain ⟨a, rfl, rfl, his, ka⟩ := key_at I env.base.fh qk hq rk
      have hlen : kvs.length = xs.length := Paired.length rr
      refine wpAny_setItem_heap (hsz := big_le (by omega)) (nested_room (by omega)) his dd fun h' dd' hs => ?_
      obtain ⟨o', es, ep, g1, g2, g3, g4, _, g5⟩ := dd'
      have new : ObjOk X.prog X.w (upd H l (.ext (dphi b.P b.w l (storedH xs q a vu)))) h' l (.ext (dphi b.P b.w l (storedH xs q a vu))) :=
        ⟨⟨o', es, ep, g1, g2, g3, by rw [hP, hw]; exact g4⟩, ⟨o', g1⟩, fun h1 h2 z k => dphi_stay h1 h2 z k⟩
      have mu : Mut (H l) := by rw [hl]; trivial
      refine ⟨_, d_write (t' := s.toks + (nestedKind X.prog X.w).draws q) I mu hs ⟨o', g1⟩ new, h _ ?_⟩
      exact env.mutOw hi ⟨_, upd_same, hsys, g5, kx_put rr ka rv qv⟩
end
end Wd

/-! A5: expressions: each syntax keeps its combinator. -/
namespace Wd
open PySem PySem.Spec PyProof.Rows L2
open Evl (Ex Ex.refl Ex.trans Ex.new Ex.mut fresh_back)

section
variable {b : Bs} {X : Cx} {a c : Expr} {ma mc : Sm} {ta tc : Tm} {pos : Pos}
theorem se_var {i : Nat} {x : Str} (h : PE X (.Name x pos) (tVar i)) : PE X (.Name x pos) (tA b (eVar i)) := h.imp fun σ H Q ⟨G, P, E, F, h, env, k, _⟩ => by
  unfold eVar at h
  split at h
  · rename_i d hi
    obtain ⟨v, e, r⟩ := env.slot i _ hi
    exact ⟨v, e, k v d G F H h (Ex.refl F) env r⟩
  · rename_i l ds hi
    obtain ⟨F', e, env', r, ev⟩ := env.freeze hi
    exact ⟨_, ev, k _ _ _ F' H h e env' r⟩
  · exact h.elim
theorem se_c {v : V} {d : D} {e : Expr} (h : PE X e (tC v)) (r : ∀ F, Rep F v d) : PE X e (tA b (eC d)) := h.imp fun σ H Q ⟨G, P, E, F, h, env, k, _⟩ => k v d G F H h (Ex.refl F) env (r F)
theorem se_bin {op : Operator} (ha : PE X a (tA b ma)) (hc : PE X c (tA b mc)) : PE X (.BinOp a op c pos) (tA b (eBin op ma mc)) := (pe_op (op_binD (b := b)) ha hc).imp fun σ H Q ⟨G, P, E, F, h, env, k, ke⟩ =>
  ⟨G, _, E, F, h, env, fun v1 x G1 F1 H1 h1 e1 env1 r1 => ⟨G1, _, E, F1, h1, env1, fun v2 y G2 F2 H2 h2 e2 env2 r2 =>
    ⟨x, y, _, h2, ⟨σ, G2, F2, env2, r1.mono e2, r2, fun v d F' H' p e3 env3 r3 => k v d G2 F' H' p (e1.trans (e2.trans e3)) env3 r3⟩⟩, ke.mono e1⟩, ke⟩
theorem se_neg (ha : PE X a (tA b ma)) : PE X (.UnaryOp .USub a pos) (tA b (eNeg ma)) := (pe_un un_neg ha).imp fun σ H Q ⟨G, P, E, F, h, env, k, ke⟩ =>
  ⟨G, _, E, F, h, env, fun v1 x G1 F1 H1 h1 e1 env1 r1 => by
    cases r1 with
    | int i => exact ⟨i, rfl, k _ _ G1 F1 H1 h1 e1 env1 (.int _)⟩
    | _ => exact False.elim h1, ke⟩
theorem se_not (ha : PE X a (tA b ma)) : PE X (.UnaryOp .Not a pos) (tA b (eNot ma)) := (pe_not ha).imp fun σ H Q ⟨G, P, E, F, h, env, k, ke⟩ =>
  ⟨G, _, E, F, h, env, fun v1 x G1 F1 H1 h1 e1 env1 r1 => by
    cases r1 with
    | bl i => exact ⟨i, rfl, k _ _ G1 F1 H1 h1 e1 env1 (.bl _)⟩
    | _ => exact False.elim h1, ke⟩
theorem se_and {rest : List Expr} (ha : PE X a (tA b ma)) (hc : PE X (.BoolOp .And (c :: rest) pos) (tA b mc)) : PE X (.BoolOp .And (a :: c :: rest) pos) (tA b (eAnd ma mc)) := (pe_and ha hc).imp fun σ H Q ⟨G, P, E, F, h, env, k, ke⟩ =>
  ⟨G, _, E, F, h, env, fun v1 x G1 F1 H1 h1 e1 env1 r1 => by
    cases r1 with
    | bl i =>
      cases i with
      | true => exact ⟨true, rfl, iteT ⟨G1, _, E, F1, h1, env1, k.mono e1, ke.mono e1⟩⟩
      | false => exact ⟨false, rfl, iteF (k _ _ G1 F1 H1 h1 e1 env1 (.bl _))⟩
    | _ => exact False.elim h1, ke⟩
theorem se_or {rest : List Expr} (ha : PE X a (tA b ma)) (hc : PE X (.BoolOp .Or (c :: rest) pos) (tA b mc)) : PE X (.BoolOp .Or (a :: c :: rest) pos) (tA b (eOr ma mc)) := (pe_or ha hc).imp fun σ H Q ⟨G, P, E, F, h, env, k, ke⟩ =>
  ⟨G, _, E, F, h, env, fun v1 x G1 F1 H1 h1 e1 env1 r1 => by
    cases r1 with
    | bl i =>
      cases i with
      | false => exact ⟨false, rfl, iteF ⟨G1, _, E, F1, h1, env1, k.mono e1, ke.mono e1⟩⟩
      | true => exact ⟨true, rfl, iteT (k _ _ G1 F1 H1 h1 e1 env1 (.bl _))⟩
    | _ => exact False.elim h1, ke⟩
/-! tests -/
theorem cmp_read (hu : X.A.units + 64 < cLine) {op : CmpOp} {σ : L2.St} {H : Hp} {G : Gm} {F : Hp} {P : Bool → Gm → Prop} {E : Gm → Prop} {Q : VK}
    (h : tCmp op ma mc G P E) (env : EnvOk b F H G σ) (k : ∀ c G' F' H', P c G' → Ex F F' → EnvOk b F' H' G' σ → Q (.bl c) H') (ke : Ke b F σ E) : tOp (rCmpD b op) (tA b ma) (tA b mc) σ H Q :=
  ⟨G, _, E, F, h, env, fun v1 x G1 F1 H1 h1 e1 env1 r1 => ⟨G1, _, E, F1, h1, env1, fun v2 y G2 F2 H2 h2 e2 env2 r2 =>
    ⟨x, y, _, h2, σ, G2, F2, env2, r1.mono e2, r2, fun c p => k c G2 F2 H2 p (e1.trans e2) env2⟩, ke.mono e1⟩, ke⟩
theorem st_cmp (hu : X.A.units + 64 < cLine) {op : CmpOp} (ha : PE X a (tA b ma)) (hc : PE X c (tA b mc)) (hm : behindInMarks op c = false) : PT X (.Compare a [op] [c] pos) (tT b (tCmp op ma mc)) :=
  (pt_cmpR (op_cmpD (b := b) hu) ha hc hm).imp fun σ H Q ⟨G, P, E, F, h, env, k, ke⟩ => cmp_read hu h env (fun c G' F' H' p e en => ⟨c, rfl, k c G' F' H' p e en⟩) ke
theorem se_cmp (hu : X.A.units + 64 < cLine) {op : CmpOp} (ha : PE X a (tA b ma)) (hc : PE X c (tA b mc)) (hm : behindInMarks op c = false) : PE X (.Compare a [op] [c] pos) (tA b (eT (tCmp op ma mc))) :=
  (pe_cmpR (op_cmpD (b := b) hu) ha hc hm).imp fun σ H Q ⟨G, P, E, F, h, env, k, ke⟩ => cmp_read hu h env (fun c G' F' H' p e en => k _ _ G' F' H' p e en (.bl c)) ke
theorem st_nin (hP : b.P = X.prog) (hw : b.w = X.w) (hu : X.A.units + 100 < cLine) {i : Nat} {y : Str} {p2 : Pos} (ha : PE X a (tA b ma)) (hc : PE X (.Name y p2) (tVar i)) : PT X (.Compare a [.NotIn] [.Name y p2] pos) (tT b (tNin ma i)) :=
  (pt_cmpR (op_ninD hP hw hu) ha hc rfl).imp fun σ H Q ⟨G, P, E, F, h, env, k, ke⟩ =>
    ⟨G, _, E, F, h, env, fun v1 x G1 F1 H1 h1 e1 env1 r1 => by
      dsimp only at h1
      split at h1
      · rename_i l tp kvs hi
        obtain ⟨e, _⟩ := env1.slot i _ hi
        split at h1
        · rename_i kk hk
          exact ⟨_, e, x, σ, G1, F1, i, l, _, env1, hi, rfl, r1, kk, hk, _, rfl, k _ G1 F1 H1 h1 e1 env1⟩
        · exact h1.elim
      · rename_i l ds hi
        obtain ⟨e, _⟩ := env1.slot i _ hi
        exact ⟨_, e, x, σ, G1, F1, i, l, _, env1, hi, rfl, r1, h1.1, _, rfl, k _ G1 F1 H1 h1.2 e1 env1⟩
      · exact h1.elim, ke⟩
theorem st_val (ha : PE X a (tA b ma)) (he : ∀ whole, isTrue a X.env whole = (do let v ← whole; standAt a.pos; holding [v] (truthy v))) : PT X a (tT b (tV ma)) := (pt_val ha he).imp fun σ H Q ⟨G, P, E, F, h, env, k, ke⟩ =>
  ⟨G, _, E, F, h, env, fun v1 x G1 F1 H1 h1 e1 env1 r1 => by
    cases r1 with
    | bl i => exact ⟨i, rfl, k _ G1 F1 H1 h1 e1 env1⟩
    | _ => exact False.elim h1, ke⟩
theorem st_not (ha : PT X a (tT b ta)) : PT X (.UnaryOp .Not a pos) (tT b (tNotM ta)) := (pt_not ha).imp fun σ H Q ⟨G, P, E, F, h, env, k, ke⟩ =>
  ⟨G, _, E, F, h, env, fun c G1 F1 H1 h1 e1 env1 => k _ G1 F1 H1 h1 e1 env1, ke⟩
theorem sw_and {rest : List Expr} (ha : PT X a (tT b ta)) (hc : PW X (.BoolOp .And (c :: rest) pos) (tT b tc)) : PW X (.BoolOp .And (a :: c :: rest) pos) (tT b (tAndM ta tc)) := (pw_and ha hc).imp fun σ H Q ⟨G, P, E, F, h, env, k, ke⟩ =>
  ⟨G, _, E, F, h, env, fun c G1 F1 H1 h1 e1 env1 => by
    cases c with
    | true =>
      rw [if_pos rfl] at h1
      exact iteT ⟨G1, _, E, F1, h1, env1, k.mono e1, ke.mono e1⟩
    | false =>
      rw [if_neg Bool.false_ne_true] at h1
      exact iteF (k _ G1 F1 H1 h1 e1 env1), ke⟩
theorem sw_or {rest : List Expr} (ha : PT X a (tT b ta)) (hc : PW X (.BoolOp .Or (c :: rest) pos) (tT b tc)) : PW X (.BoolOp .Or (a :: c :: rest) pos) (tT b (tOrM ta tc)) := (pw_or ha hc).imp fun σ H Q ⟨G, P, E, F, h, env, k, ke⟩ =>
  ⟨G, _, E, F, h, env, fun c G1 F1 H1 h1 e1 env1 => by
    cases c with
    | true =>
      rw [if_pos rfl] at h1
      exact iteT (k _ G1 F1 H1 h1 e1 env1)
    | false =>
      rw [if_neg Bool.false_ne_true] at h1
      exact iteF ⟨G1, _, E, F1, h1, env1, k.mono e1, ke.mono e1⟩, ke⟩
theorem se_if {t : Expr} (ht : PT X t (tT b ta)) (ha : PE X a (tA b ma)) (hc : PE X c (tA b mc)) : PE X (.IfExp t a c pos) (tA b (eIf ta ma mc)) := (pe_ifExp ht ha hc).imp fun σ H Q ⟨G, P, E, F, h, env, k, ke⟩ =>
  ⟨G, _, E, F, h, env, fun c G1 F1 H1 h1 e1 env1 => by
    cases c with
    | true =>
      rw [if_pos rfl] at h1
      exact iteT ⟨G1, _, E, F1, h1, env1, k.mono e1, ke.mono e1⟩
    | false =>
      rw [if_neg Bool.false_ne_true] at h1
      exact iteF ⟨G1, _, E, F1, h1, env1, k.mono e1, ke.mono e1⟩, ke⟩
/-! items -/
theorem se_ix (ha : PE X a (tA b ma)) (hc : PE X c (tA b mc)) (hs : PlainIx c) : PE X (.Subscript a c pos) (tA b (eIx ma mc)) := (pe_ix (ix_D (b := b)) ha hc hs).imp fun σ H Q ⟨G, P, E, F, h, env, k, ke⟩ =>
  ⟨G, _, E, F, h, env, fun v1 x G1 F1 H1 h1 e1 env1 r1 => ⟨G1, _, E, F1, h1, env1, fun v2 y G2 F2 H2 h2 e2 env2 r2 =>
    ⟨x, y, _, h2, σ, G2, F2, env2, r1.mono e2, r2, fun v d p r => k v d G2 F2 H2 p (e1.trans e2) env2 r⟩, ke.mono e1⟩, ke⟩
/-- an item of what a slot owns, or has frozen -/
def rIxN (b : Bs) : R2 := fun v1 v2 H Q => rIxD b v1 v2 H Q ∨ rGetD b v1 v2 H Q ∨ ∃ (σ : L2.St) (G : Gm) (F : Hp) (i : Nat) (l : Addr) (ds : List D) (y : D) (P : D → Prop), EnvOk b F H G σ ∧ G[i]? = some (.ow l (.lst ds)) ∧ v1 = .ref l ∧ Rep F v2 y ∧ ixD (.list ds) y P ∧ ∀ v d, P d → Rep F v d → Q v H
theorem ix_N (hP : b.P = X.prog) (hw : b.w = X.w) (hu : X.A.units + 100 < cLine) : IxR X (rIxN b) := by
  refine IxR.or ix_D (IxR.or (ix_getD hP hw hu) ?_)
  intro value slice pins s σ0 H v1 v2 u1 u2 Q I r1 r2 h hs
  obtain ⟨σ, G, F, i, l, ds, y, P, env, hi, rfl, q2, ho, k⟩ := h
  obtain ⟨_, _, _, vs, hl, rs⟩ := env.slot i _ hi
  unfold ixD at ho
  cases q2 with
  | int j =>
    dsimp only at ho
    split at ho
    · rename_i e
      obtain ⟨v, ev, rv⟩ := rs.at e
      exact ix_list value slice pins s σ0 H _ _ u1 u2 Q I r1 r2 ⟨l, vs, _, v, rfl, rfl, SqL.of hl, ev, k _ _ ho rv⟩ hs
    · exact ho.elim
  | _ => exact False.elim ho
theorem se_ixN (hP : b.P = X.prog) (hw : b.w = X.w) (hu : X.A.units + 100 < cLine) {i : Nat} {x : Str} {p2 : Pos} (ha : PE X (.Name x p2) (tVar i)) (hc : PE X c (tA b mc)) (hs : PlainIx c) :
    PE X (.Subscript (.Name x p2) c pos) (tA b (eIxN i mc)) := (pe_ix (ix_N (b := b) hP hw hu) ha hc hs).imp fun σ H Q ⟨G, P, E, F, ⟨⟨sl, hsl, nun⟩, h⟩, env, k, ke⟩ => by
  have hv : ∃ v, σ[i]? = some (some v) := by
    have q := env.slot i _ hsl
    cases sl with
    | un => exact absurd rfl nun
    | im d => obtain ⟨v, e, _⟩ := q; exact ⟨v, e⟩
    | ow l o => exact ⟨_, q.1⟩
  obtain ⟨v1, hv⟩ := hv
  refine ⟨v1, hv, G, _, E, F, h, env, fun v2 y G1 F1 H1 h1 e1 env1 r1 => ?_, ke⟩
  dsimp only at h1
  split at h1
  · rename_i d hi
    obtain ⟨v', e, r⟩ := env1.slot i _ hi
    rw [hv] at e; cases e
    exact .inl ⟨_, _, _, h1, σ, G1, F1, env1, r, r1, fun v d p r => k v d G1 F1 H1 p e1 env1 r⟩
  · rename_i l ds hi
    obtain ⟨e, _⟩ := env1.slot i _ hi
    rw [hv] at e; cases e
    exact .inr (.inr ⟨σ, G1, F1, i, l, ds, y, _, env1, hi, rfl, r1, h1, fun v d p r => k v d G1 F1 H1 p e1 env1 r⟩)
  · rename_i l tp kvs hi
    obtain ⟨e, _⟩ := env1.slot i _ hi
    rw [hv] at e; cases e
    split at h1
    · rename_i kk hk
      split at h1
      · rename_i d hd
        exact .inr (.inl ⟨y, σ, G1, F1, i, l, tp, kvs, kk, d, env1, hi, rfl, r1, hk, hd, fun v r => k v d G1 F1 H1 h1 e1 env1 r⟩)
      · exact h1.elim
    · exact h1.elim
  · exact h1.elim
/-! slices -/
theorem so_none : PO X none (tO b oNone) := po_none.imp fun σ H Q ⟨G, P, E, F, h, env, k, _⟩ => k _ G F H h (Ex.refl F) env
theorem so_some (ha : PE X a (tA b ma)) : PO X (some a) (tO b (oSome ma)) := (po_some ha).imp fun σ H Q ⟨G, P, E, F, h, env, k, ke⟩ =>
  ⟨G, _, E, F, h, env, fun v1 x G1 F1 H1 h1 e1 env1 r1 => by
    cases r1 with
    | int i => exact ⟨i, rfl, k _ G1 F1 H1 h1 e1 env1⟩
    | _ => exact False.elim h1, ke⟩
theorem se_sl {lo hi : Option Expr} {ml mh : Om} {p2 : Pos} (ha : PE X a (tA b ma)) (hl : PO X lo (tO b ml)) (hh : PO X hi (tO b mh)) : PE X (.Subscript a (.Slice lo hi none p2) pos) (tA b (eSl ma ml mh)) :=
  (pe_slice (sl_D (b := b)) ha hl hh).imp fun σ H Q ⟨G, P, E, F, h, env, k, ke⟩ =>
    ⟨G, _, E, F, h, env, fun v1 x G1 F1 H1 h1 e1 env1 r1 => ⟨G1, _, E, F1, h1, env1, fun l G2 F2 H2 h2 e2 env2 => ⟨G2, _, E, F2, h2, env2, fun u G3 F3 H3 h3 e3 env3 =>
      ⟨x, _, h3, σ, G3, F3, env3, r1.mono (e2.trans e3), fun v d F' H' p e4 env4 r4 => k v d G3 F' H' p ((e1.trans (e2.trans e3)).trans e4) env4 r4⟩, ke.mono (e1.trans e2)⟩, ke.mono e1⟩, ke⟩
theorem se_rev {k0 : Nat} {p1 p2 p3 : Pos} (ha : PE X a (tA b ma)) : PE X (.Subscript a (.Slice none none (some (.UnaryOp .USub (.Constant (.int 1) k0 p1) p2)) p3) pos) (tA b (eRev ma)) :=
  (pe_revL ha).imp fun σ H Q ⟨G, P, E, F, h, env, k, ke⟩ =>
    ⟨G, _, E, F, h, env, fun v1 x G1 F1 H1 h1 e1 env1 r1 => by
      cases r1 with
      | @lst l0 xs ds hl rs =>
        refine ⟨_, _, rfl, SqL.of (env1.base.fh _ _ hl), fun p hp => ?_⟩
        have st := Step.new1 env1.base.fh (p := p) (o := .lst xs.reverse) hp
        exact k _ _ G1 _ _ h1 (e1.trans st.ff) (env1.step st) (.lst upd_same (rs.reverse.mono st.ff))
      | _ => exact False.elim h1, ke⟩
/-! arguments, displays -/
theorem sa_nil : PA X [] (tAs b aNil) := pa_nil.imp fun σ H Q ⟨G, P, E, F, h, env, k, _⟩ => k _ _ G F H h (Ex.refl F) env .nil
theorem sa_cons {es : List Expr} {mr : Am} (ha : PE X a (tA b ma)) (hr : PA X es (tAs b mr)) (he : starEach (a :: es) X.env = (false, eval a X.env) :: starEach es X.env) : PA X (a :: es) (tAs b (aCons ma mr)) := (pa_cons ha hr he).imp fun σ H Q ⟨G, P, E, F, h, env, k, ke⟩ =>
  ⟨G, _, E, F, h, env, fun v1 x G1 F1 H1 h1 e1 env1 r1 => ⟨G1, _, E, F1, h1, env1, fun vs xs G2 F2 H2 h2 e2 env2 r2 => k _ _ G2 F2 H2 h2 (e1.trans e2) env2 (.cons (r1.mono e2) r2), ke.mono e1⟩, ke⟩
theorem se_tup {es : List Expr} {x1 : Nat} {mr : Am} (ha : PA X es (tAs b mr)) : PE X (.Tuple es x1 pos) (tA b (eTup mr)) := (pe_tup ha).imp fun σ H Q ⟨G, P, E, F, h, env, k, ke⟩ =>
  ⟨G, _, E, F, h, env, fun vs xs G1 F1 H1 h1 e1 env1 r1 => ⟨by rw [r1.length]; exact big_le h1.1, fun p hp => by
    have st := Step.new1 env1.base.fh (p := p) (o := .tup vs) hp
    exact k _ _ G1 _ _ h1.2 (e1.trans st.ff) (env1.step st) (.tup upd_same (r1.mono st.ff))⟩, ke⟩
theorem se_lst {es : List Expr} {mr : Am} (ha : PA X es (tAs b mr)) : PE X (.List es pos) (tA b (eLst mr)) := (pe_lst ha).imp fun σ H Q ⟨G, P, E, F, h, env, k, ke⟩ =>
  ⟨G, _, E, F, h, env, fun vs xs G1 F1 H1 h1 e1 env1 r1 => ⟨by rw [r1.length]; exact big_le h1.1, fun p hp => by
    have st := Step.new1 env1.base.fh (p := p) (o := .lst vs) hp
    exact k _ _ G1 _ _ h1.2 (e1.trans st.ff) (env1.step st) (.lst upd_same (r1.mono st.ff))⟩, ke⟩
end
end Wd

/-! A6: calls of built-ins. -/
namespace Wd
open PySem PySem.Spec PyProof.Rows L2
open Evl (Ex Ex.refl Ex.trans Ex.new Ex.mut fresh_back)

/-- no star in front -/
def NStar (a : Expr) : Prop := ∀ (es : List Expr) (env : Env), starEach (a :: es) env = (false, eval a env) :: starEach es env
theorem sizes_log {i : Int} (h0 : 0 ≤ i) (h1 : i ≤ 1000) : i.natAbs.log2 < 1920 := by
  have h : i.natAbs < 2 ^ 10 := by omega
  by_cases h2 : i.natAbs = 0
  · rw [h2]; decide
  · have := (Nat.log2_lt h2).mpr h
    omega
theorem str_small : ∀ n : Nat, n < 1001 → (toString (n : Int) : Str).length ≤ 20 := by
  have h : (List.range 1001).all (fun n => decide ((toString (n : Int) : Str).length ≤ 20)) = true := by decide +kernel
  intro n hn
  have q := (List.all_eq_true.mp h) n (List.mem_range.mpr hn)
  exact of_decide_eq_true q
theorem CallR.or {X : Cx} {f : Value} {r r' : List V → Hp → VK → Prop} (h : CallR X f r) (h' : CallR X f r') : CallR X f (fun x H Q => r x H Q ∨ r' x H Q) := by
  intro pins s σ H x u Q I rx q
  rcases q with q | q
  · exact h pins s σ H x u Q I rx q
  · exact h' pins s σ H x u Q I rx q

section
variable {b : Bs} {X : Cx} {a c : Expr} {ma mc : Sm} {ta tc : Tm} {pos p p2 : Pos}
theorem slot_val {F H : Hp} {G : Gm} {σ : L2.St} {i : Nat} {sl : Slot} (env : EnvOk b F H G σ) (h : G[i]? = some sl) (n : sl ≠ .un) : ∃ v, σ[i]? = some (some v) := by
  have q := env.slot i _ h
  cases sl with
  | un => exact absurd rfl n
  | im d => obtain ⟨v, e, _⟩ := q; exact ⟨v, e⟩
  | ow l o => exact ⟨_, q.1⟩

/-! ### len -/
theorem rep_len {K : PySem.W.Frag} {F H : Hp} {v : V} {x : D} {k : Int → Prop} (e : Ex F H) (r : Rep F v x) (h : lenD x k) : ∃ n : Nat, LenV K v H n ∧ k n := by
  cases r with
  | @lst l xs ds hl rs => exact ⟨xs.length, .inl ⟨_, SqL.of (e _ _ hl), rfl⟩, by rw [rs.length]; exact h⟩
  | @tup l xs ds hl rs => exact ⟨xs.length, .inr ⟨_, SqT.of (e _ _ hl), rfl⟩, by rw [rs.length]; exact h⟩
  | @frz l o xs kvs hl rs =>
    have el := rs.length
    rw [List.length_map] at el
    exact ⟨xs.length, .inl ⟨_, .inl (.inr ⟨_, e _ _ hl⟩), rfl⟩, by rw [el]; exact h⟩
  | _ => exact False.elim h
theorem se_len (hg : Gl X "len") (hm : X.mg "len" = none) (ha : PE X a (tA b ma)) (na : NStar a) : PE X (.Call (.Name "len" p) [a] [] pos) (tA b (eLen ma)) :=
  (pe_callB call_len hg hm PySem.boot_len (pa_cons ha pa_nil (na _ _)) (he := na _ _)).imp fun σ H Q ⟨G, P, E, F, h, env, k, ke⟩ =>
    ⟨G, _, E, F, h, env, fun v1 x G1 F1 H1 h1 e1 env1 r1 => by
      obtain ⟨n, hl, hn⟩ := rep_len (K := X.K) env1.base.fh r1 h1
      exact ⟨v1, n, rfl, hl, k _ _ G1 F1 H1 hn e1 env1 (.int _)⟩, ke⟩
def rLenX (b : Bs) : List V → Hp → VK → Prop := fun xs H Q => ∃ (a : Addr) (kvs : Kvs) (F : Hp) (σ : L2.St) (G : Gm) (i : Nat), xs = [V.ref a] ∧ EnvOk b F H G σ ∧ G[i]? = some (.ow a (.dct true kvs)) ∧ kvs.length ≤ 1000000 ∧ Q (.int kvs.length) H
theorem call_lenX (hP : b.P = X.prog) (hw : b.w = X.w) : CallR X (.builtin "len") (rLenX b) := by
  intro pins s σ0 H xs us Q I r h
  obtain ⟨a, kvs, F, σ, G, i, rfl, env, hi, hz, q⟩ := h
  obtain ⟨u, rfl, ru⟩ := vals1 r
  cases ru
  obtain ⟨_, _, _, own⟩ := env.slot i _ hi
  obtain ⟨xs, rk, dd, hsys, hl⟩ := dn_of hP hw I env.base.fh own
  have hlen : kvs.length = xs.length := Paired.length rk
  refine call_len_dictH hsys dd (by omega) ?_
  rw [← hlen]
  exact ⟨.int kvs.length, H, I.tok _, ⟨_, rfl⟩, q⟩
theorem se_lenN (hP : b.P = X.prog) (hw : b.w = X.w) (hg : Gl X "len") (hm : X.mg "len" = none) {i : Nat} {x : Str} (ha : PE X (.Name x p2) (tVar i)) : PE X (.Call (.Name "len" p) [.Name x p2] [] pos) (tA b (eLenN i)) :=
  (pe_callB (CallR.or call_len (CallR.or call_lenD (call_lenX hP hw))) hg hm PySem.boot_len (pa_cons ha pa_nil)).imp fun σ H Q ⟨G, P, E, F, h, env, k, ke⟩ => by
    unfold eLenN at h
    split at h
    · rename_i d hi
      obtain ⟨v, e, r⟩ := env.slot i _ hi
      obtain ⟨n, hl, hn⟩ := rep_len (K := X.K) env.base.fh r h
      exact ⟨v, e, .inl ⟨v, n, rfl, hl, k _ _ G F H hn (Ex.refl F) env (.int _)⟩⟩
    · rename_i l ds hi
      obtain ⟨e, _, _, vs, hl, rs⟩ := env.slot i _ hi
      exact ⟨_, e, .inl ⟨_, vs.length, rfl, .inl ⟨_, SqL.of hl, rfl⟩, by rw [rs.length]; exact k _ _ G F H h (Ex.refl F) env (.int _)⟩⟩
    · rename_i l tp kvs hi
      obtain ⟨e, _, _, own⟩ := env.slot i _ hi
      cases tp with
      | false =>
        obtain ⟨kvs', hl, rk⟩ := own
        exact ⟨_, e, .inr (.inl ⟨_, kvs', rfl, hl, by rw [← length_kp rk]; exact k _ _ G F H h.2 (Ex.refl F) env (.int _)⟩)⟩
      | true => exact ⟨_, e, .inr (.inr ⟨l, kvs, F, σ, G, i, rfl, env, hi, h.1, k _ _ G F H h.2 (Ex.refl F) env (.int _)⟩)⟩
    · exact h.elim

/-! ### tuple, list -/
theorem se_tuple (hg : Gl X "tuple") (hm : X.mg "tuple" = none) (ha : PE X a (tA b ma)) (na : NStar a) : PE X (.Call (.Name "tuple" p) [a] [] pos) (tA b (eTuple ma)) :=
  (pe_tupleOf hg hm ha (na _ _)).imp fun σ H Q ⟨G, P, E, F, h, env, k, ke⟩ =>
    ⟨G, _, E, F, h, env, fun v1 x G1 F1 H1 h1 e1 env1 r1 => by
      cases r1 with
      | @lst l xs ds hl rs =>
        refine .inl ⟨_, _, rfl, SqL.of (env1.base.fh _ _ hl), fun q hq => ?_⟩
        have st := Step.new1 env1.base.fh (p := q) (o := .tup xs) hq
        exact k _ _ G1 _ _ h1 (e1.trans st.ff) (env1.step st) (.tup upd_same (rs.mono st.ff))
      | @tup l xs ds hl rs => exact .inr ⟨_, _, rfl, SqT.of (env1.base.fh _ _ hl), k _ _ G1 _ _ h1 e1 env1 (.tup hl rs)⟩
      | _ => exact False.elim h1, ke⟩
theorem se_tupleN (hg : Gl X "tuple") (hm : X.mg "tuple" = none) {i : Nat} {x : Str} (ha : PE X (.Name x p2) (tVar i)) : PE X (.Call (.Name "tuple" p) [.Name x p2] [] pos) (tA b (eTupleN i)) :=
  (pe_tupleOf hg hm ha).imp fun σ H Q ⟨G, P, E, F, h, env, k, ke⟩ => by
    unfold eTupleN at h
    split at h
    · rename_i ds hi
      obtain ⟨v, e, r⟩ := env.slot i _ hi
      cases r with
      | @lst l xs ds hl rs =>
        refine ⟨_, e, .inl ⟨_, _, rfl, SqL.of (env.base.fh _ _ hl), fun q hq => ?_⟩⟩
        have st := Step.new1 env.base.fh (p := q) (o := .tup xs) hq
        exact k _ _ G _ _ h st.ff (env.step st) (.tup upd_same (rs.mono st.ff))
    · rename_i ds hi
      obtain ⟨v, e, r⟩ := env.slot i _ hi
      cases r with
      | @tup l xs ds hl rs => exact ⟨_, e, .inr ⟨_, _, rfl, SqT.of (env.base.fh _ _ hl), k _ _ G _ _ h (Ex.refl F) env (.tup hl rs)⟩⟩
    · rename_i l ds hi
      obtain ⟨e, _, _, vs, hl, rs⟩ := env.slot i _ hi
      refine ⟨_, e, .inl ⟨_, _, rfl, SqL.of hl, fun q hq => ?_⟩⟩
      have st := Step.new1 env.base.fh (p := q) (o := .tup vs) hq
      exact k _ _ G _ _ h st.ff (env.step st) (.tup upd_same (rs.mono st.ff))
    · exact h.elim
theorem se_list (hg : Gl X "list") (hm : X.mg "list" = none) (ha : PE X a (tA b ma)) (na : NStar a) : PE X (.Call (.Name "list" p) [a] [] pos) (tA b (eList ma)) :=
  (pe_callTy call_list_of hg hm boot_list (pa_cons ha pa_nil (na _ _)) (he := na _ _)).imp fun σ H Q ⟨G, P, E, F, h, env, k, ke⟩ =>
    ⟨G, _, E, F, h, env, fun v1 x G1 F1 H1 h1 e1 env1 r1 => by
      cases r1 with
      | @lst l xs ds hl rs =>
        refine ⟨_, _, rfl, .inl (SqL.of (env1.base.fh _ _ hl)), fun q hq => ?_⟩
        have st := Step.new1 env1.base.fh (p := q) (o := .lst xs) hq
        exact k _ _ G1 _ _ h1 (e1.trans st.ff) (env1.step st) (.lst upd_same (rs.mono st.ff))
      | @tup l xs ds hl rs =>
        refine ⟨_, _, rfl, .inr (SqT.of (env1.base.fh _ _ hl)), fun q hq => ?_⟩
        have st := Step.new1 env1.base.fh (p := q) (o := .lst xs) hq
        exact k _ _ G1 _ _ h1 (e1.trans st.ff) (env1.step st) (.lst upd_same (rs.mono st.ff))
      | _ => exact False.elim h1, ke⟩
theorem reps_keysV {F : Hp} {kvs : Kvs} {kvs' : List (Key × V)} (r : Paired (KP F) kvs kvs') : Reps F (kvs'.map fun kv => kV kv.1) (kvs.map fun p => unkey p.1) := by
  induction r with
  | nil => exact .nil
  | @cons p q ps qs h t ih =>
    rw [List.map_cons, List.map_cons]
    refine .cons ?_ ih
    rw [h.1]
    cases q.1 with
    | inl i => exact .int i
    | inr x => exact .str x
theorem se_keysN (hc : X.calm = true) (hg : Gl X "list") (hm : X.mg "list" = none) {i : Nat} {x : Str} (ha : PE X (.Name x p2) (tVar i)) : PE X (.Call (.Name "list" p) [.Name x p2] [] pos) (tA b (eKeysN i)) :=
  (pe_callTy (call_list_dK hc) hg hm boot_list (pa_cons ha pa_nil)).imp fun σ H Q ⟨G, P, E, F, h, env, k, ke⟩ => by
    unfold eKeysN at h
    split at h
    · rename_i l kvs hi
      obtain ⟨e, _, _, kvs', hl, rk⟩ := env.slot i _ hi
      refine ⟨_, e, _, _, rfl, hl, fun q hq => ?_⟩
      have st := Step.new1 env.base.fh (p := q) (o := .lst (kvs'.map fun kv => kV kv.1)) hq
      exact k _ _ G _ _ h st.ff (env.step st) (.lst upd_same ((reps_keysV rk).mono st.ff))
    · exact h.elim
theorem se_listR {d : Expr} {md : Sm} (hc : X.calm = true) (hg : Gl X "list") (hm : X.mg "list" = none) (hg2 : Gl X "range") (hm2 : X.mg "range" = none) {p3 : Pos} (ha : PE X a (tA b ma)) (hd : PE X d (tA b md)) (na : NStar a) (nd : NStar d) :
    PE X (.Call (.Name "list" p) [.Call (.Name "range" p2) [a, d] [] p3] [] pos) (tA b (eListR ma md)) :=
  (pe_listRg hc hg hm (prg_2 hg2 hm2 ha hd (na _ _) (nd _ _) (by rw [nd]; rfl))).imp fun σ H Q ⟨G, P, E, F, h, env, k, ke⟩ =>
    ⟨G, _, E, F, h, env, fun v1 x G1 F1 H1 h1 e1 env1 r1 => ⟨G1, _, E, F1, h1, env1, fun v2 y G2 F2 H2 h2 e2 env2 r2 => by
      dsimp only at h2
      split at h2
      · rename_i i j
        cases r1
        cases r2
        refine ⟨_, _, rfl, rfl, h2.1, fun q hq => ?_⟩
        have st := Step.new1 env2.base.fh (p := q) (o := .lst (rgV i j)) hq
        exact k _ _ G2 _ _ h2.2 ((e1.trans e2).trans st.ff) (env2.step st) (.lst upd_same (reps_rg _ _))
      · exact h2.elim, ke.mono e1⟩, ke⟩
theorem se_tupR (hc : X.calm = true) (hg : Gl X "tuple") (hm : X.mg "tuple" = none) (hg2 : Gl X "range") (hm2 : X.mg "range" = none) {p3 : Pos} (ha : PE X a (tA b ma)) (na : NStar a) :
    PE X (.Call (.Name "tuple" p) [.Call (.Name "range" p2) [a] [] p3] [] pos) (tA b (eTupR ma)) :=
  (pe_tupRg hc hg hm (prg_1 hg2 hm2 ha (na _ _))).imp fun σ H Q ⟨G, P, E, F, h, env, k, ke⟩ =>
    ⟨G, _, E, F, h, env, fun v1 x G1 F1 H1 h1 e1 env1 r1 => by
      dsimp only at h1
      split at h1
      · rename_i j
        cases r1
        refine ⟨_, rfl, h1.1, fun q hq => ?_⟩
        have st := Step.new1 env1.base.fh (p := q) (o := .tup (rgV 0 j)) hq
        exact k _ _ G1 _ _ h1.2 (e1.trans st.ff) (env1.step st) (.tup upd_same (reps_rg _ _))
      · exact h1.elim, ke⟩

/-! ### numbers -/
theorem se_sum (hc : X.calm = true) (hg : Gl X "sum") (hm : X.mg "sum" = none) (ha : PE X a (tA b ma)) (na : NStar a) : PE X (.Call (.Name "sum" p) [a] [] pos) (tA b (eSum ma)) :=
  (pe_callB (cr_sum hc) hg hm (by decide +kernel) (pa_cons ha pa_nil (na _ _)) (he := na _ _)).imp fun σ H Q ⟨G, P, E, F, h, env, k, ke⟩ =>
    ⟨G, _, E, F, h, env, fun v1 x G1 F1 H1 h1 e1 env1 r1 => by
      dsimp only at h1
      split at h1
      · obtain ⟨l, xs, rfl, hl, rs⟩ := ref_lst r1
        split at h1
        · rename_i ns hn
          refine ⟨l, ns, rfl, SqL.of ?_, k _ _ G1 _ _ h1 e1 env1 (.int _)⟩
          rw [← rs.ints hn]
          exact env1.base.fh _ _ hl
        · exact h1.elim
      · exact h1.elim, ke⟩
theorem se_max2 {d : Expr} {md : Sm} (hc : X.calm = true) (hg : Gl X "max") (hm : X.mg "max" = none) (ha : PE X a (tA b ma)) (hd : PE X d (tA b md)) (na : NStar a) (nd : NStar d) : PE X (.Call (.Name "max" p) [a, d] [] pos) (tA b (eMax2 ma md)) :=
  (pe_callB (call_max2 hc) hg hm boot_max (pa_cons ha (pa_cons hd pa_nil (nd _ _)) (na _ _)) (he := na _ _) (hpl := by rw [nd]; rfl)).imp fun σ H Q ⟨G, P, E, F, h, env, k, ke⟩ =>
    ⟨G, _, E, F, h, env, fun v1 x G1 F1 H1 h1 e1 env1 r1 => ⟨G1, _, E, F1, h1, env1, fun v2 y G2 F2 H2 h2 e2 env2 r2 => by
      dsimp only at h2
      split at h2
      · cases r1
        cases r2
        exact ⟨_, _, rfl, k _ _ G2 _ _ h2 (e1.trans e2) env2 (.int _)⟩
      · exact h2.elim, ke.mono e1⟩, ke⟩
theorem se_min2 {d : Expr} {md : Sm} (hc : X.calm = true) (hg : Gl X "min") (hm : X.mg "min" = none) (ha : PE X a (tA b ma)) (hd : PE X d (tA b md)) (na : NStar a) (nd : NStar d) : PE X (.Call (.Name "min" p) [a, d] [] pos) (tA b (eMin2 ma md)) :=
  (pe_callB (call_min2 hc) hg hm boot_min (pa_cons ha (pa_cons hd pa_nil (nd _ _)) (na _ _)) (he := na _ _) (hpl := by rw [nd]; rfl)).imp fun σ H Q ⟨G, P, E, F, h, env, k, ke⟩ =>
    ⟨G, _, E, F, h, env, fun v1 x G1 F1 H1 h1 e1 env1 r1 => ⟨G1, _, E, F1, h1, env1, fun v2 y G2 F2 H2 h2 e2 env2 r2 => by
      dsimp only at h2
      split at h2
      · cases r1
        cases r2
        exact ⟨_, _, rfl, k _ _ G2 _ _ h2 (e1.trans e2) env2 (.int _)⟩
      · exact h2.elim, ke.mono e1⟩, ke⟩
theorem se_int (hg : Gl X "int") (hm : X.mg "int" = none) (ha : PE X a (tA b ma)) (na : NStar a) : PE X (.Call (.Name "int" p) [a] [] pos) (tA b (eInt ma)) :=
  (pe_callTy call_int1 hg hm boot_int (pa_cons ha pa_nil (na _ _)) (he := na _ _)).imp fun σ H Q ⟨G, P, E, F, h, env, k, ke⟩ =>
    ⟨G, _, E, F, h, env, fun v1 x G1 F1 H1 h1 e1 env1 r1 => by
      cases r1 with
      | bl c => exact .inr ⟨c, rfl, k _ _ G1 _ _ h1 e1 env1 (.int _)⟩
      | _ => exact False.elim h1, ke⟩
theorem se_abs (hg : Gl X "abs") (hm : X.mg "abs" = none) (ha : PE X a (tA b ma)) (na : NStar a) : PE X (.Call (.Name "abs" p) [a] [] pos) (tA b (eAbs ma)) :=
  (pe_callB call_abs hg hm boot_abs (pa_cons ha pa_nil (na _ _)) (he := na _ _)).imp fun σ H Q ⟨G, P, E, F, h, env, k, ke⟩ =>
    ⟨G, _, E, F, h, env, fun v1 x G1 F1 H1 h1 e1 env1 r1 => by
      cases r1 with
      | int i => exact ⟨i, rfl, k _ _ G1 _ _ h1 e1 env1 (.int _)⟩
      | _ => exact False.elim h1, ke⟩
theorem se_strI (hg : Gl X "str") (hm : X.mg "str" = none) (ha : PE X a (tA b ma)) (na : NStar a) : PE X (.Call (.Name "str" p) [a] [] pos) (tA b (eStrI ma)) :=
  (pe_callTy call_str_int hg hm boot_str (pa_cons ha pa_nil (na _ _)) (he := na _ _)).imp fun σ H Q ⟨G, P, E, F, h, env, k, ke⟩ =>
    ⟨G, _, E, F, h, env, fun v1 x G1 F1 H1 h1 e1 env1 r1 => by
      cases r1 with
      | int i =>
        obtain ⟨⟨h2, h3⟩, h4⟩ := h1
        refine ⟨i, rfl, sizes_log h2 h3, k _ _ G1 _ _ (h4 _ ?_) e1 env1 (.str _)⟩
        obtain ⟨n, rfl⟩ := Int.eq_ofNat_of_zero_le h2
        exact str_small n (by omega)
      | _ => exact False.elim h1, ke⟩
theorem se_sorted (hg : Gl X "sorted") (hm : X.mg "sorted" = none) (ha : PE X a (tA b ma)) (na : NStar a) : PE X (.Call (.Name "sorted" p) [a] [] pos) (tA b (eSorted ma)) :=
  (pe_callB cr_sortedI hg hm boot_sorted (pa_cons ha pa_nil (na _ _)) (he := na _ _)).imp fun σ H Q ⟨G, P, E, F, h, env, k, ke⟩ =>
    ⟨G, _, E, F, h, env, fun v1 x G1 F1 H1 h1 e1 env1 r1 => by
      dsimp only at h1
      split at h1
      · obtain ⟨l, xs, rfl, hl, rs⟩ := ref_lst r1
        split at h1
        · rename_i ns hn
          refine ⟨l, ns, rfl, SqL.of ?_, fun ns' q h2 h3 hq => ?_⟩
          · rw [← rs.ints hn]
            exact env1.base.fh _ _ hl
          · have st := Step.new1 env1.base.fh (p := q) (o := .lst (ns'.map V.int)) hq
            exact k _ _ G1 _ _ (h1 ns' h2 h3) (e1.trans st.ff) (env1.step st) (.lst upd_same (reps_ints _))
        · exact h1.elim
      · exact h1.elim, ke⟩
def Ty3.nm : Ty3 → String
  | .b => "bool"
  | .i => "int"
  | .s => "str"
theorem se_inst {T : Str} {n : Ty3} (hg : Gl X "isinstance") (hm : X.mg "isinstance" = none) (hgT : Gl X T) (hmT : X.mg T = none) (hv : bootBuiltins T = some (.type n.nm)) (hn : T ≠ "__name__") (hd : (T == ("__debug__" : Str)) = false) (ha : PE X a (tA b ma)) (na : NStar a) :
    PE X (.Call (.Name "isinstance" p) [a, .Name T p2] [] pos) (tA b (eInst ma n)) :=
  (pe_callB call_isi hg hm boot_isinstance (pa_cons ha (pa_cons (pe_bltn (v := .ty n.nm) hgT hmT hv rfl hn hd) pa_nil) (na _ _)) (he := na _ _)).imp fun σ H Q ⟨G, P, E, F, h, env, k, ke⟩ =>
    ⟨G, _, E, F, h, env, fun v1 x G1 F1 H1 h1 e1 env1 r1 => by
      have fin : ∀ {t : String} {r : Bool}, TyX X.K H1 v1 (.type t) → kitB t n.nm = some r → P (.bool r) G1 → rIsi X.K [v1, .ty n.nm] H1 Q := fun {t r} ht hk hp =>
        ⟨v1, .ty n.nm, .type t, .type n.nm, r, rfl, .ty n.nm, ht, kit_ty hk, k _ _ G1 _ _ hp e1 env1 (.bl _)⟩
      show rIsi X.K [v1, .ty n.nm] H1 Q
      cases n <;> cases r1 <;> first
        | exact False.elim h1
        | exact fin (.base (.bl _)) (by decide +kernel) h1
        | exact fin (.base (.int _)) (by decide +kernel) h1
        | exact fin (.base (.str _)) (by decide +kernel) h1, ke⟩
end
end Wd

/-! A7: max(x, default=0). -/
namespace Wd
open PySem PySem.Spec PyProof.Rows L2
open Evl (Ex Ex.refl Ex.trans Ex.new Ex.mut fresh_back)

theorem fold_max : ∀ (ns : List Int) (n : Int), (ns.foldl max n = n ∨ ns.foldl max n ∈ ns) ∧ n ≤ ns.foldl max n ∧ ∀ y, y ∈ ns → y ≤ ns.foldl max n
  | [], n => ⟨.inl rfl, Int.le_refl _, fun y h => nomatch h⟩
  | a :: r, n => by
    obtain ⟨h1, h2, h3⟩ := fold_max r (max n a)
    rw [List.foldl_cons]
    refine ⟨?_, by omega, fun y hy => ?_⟩
    · rcases h1 with h1 | h1
      · rw [h1]
        by_cases q : n ≤ a
        · exact .inr (by rw [Int.max_eq_right q]; exact List.mem_cons_self)
        · exact .inl (Int.max_eq_left (by omega))
      · exact .inr (List.mem_cons_of_mem _ h1)
    · rcases List.mem_cons.mp hy with e | hy
      · subst e; omega
      · exact h3 y hy
theorem reads_ints {h : Heap} : ∀ {us : List Value} {ns : List Int}, IntsAre us ns → ∃ as, ReadsAll h us (ns.map PyData.int) as
  | _, _, .nil => ⟨_, .nil⟩
  | _, _, .cons n t r => let ⟨_, q⟩ := reads_ints (h := h) r; ⟨_, .cons (.int n t) q⟩
theorem depth_ints : ∀ ns : List Int, PyData.depthAll (ns.map PyData.int) = 0
  | [] => by simp [PyData.depthAll]
  | n :: r => by
    have e := depth_ints r
    rw [List.map_cons]
    simp [PyData.depthAll, PyData.depth, e]
section
variable {b : Bs} {X : Cx} {a c : Expr} {ma : Sm} {pos p : Pos}
def rMaxD (K : PySem.W.Frag) : List V → List V → Hp → VK → Prop := fun vs zs H Q => ∃ (a : Addr) (ns : List Int), vs = [V.ref a] ∧ zs = [.int 0] ∧ SqL K H a (ns.map V.int) ∧ (ns = [] → Q (.int 0) H) ∧ ∀ m, m ∈ ns → (∀ y, y ∈ ns → y ≤ m) → Q (.int m) H
theorem cr_maxD (hc : X.calm = true) (hu : X.A.units + 100 < cLine) : CallRK X (.builtin "max") [Str.ofString "default"] (rMaxD X.K) := by
  intro pins s σ H vs zs us ws Q I r rz h
  obtain ⟨a, ns, rfl, rfl, hs, h0, h1⟩ := h
  obtain rfl := Vals.ref1 r
  obtain ⟨w1, rfl, t, rfl⟩ := vals1 rz
  obtain ⟨its, rv, hl, hz⟩ := I.list hs
  obtain ⟨as, hr⟩ := reads_ints (h := s.heap) rv.ints
  refine PySem.W.max_list_default (vs := its.toArray) (xs := ns.map PyData.int) (as := as) (I.ok.hd hc) hl.isList (by simpa using hr) ?_ ?_ (fun e h' tk k => ?_) fun y ys i v h' tk bs e hv rd k => ?_
  · refine ⟨fun x hx y hy => ?_, fun x hx => ?_⟩
    · obtain ⟨i, _, rfl⟩ := List.mem_map.mp hx
      obtain ⟨j, _, rfl⟩ := List.mem_map.mp hy
      rfl
    · obtain ⟨i, _, rfl⟩ := List.mem_map.mp hx
      exact fun z => nomatch z
  · rw [depth_ints]; omega
  · have e' : ns = [] := by simpa using e
    exact ⟨.int 0, H, I.kept k, ⟨t, rfl⟩, h0 e'⟩
  · cases ns with
    | nil => simp at e
    | cons n r' =>
      rw [List.map_cons] at e
      injection e with e1 e2
      subst e1 e2
      rw [PySem.W.maxD_ints] at rd
      obtain ⟨g1, g2, g3⟩ := fold_max r' n
      have q := h1 (r'.foldl max n) (by
        rcases g1 with g | g
        · rw [g]; exact List.mem_cons_self
        · exact List.mem_cons_of_mem _ g) (fun y hy => by
        rcases List.mem_cons.mp hy with e | hy
        · subst e; exact g2
        · exact g3 y hy)
      generalize r'.foldl max n = m at rd q
      cases rd with
      | int _ t' => exact ⟨.int m, H, I.kept k, ⟨t', rfl⟩, q⟩
theorem se_maxD {d : Expr} {kp : Pos} (hu : X.A.units + 100 < cLine) (hc : X.calm = true) (hg : Gl X "max") (hm : X.mg "max" = none) (ha : PE X a (tA b ma)) (hd : PE X d (tC (.int 0))) (na : NStar a) :
    PE X (.Call (.Name "max" p) [a] [⟨some "default", d, kp⟩] pos) (tA b (eMaxD ma)) :=
  (pe_callBK (cr_maxD hc hu) hg hm boot_max (pa_cons ha pa_nil (na _ _)) (pk_cons hd pk_nil) (he := by rw [na]; rfl) (hpl := by rw [na]; rfl)).imp fun σ H Q ⟨G, P, E, F, h, env, k, ke⟩ =>
    ⟨G, _, E, F, h, env, fun v1 x G1 F1 H1 h1 e1 env1 r1 => by
      dsimp only at h1
      split at h1
      · obtain ⟨l, xs, rfl, hl, rs⟩ := ref_lst r1
        split at h1
        · rename_i ns hn
          refine ⟨l, ns, rfl, rfl, SqL.of ?_, fun e => k _ _ G1 _ _ (h1.1 e) e1 env1 (.int _), fun m h2 h3 => k _ _ G1 _ _ (h1.2 m h2 h3) e1 env1 (.int _)⟩
          rw [← rs.ints hn]
          exact env1.base.fh _ _ hl
        · exact h1.elim
      · exact h1.elim, ke⟩
end
end Wd

/-! A8: what is walked, in a calm context and within an except suite (hot). -/
namespace Wd
open PySem PySem.Spec PyProof.Rows L2 HotX
open L2H (HotC TurnH PIH PIEH RoomH FnH)
open Evl (Ex Ex.refl Ex.trans Ex.new Ex.mut fresh_back)

/-! ### the end of a walk where an exception is handled -/
section
variable {prog : Program} {w : World} {A : Around} {E : Value → Shared → Prop} {s : Shared}
/-- StopIteration is made, chained and dropped: nothing that stood is changed -/
theorem stop_hot {α : Type} {x1 : Addr} {Q : α → Shared → Prop} {E' : Value → Shared → Prop} (hot : HotAt A x1 s.heap)
    (hE : ∀ (h' : Heap) (e : Addr), (∀ c o, s.heap.get? c = some o → h'.get? c = some o) → (∃ o : Obj, h'.get? e = some o ∧ o.cls = .type "StopIteration") → E' (.ref e) { s with heap := h' }) :
    wpAny (model prog w) A (newExc (.type "StopIteration") [] >>= fun v => (raiseNew v : Sem α)) Q E' s := by
  obtain ⟨hh, o1, vs1, h1, d1, c1⟩ := hot
  refine wpAny_bind ?_
  simp only [newExc, newTuple]
  refine wpAny_bind (wpAny_newObj_type ?_ (by size_fits))
  refine wpAny_bind (m := firstArgMember _ _) (wpAny_of_eq (a := Value.none) (by first | rfl | (simp only [firstArgMember]; rfl)) ?_)
  refine wpAny_newObj_type ?_ (by size_fits)
  refine raiseNew_hot ⟨hh, o1, vs1, Heap.get?_push_of_some _ (Heap.get?_push_of_some _ h1), d1, c1⟩ (Nat.ne_of_lt (Heap.lt_size (Heap.get?_push_of_some _ h1))) (Heap.get?_push_size _ rfl) rfl
    (by first | (simp; done) | (simp; omega) | (simp only [Array.size_append]; simp; omega)) ?_
  refine hE _ _ (fun c o e => ?_) ⟨_, Heap.get?_update_self _ (Heap.get?_push_size _ rfl) rfl, rfl⟩
  rw [Heap.get?_update_other _ _ (Nat.ne_of_gt (Heap.lt_size (Heap.get?_push_of_some _ e)))]
  exact Heap.get?_push_of_some _ (Heap.get?_push_of_some _ e)
theorem next_list_hot {it l x1 : Addr} {i : Nat} {items : Array Value} {Q : Option Value → Shared → Prop} (hot : HotAt A x1 s.heap) (hit : s.heap.IsListIter it l i) (hl : s.heap.IsList l items) (hx : items[i]? = none) (hne : it ≠ x1)
    (hQ : ∀ h', Heap.ExtBut it s.heap h' → Q none { s with heap := h' }) : wpAny (model prog w) A (pyNext (.ref it)) Q E s := by
  obtain ⟨o, ho, hc, hd⟩ := id hit
  obtain ⟨ol, hol, _, nl, hdl⟩ := hl
  obtain ⟨hh, o1, vs1, h1, d1, c1⟩ := hot
  unfold pyNext
  refine wpAny_bind (wpAny_attempt (wpAny_callSpecial?_slot (name := Str.ofString "__next__") hit.typeIs slot_listiter_next
    (wpAny_call_entry slot_listiter_next hit.typeIs entry_listiter_next ?_ (args_listiter_next _))))
  show wpAny _ _ (field (.ref it) 0 >>= _) _ _ s
  refine wpAny_bind (wpAny_field ho hd (x := .ref l) rfl ?_)
  show wpAny _ _ (if (Value.ref l == Value.none) = true then _ else _) _ _ s
  rw [if_neg (show ¬ ((Value.ref l == Value.none) = true) from Bool.false_ne_true)]
  show wpAny _ _ (field (.ref it) 1 >>= _) _ _ s
  refine wpAny_bind (wpAny_field ho hd (x := .int i 0) rfl ?_)
  show wpAny _ _ (seqItems? (.ref l) >>= _) _ _ s
  refine wpAny_bind (wpAny_seqItems hol hdl ?_)
  simp only [Int.toNat_natCast, hx]
  refine wpAny_bind (wpAny_rule (wpAny_bind (wpAny_setField ho hd (by simp) ?_)))
  have hot' : HotAt A.in1 x1 (s.heap.update it (Obj.mapFields (·.setIfInBounds 0 Value.none))) := ⟨hh, o1, vs1, (Heap.get?_update_other _ _ hne).trans h1, d1, c1⟩
  refine stop_hot (A := A.in1) (s := { s with heap := _ }) hot' fun h' e k ⟨oe, he, hce⟩ => ?_
  refine wpAny_bind (wpAny_isInstance (T := "StopIteration") (b := true) ⟨oe, he, hce⟩ isSubtype_stop ?_)
  exact wpAny_pure (hQ _ fun c oc hcn q => k c oc ((Heap.get?_update_other _ _ (Ne.symm hcn)).trans q))
theorem next_tuple_hot {it l x1 : Addr} {i : Nat} {items : Array Value} {Q : Option Value → Shared → Prop} (hot : HotAt A x1 s.heap) (hit : s.heap.IsTupleIter it l i) (hl : s.heap.IsTuple l items) (hx : items[i]? = none) (hne : it ≠ x1)
    (hQ : ∀ h', Heap.ExtBut it s.heap h' → Q none { s with heap := h' }) : wpAny (model prog w) A (pyNext (.ref it)) Q E s := by
  obtain ⟨o, ho, hc, hd⟩ := id hit
  obtain ⟨ol, hol, _, nl, hdl⟩ := hl
  obtain ⟨hh, o1, vs1, h1, d1, c1⟩ := hot
  unfold pyNext
  refine wpAny_bind (wpAny_attempt (wpAny_callSpecial?_slot (name := Str.ofString "__next__") hit.typeIs F.slot_tuple_iterator_next
    (wpAny_call_entry F.slot_tuple_iterator_next hit.typeIs F.entry_tuple_iterator_next ?_ (F.args_tuple_iterator_next_1 _))))
  show wpAny _ _ (field (.ref it) 0 >>= _) _ _ s
  refine wpAny_bind (wpAny_field ho hd (x := .ref l) rfl ?_)
  show wpAny _ _ (if (Value.ref l == Value.none) = true then _ else _) _ _ s
  rw [if_neg (show ¬ ((Value.ref l == Value.none) = true) from Bool.false_ne_true)]
  show wpAny _ _ (field (.ref it) 1 >>= _) _ _ s
  refine wpAny_bind (wpAny_field ho hd (x := .int i 0) rfl ?_)
  show wpAny _ _ (seqItems? (.ref l) >>= _) _ _ s
  refine wpAny_bind (wpAny_seqItems hol hdl ?_)
  simp only [Int.toNat_natCast, hx]
  refine wpAny_bind (wpAny_rule (wpAny_bind (wpAny_setField ho hd (by simp) ?_)))
  have hot' : HotAt A.in1 x1 (s.heap.update it (Obj.mapFields (·.setIfInBounds 0 Value.none))) := ⟨hh, o1, vs1, (Heap.get?_update_other _ _ hne).trans h1, d1, c1⟩
  refine stop_hot (A := A.in1) (s := { s with heap := _ }) hot' fun h' e k ⟨oe, he, hce⟩ => ?_
  refine wpAny_bind (wpAny_isInstance (T := "StopIteration") (b := true) ⟨oe, he, hce⟩ isSubtype_stop ?_)
  exact wpAny_pure (hQ _ fun c oc hcn q => k c oc ((Heap.get?_update_other _ _ (Ne.symm hcn)).trans q))
end
/-- the handled exception is no record of an iterator of ours -/
theorem hot_apart {X : Cx} {pins : List (Addr × Obj)} {σ : L2.St} {H : Hp} {s : Shared} {it : Addr} (c : HotC X) (I : Inv X pins σ H s) (f : ∀ p ∈ X.pn ++ pins, p.1 ≠ it) : ∃ x1, HotAt X.A x1 s.heap ∧ it ≠ x1 := by
  obtain ⟨p, ⟨hh, v1, e1, c1⟩, hp⟩ := c
  exact ⟨p.1, ⟨hh, p.2, v1, (I.pin p (List.mem_append_left _ hp)).1, e1, c1⟩, Ne.symm (f p (List.mem_append_left _ hp))⟩
theorem turn_listH {P : Program} {w : World} {K : PySem.W.Frag} {tg : Expr} (a it : Addr) : TurnH P w K tg (Itl K a) [it] it (fun i h => h.IsListIter it a i) where
  mem := (turn_list (P := P) (w := w) (K := K) (tg := tg) a it).mem
  obj := (turn_list (P := P) (w := w) (K := K) (tg := tg) a it).obj
  keep := (turn_list (P := P) (w := w) (K := K) (tg := tg) a it).keep
  item := by
    intro X hP hw hK hc i pins s σ H E I hf st hg
    subst hP hw hK
    obtain ⟨xs, x, hq, hx⟩ := hg
    obtain ⟨its, rv, p, hz⟩ := I.list hq
    obtain ⟨u, hu, ru⟩ := rv.get hx
    obtain ⟨f0, f1, f2, f3, f4, f5⟩ := hf it (by simp)
    refine wpAny_pyNext_list_item st p.isList (x := u) (by simpa using hu) fun h' st' sb => ?_
    have I1 : Inv X pins σ H { s with heap := h' } := I.turned (t' := s.toks) (fun b o hb e => (sb.2 b hb).trans e) f0 f1 f3 f4 f5
    obtain ⟨o, e, c, d⟩ := id st'
    exact ⟨u, rfl, go_of (s := { s with heap := h' }) e c d (by decide) ⟨x, H, I1, ru, ⟨rfl, fun ys hy => by rw [I.list_inj hy hq]; exact hx⟩, st', fun b hb => (hf b hb).1⟩⟩
  done := by
    intro X hP hw hK hc i pins s σ H E I hf st hg
    subst hP hw hK
    obtain ⟨xs, hq, hx⟩ := hg
    obtain ⟨its, rv, p, hz⟩ := I.list hq
    obtain ⟨f0, f1, f2, f3, f4, f5⟩ := hf it (by simp)
    have hl := rv.length
    obtain ⟨x1, hot, hne⟩ := hot_apart hc I f5
    exact next_list_hot hot st p.isList (by simp; omega) hne fun h' eb => ⟨rfl, I.turned (t' := s.toks) (fun b o hb e => eb b o hb e) f0 f1 f3 f4 f5⟩
  self := fun _ _ _ _ _ st h => wpAny_pyIter_listiter st h
theorem turn_tupleH {P : Program} {w : World} {K : PySem.W.Frag} {tg : Expr} (a it : Addr) : TurnH P w K tg (Itt K a) [it] it (fun i h => h.IsTupleIter it a i) where
  mem := (turn_tuple (P := P) (w := w) (K := K) (tg := tg) a it).mem
  obj := (turn_tuple (P := P) (w := w) (K := K) (tg := tg) a it).obj
  keep := (turn_tuple (P := P) (w := w) (K := K) (tg := tg) a it).keep
  item := by
    intro X hP hw hK hc i pins s σ H E I hf st hg
    subst hP hw hK
    obtain ⟨xs, x, hq, hx⟩ := hg
    obtain ⟨its, rv, p, hz⟩ := I.tuple hq
    obtain ⟨u, hu, ru⟩ := rv.get hx
    obtain ⟨f0, f1, f2, f3, f4, f5⟩ := hf it (by simp)
    refine wpAny_pyNext_tuple_item st (show s.heap.IsTuple a its.toArray from p) (x := u) (by simpa using hu) fun h' st' sb => ?_
    have I1 : Inv X pins σ H { s with heap := h' } := I.turned (t' := s.toks) (fun b o hb e => (sb.2 b hb).trans e) f0 f1 f3 f4 f5
    obtain ⟨o, e, c, d⟩ := id st'
    exact ⟨u, rfl, go_of (s := { s with heap := h' }) e c d (by decide) ⟨x, H, I1, ru, ⟨rfl, fun ys hy => by rw [I.tuple_inj hy hq]; exact hx⟩, st', fun b hb => (hf b hb).1⟩⟩
  done := by
    intro X hP hw hK hc i pins s σ H E I hf st hg
    subst hP hw hK
    obtain ⟨xs, hq, hx⟩ := hg
    obtain ⟨its, rv, p, hz⟩ := I.tuple hq
    obtain ⟨f0, f1, f2, f3, f4, f5⟩ := hf it (by simp)
    have hl := rv.length
    obtain ⟨x1, hot, hne⟩ := hot_apart hc I f5
    exact next_tuple_hot hot st (show s.heap.IsTuple a its.toArray from p) (by simp; omega) hne fun h' eb => ⟨rfl, I.turned (t' := s.toks) (fun b o hb e => eb b o hb e) f0 f1 f3 f4 f5⟩
  self := fun _ _ _ _ _ st h => wpAny_pyIter_tupleiter st h

/-! ### a list or a tuple, walked -/
def iSeqT (K : PySem.W.Frag) (te : TE) : TI := fun σ H R => te σ H fun x H1 => ∃ a, x = .ref a ∧ (((∃ xs, SqL K H1 a xs) ∧ R (Itl K a) H1) ∨ ((∃ xs, SqT K H1 a xs) ∧ R (Itt K a) H1))
section
variable {X : Cx} {tg l : Expr} {te : TE}
theorem pi_seq (hl : PE X l te) : PI X tg l (iSeqT X.K te) := by
  refine ⟨fun pins s σ H R I h => ?_⟩
  refine thn (hl.run pins s σ H _ I h) fun v s1 ⟨x, H1, I1, r1, a, ex, q1⟩ => ?_
  subst ex
  cases r1
  have fp : ∀ c ∈ [s1.heap.objs.size], FpOk X pins H1 c := fun c hc => by
    have e : c = s1.heap.objs.size := by simpa using hc
    subst e
    exact I1.fpOk (Nat.le_refl _) (I1.hok.fresh (Nat.le_refl _))
  have I2 : ∀ o : Obj, Inv X pins σ H1 { s1 with heap := s1.heap.push o } := fun o => I1.kept (t' := s1.toks) fun c u e => Heap.get?_push_of_some _ e
  rcases q1 with ⟨⟨xs, hq⟩, q⟩ | ⟨⟨xs, hq⟩, q⟩
  · obtain ⟨its, rv, p, hz⟩ := I1.list hq
    exact wpAny_pyIter_list p.isList ⟨s1.heap.objs.size, [s1.heap.objs.size], _, _, H1, rfl, I2 _, turn_list a _, ⟨_, Heap.get?_push_size _ rfl, rfl, rfl⟩, fp, q⟩
  · obtain ⟨its, rv, p, hz⟩ := I1.tuple hq
    exact wpAny_pyIter_tuple (show s1.heap.IsTuple a its.toArray from p) ⟨s1.heap.objs.size, [s1.heap.objs.size], _, _, H1, rfl, I2 _, turn_tuple a _, ⟨_, Heap.get?_push_size _ rfl, rfl, rfl⟩, fp, q⟩
theorem pi_seqH (hl : PE X l te) : PIH X tg l (iSeqT X.K te) := by
  refine ⟨fun pins s σ H R I h => ?_⟩
  refine thn (hl.run pins s σ H _ I h) fun v s1 ⟨x, H1, I1, r1, a, ex, q1⟩ => ?_
  subst ex
  cases r1
  have fp : ∀ c ∈ [s1.heap.objs.size], FpOk X pins H1 c := fun c hc => by
    have e : c = s1.heap.objs.size := by simpa using hc
    subst e
    exact I1.fpOk (Nat.le_refl _) (I1.hok.fresh (Nat.le_refl _))
  have I2 : ∀ o : Obj, Inv X pins σ H1 { s1 with heap := s1.heap.push o } := fun o => I1.kept (t' := s1.toks) fun c u e => Heap.get?_push_of_some _ e
  rcases q1 with ⟨⟨xs, hq⟩, q⟩ | ⟨⟨xs, hq⟩, q⟩
  · obtain ⟨its, rv, p, hz⟩ := I1.list hq
    exact wpAny_pyIter_list p.isList ⟨s1.heap.objs.size, [s1.heap.objs.size], _, _, H1, rfl, I2 _, turn_listH a _, ⟨_, Heap.get?_push_size _ rfl, rfl, rfl⟩, fp, q⟩
  · obtain ⟨its, rv, p, hz⟩ := I1.tuple hq
    exact wpAny_pyIter_tuple (show s1.heap.IsTuple a its.toArray from p) ⟨s1.heap.objs.size, [s1.heap.objs.size], _, _, H1, rfl, I2 _, turn_tupleH a _, ⟨_, Heap.get?_push_size _ rfl, rfl, rfl⟩, fp, q⟩
end

/-! ### what is walked, on data -/
/-- the walk J goes over the items ds, wherever `stay` holds -/
def ItOk (ds : List D) (stay : Gm → Prop) (F : Hp) (J : It) : Prop := ∀ (b : Bs) (F' H' : Hp) (G' : Gm) (σ' : L2.St) (i : Nat), Ex F F' → EnvOk b F' H' G' σ' → stay G' →
  (i < ds.length → J.go i H') ∧ (ds.length ≤ i → J.stop i H') ∧ ∀ x H3, J.yld i H' x H3 → i < ds.length → H3 = H' ∧ ∃ d, ds[i]? = some d ∧ Rep F' x d
def tI (b : Bs) (m : Im) : TI := fun σ H R => ∃ G P E F, m G P E ∧ EnvOk b F H G σ ∧ (∀ ds stay G' F' H' J, P ds stay G' → Ex F F' → EnvOk b F' H' G' σ → ItOk ds stay F' J → R J H') ∧ Ke b F σ E
section
variable {b : Bs} {K : PySem.W.Frag}
theorem it_list {F : Hp} {a : Addr} {xs : List V} {ds : List D} (h : F a = some (.lst xs)) (r : Reps F xs ds) : ItOk ds (fun _ => True) F (Itl K a) := by
  intro b F' H' G' σ' i e env _
  have hh : H' a = some (.lst xs) := env.base.fh _ _ (e _ _ h)
  have rl := r.length
  refine ⟨fun hi => ⟨xs, xs[i]'(by omega), SqL.of hh, List.getElem?_eq_getElem (by omega)⟩, fun hi => ⟨xs, SqL.of hh, by omega⟩, fun x H3 ⟨e3, hy⟩ hi => ⟨e3, ?_⟩⟩
  obtain ⟨d, hd, rd⟩ := r.getV (hy xs (SqL.of hh))
  exact ⟨d, hd, rd.mono e⟩
theorem it_tup {F : Hp} {a : Addr} {xs : List V} {ds : List D} (h : F a = some (.tup xs)) (r : Reps F xs ds) : ItOk ds (fun _ => True) F (Itt K a) := by
  intro b F' H' G' σ' i e env _
  have hh : H' a = some (.tup xs) := env.base.fh _ _ (e _ _ h)
  have rl := r.length
  refine ⟨fun hi => ⟨xs, xs[i]'(by omega), SqT.of hh, List.getElem?_eq_getElem (by omega)⟩, fun hi => ⟨xs, SqT.of hh, by omega⟩, fun x H3 ⟨e3, hy⟩ hi => ⟨e3, ?_⟩⟩
  obtain ⟨d, hd, rd⟩ := r.getV (hy xs (SqT.of hh))
  exact ⟨d, hd, rd.mono e⟩
theorem it_own {F : Hp} {j : Nat} {l : Addr} {ds : List D} : ItOk ds (fun G' => G'[j]? = some (.ow l (.lst ds))) F (Itl K l) := by
  intro b F' H' G' σ' i e env st
  obtain ⟨_, _, _, vs, hl, rs⟩ := env.slot j _ st
  have rl := rs.length
  refine ⟨fun hi => ⟨vs, vs[i]'(by omega), SqL.of hl, List.getElem?_eq_getElem (by omega)⟩, fun hi => ⟨vs, SqL.of hl, by omega⟩, fun x H3 ⟨e3, hy⟩ hi => ⟨e3, ?_⟩⟩
  obtain ⟨d, hd, rd⟩ := rs.getV (hy vs (SqL.of hl))
  exact ⟨d, hd, rd⟩
theorem it_rng {F : Hp} (lo hi : Int) : ItOk (rgD lo hi) (fun _ => True) F (Itr lo (hi - lo).toNat) := by
  intro b F' H' G' σ' i e env _
  have hlen : (rgD lo hi).length = (hi - lo).toNat := by unfold rgD; rw [List.length_map, List.length_range]
  refine ⟨fun h => by rw [hlen] at h; exact h, fun h => by rw [hlen] at h; exact h, fun x H3 ⟨e3, ex⟩ h => ⟨e3, .int (lo + (i : Nat)), ?_, by rw [ex]; exact .int _⟩⟩
  rw [hlen] at h
  unfold rgD
  rw [List.getElem?_map, List.getElem?_range h]
  rfl
variable {X : Cx} {tg l : Expr} {ma mc : Sm}
theorem over_imp {σ : L2.St} {H : Hp} {R : It → Hp → Prop} (q : tI b (iOver ma) σ H R) : iSeqT K (tA b ma) σ H R := by
  obtain ⟨G, P, E, F, h, env, k, ke⟩ := q
  refine ⟨G, _, E, F, h, env, fun v1 x G1 F1 H1 h1 e1 env1 r1 => ?_, ke⟩
  cases r1 with
  | @lst a xs ds hl rs => exact ⟨a, rfl, .inl ⟨⟨xs, SqL.of (env1.base.fh _ _ hl)⟩, k _ _ G1 F1 H1 _ h1 e1 env1 (it_list hl rs)⟩⟩
  | @tup a xs ds hl rs => exact ⟨a, rfl, .inr ⟨⟨xs, SqT.of (env1.base.fh _ _ hl)⟩, k _ _ G1 F1 H1 _ h1 e1 env1 (it_tup hl rs)⟩⟩
  | _ => exact False.elim h1
theorem name_imp {i : Nat} {σ : L2.St} {H : Hp} {R : It → Hp → Prop} (q : tI b (iName i) σ H R) : iSeqT K (tVar i) σ H R := by
  obtain ⟨G, P, E, F, h, env, k, ke⟩ := q
  unfold iName at h
  split at h
  · rename_i ds hi
    obtain ⟨v, e, r⟩ := env.slot i _ hi
    cases r with
    | @lst a xs ds hl rs => exact ⟨_, e, a, rfl, .inl ⟨⟨xs, SqL.of (env.base.fh _ _ hl)⟩, k _ _ G F H _ h (Ex.refl F) env (it_list hl rs)⟩⟩
  · rename_i ds hi
    obtain ⟨v, e, r⟩ := env.slot i _ hi
    cases r with
    | @tup a xs ds hl rs => exact ⟨_, e, a, rfl, .inr ⟨⟨xs, SqT.of (env.base.fh _ _ hl)⟩, k _ _ G F H _ h (Ex.refl F) env (it_tup hl rs)⟩⟩
  · rename_i l0 ds hi
    obtain ⟨e, _, _, vs, hl, rs⟩ := env.slot i _ hi
    exact ⟨_, e, l0, rfl, .inl ⟨⟨vs, SqL.of hl⟩, k _ _ G F H _ h (Ex.refl F) env it_own⟩⟩
  · exact h.elim
theorem PI.imp {wi wi' : TI} (h : PI X tg l wi) (i : ∀ σ H R, wi' σ H R → wi σ H R) : PI X tg l wi' := ⟨fun pins s σ H R I q => h.run pins s σ H R I (i σ H R q)⟩
theorem PIH.imp {wi wi' : TI} (h : PIH X tg l wi) (i : ∀ σ H R, wi' σ H R → wi σ H R) : PIH X tg l wi' := ⟨fun pins s σ H R I q => h.run pins s σ H R I (i σ H R q)⟩
/-- both ways of walking -/
structure PIM (b : Bs) (X : Cx) (l : Expr) (m : Im) : Prop where
  calm : X.calm = true → ∀ tg, PI X tg l (tI b m)
  hot : HotC X → ∀ tg, PIH X tg l (tI b m)
theorem si_over (ha : PE X l (tA b ma)) : PIM b X l (iOver ma) := ⟨fun _ tg => PI.imp (pi_seq ha) fun _ _ _ q => over_imp q, fun _ tg => PIH.imp (pi_seqH ha) fun _ _ _ q => over_imp q⟩
theorem si_name {i : Nat} {x : Str} {p : Pos} (ha : PE X (.Name x p) (tVar i)) : PIM b X (.Name x p) (iName i) := ⟨fun _ tg => PI.imp (pi_seq ha) fun _ _ _ q => name_imp q, fun _ tg => PIH.imp (pi_seqH ha) fun _ _ _ q => name_imp q⟩
theorem rng1_imp {σ : L2.St} {H : Hp} {R : It → Hp → Prop} (q : tI b (iR1 ma) σ H R) : iRng1 (tCons (tA b ma) tNil) σ H R := by
  obtain ⟨G, P, E, F, h, env, k, ke⟩ := q
  refine ⟨G, _, E, F, h, env, fun v1 x G1 F1 H1 h1 e1 env1 r1 => ?_, ke⟩
  cases r1 with
  | int n =>
    refine ⟨n, rfl, h1.1.1, h1.1.2, k _ _ G1 F1 H1 _ h1.2 e1 env1 ?_⟩
    have q := it_rng (F := F1) 0 n
    rw [Int.sub_zero] at q
    exact q
  | _ => exact False.elim h1
theorem si_r1 {a : Expr} {p pos : Pos} (hg : Gl X "range") (hm : X.mg "range" = none) (ha : PE X a (tA b ma)) (na : NStar a) : PIM b X (.Call (.Name "range" p) [a] [] pos) (iR1 ma) :=
  ⟨fun _ tg => PI.imp (pi_range1 hg hm (pa_cons ha pa_nil (na _ _)) (na _ _)) fun _ _ _ q => rng1_imp q, fun _ tg => PIH.imp (L2H.pi_range1H hg hm (pa_cons ha pa_nil (na _ _)) (na _ _)) fun _ _ _ q => rng1_imp q⟩
theorem rng2_imp {σ : L2.St} {H : Hp} {R : It → Hp → Prop} (q : tI b (iR2 ma mc) σ H R) : iRng2 (tCons (tA b ma) (tCons (tA b mc) tNil)) σ H R := by
  obtain ⟨G, P, E, F, h, env, k, ke⟩ := q
  refine ⟨G, _, E, F, h, env, fun v1 x G1 F1 H1 h1 e1 env1 r1 => ⟨G1, _, E, F1, h1, env1, fun v2 y G2 F2 H2 h2 e2 env2 r2 => ?_, ke.mono e1⟩, ke⟩
  dsimp only at h2
  split at h2
  · cases r1
    cases r2
    exact ⟨_, _, rfl, h2.1, k _ _ G2 F2 H2 _ h2.2 (e1.trans e2) env2 (it_rng _ _)⟩
  · exact h2.elim
theorem si_r2 {a c : Expr} {p pos : Pos} (hc : X.calm = true) (hnh : ¬ HotC X) (hg : Gl X "range") (hm : X.mg "range" = none) (ha : PE X a (tA b ma)) (hd : PE X c (tA b mc)) (na : NStar a) (nc : NStar c) : PIM b X (.Call (.Name "range" p) [a, c] [] pos) (iR2 ma mc) :=
  ⟨fun _ tg => PI.imp (pi_range2 hg hm (pa_cons ha (pa_cons hd pa_nil (nc _ _)) (na _ _)) (by rw [na, nc]; rfl) (nc _ _)) fun _ _ _ q => rng2_imp q, fun h => absurd h hnh⟩
end
end Wd

/-! A9: targets that unpack a tuple, the block of a comprehension: in a calm context and where an exception is handled. -/
namespace Wd
open PySem PySem.Spec PyProof.Rows L2 HotX
open L2H (HotC TurnH PIH PIEH RoomH FnH)
open Evl (Ex Ex.refl Ex.trans Ex.new Ex.mut fresh_back)

/-! ### a tuple unpacked where an exception is handled -/
section
variable {prog : Program} {w : World} {A : Around} {E : Value → Shared → Prop} {s : Shared}
theorem unpack_items_hot {x1 : Addr} {t : Addr} {items : Array Value} {Q : List Value → Shared → Prop} (hot : HotAt A x1 s.heap) (ht : IsTup s.heap t items)
    (hQ : ∀ h', Heap.ExtBut s.heap.objs.size s.heap h' → Q items.toList { s with heap := h' }) : wpAny (model prog w) A (unpackItems (.ref t) items.size none) Q E s := by
  have hlt : t ≠ s.heap.objs.size := by obtain ⟨o, ho, _⟩ := ht; exact Nat.ne_of_lt (Heap.lt_size ho)
  obtain ⟨hh, o1, vs1, h1, d1, c1⟩ := hot
  have hx1 : x1 ≠ s.heap.objs.size := Nat.ne_of_lt (Heap.lt_size h1)
  unfold unpackItems
  refine wpAny_bind ?_
  · unfold notIterableAtAll
    refine wpAny_bind (wpAny_specialOf ht.typeIs slot_tuple_iter.lookup ?_)
    refine wpAny_pure ?_
    simp only [Bool.false_eq_true, if_false]
    refine wpAny_bind (wpAny_holding (iter_tuple ht ?_))
    refine wpAny_bind (wpAny_holding (draw_tuple hlt items.size 0 _ _ ⟨_, Heap.get?_push_size _ rfl, rfl, rfl⟩ (ht.push _) (by omega) fun h₁ hit₁ hs₁ => ?_))
    have hall : List.take items.size (List.drop 0 items.toList) = items.toList := by
      rw [List.drop_zero]; exact List.take_of_length_le (by simp)
    rw [hall]
    rw [if_neg (by simp)]
    have ht₁ : IsTup h₁ t items := (ht.push _).extBut hs₁.extBut hlt
    have hot₁ : HotAt A x1 h₁ := ⟨hh, o1, vs1, hs₁.extBut _ _ hx1 (Heap.get?_push_of_some _ h1), d1, c1⟩
    refine wpAny_bind (wpAny_holding (next_tuple_hot hot₁ hit₁ ht₁ (by simp) (Ne.symm hx1) fun h₂ he₂ => ?_))
    simp only [Option.isSome_none, Bool.false_eq_true, if_false]
    refine wpAny_pure (hQ h₂ fun b o hb e => he₂ b o hb (hs₁.extBut b o hb (Heap.get?_push_of_some _ e)))
theorem assign_tup_hot {x1 : Addr} {env : Env} {elts : List Expr} {k} {pos : Pos} {t : Addr} {items : Array Value} {Q : Unit → Shared → Prop} (hot : HotAt A x1 s.heap) (ht : IsTup s.heap t items)
    (hn : (assignEach elts env).length = items.size) (hstar : (assignEach elts env).findIdx? (·.1) = none)
    (h : ∀ h', Heap.ExtBut s.heap.objs.size s.heap h' → wpAny (model prog w) A (assignInOrder ((assignEach elts env).map (·.2)) items.toList) Q E { s with heap := h' }) :
    wpAny (model prog w) A (assign (.Tuple elts k pos) env (.ref t)) Q E s := by
  rw [assign_Tuple]
  refine wpAny_bind (wpAny_standAt ?_)
  unfold unpack
  rw [hn, hstar]
  exact wpAny_bind (wpAny_holding (unpack_items_hot hot ht h))
end
/-- calm, or with an exception that is handled -/
def Mode (X : Cx) : Prop := X.calm = true ∨ HotC X
section
variable {X : Cx} {pos : Pos}
theorem pg_tupM {es : List Expr} {k : Nat} {t : TGs} {n : Nat} (hc : Mode X) (h : PGs X es t)
    (hn : (assignEach es X.env).length = n) (hst : (assignEach es X.env).findIdx? (·.1) = none) : PG X (.Tuple es k pos) (gTup X.K n t) := by
  rcases hc with hc | hc
  · exact pg_tup hc h hn hst
  · refine ⟨fun pins s σ H v u Q I r hw => ?_⟩
    obtain ⟨a, xs, e1, hq, hl, hw⟩ := hw
    subst e1
    cases r
    obtain ⟨its, rv, ht, hz⟩ := I.tuple hq
    obtain ⟨x1, hot⟩ := hc.at I
    refine assign_tup_hot hot ht (by simp [hn, ← hl, rv.length]) hst fun h' hx => ?_
    have I1 : Inv X pins σ H { s with heap := h' } := I.kept (t' := s.toks) fun b o e => hx b o (Nat.ne_of_lt (Heap.lt_size e)) e
    exact h.run pins _ σ H xs _ Q I1 (by simpa using rv) hw
end

/-! ### walking, in either mode -/
structure TurnM (Md : Cx → Prop) (P : Program) (w : World) (K : PySem.W.Frag) (tg : Expr) (J : It) (fp : List Addr) (it : Addr) (tn : Nat → Heap → Prop) : Prop where
  mem : it ∈ fp
  obj : ∀ i h, tn i h → ∀ b ∈ fp, ∃ o, h.get? b = some o ∧ ∀ v, o.data ≠ .cell v
  keep : ∀ i h h', tn i h → (∀ b ∈ fp, ∀ o, h.get? b = some o → h'.get? b = some o) → tn i h'
  item : ∀ (X : Cx), X.prog = P → X.w = w → X.K = K → Md X → ∀ (i : Nat) (pins : List (Addr × Obj)) (s : Shared) (σ : L2.St) (H : Hp) (E : Value → Shared → Prop), Inv X pins σ H s → (∀ b ∈ fp, FpOk X pins H b) → tn i s.heap → J.go i H →
    wpAny (model P w) X.A (pyNext (.ref it)) (fun r s1 => ∃ u, r = some u ∧
      wpAny (model P w) X.A (letOwnedTupleGo tg (.ref it) u) (fun _ s2 => ∃ x H', Inv X pins σ H' s2 ∧ RelV x u ∧ J.yld i H x H' ∧ tn (i + 1) s2.heap ∧ ∀ b ∈ fp, H' b = none) E s1) E s
  done : ∀ (X : Cx), X.prog = P → X.w = w → X.K = K → Md X → ∀ (i : Nat) (pins : List (Addr × Obj)) (s : Shared) (σ : L2.St) (H : Hp) (E : Value → Shared → Prop), Inv X pins σ H s → (∀ b ∈ fp, FpOk X pins H b) → tn i s.heap → J.stop i H →
    wpAny (model P w) X.A (pyNext (.ref it)) (fun r s1 => r = none ∧ Inv X pins σ H s1) E s
  self : ∀ (A : Around) (i : Nat) (s : Shared) (Q : Value → Shared → Prop) (E : Value → Shared → Prop), tn i s.heap → Q (.ref it) s → wpAny (model P w) A (pyIter (.ref it)) Q E s
def PIEM (Md : Cx → Prop) (X : Cx) (pins : List (Addr × Obj)) (σ : L2.St) (tg : Expr) (R : It → Hp → Prop) (itv : Value) (s2 : Shared) : Prop :=
  ∃ (it : Addr) (fp : List Addr) (tn : Nat → Heap → Prop) (J : It) (H' : Hp), itv = .ref it ∧ Inv X pins σ H' s2 ∧ TurnM Md X.prog X.w X.K tg J fp it tn ∧ tn 0 s2.heap ∧ (∀ b ∈ fp, FpOk X pins H' b) ∧ R J H'
structure PIW (Md : Cx → Prop) (X : Cx) (tg iter : Expr) (wi : TI) : Prop where
  run : ∀ (pins : List (Addr × Obj)) (s : Shared) (σ : L2.St) (H : Hp) (R : It → Hp → Prop), Inv X pins σ H s → wi σ H R →
    wpAny (model X.prog X.w) X.A (eval iter X.env) (fun v s1 => wpAny (model X.prog X.w) X.A (pyIter v) (PIEM Md X pins σ tg R) X.xe s1) X.xe s
abbrev Calm (X : Cx) : Prop := X.calm = true
theorem PIW.ofC {X : Cx} {tg iter : Expr} {wi : TI} (h : PI X tg iter wi) : PIW Calm X tg iter wi := ⟨fun pins s σ H R I q => thn (h.run pins s σ H R I q) fun v s1 x => thn x fun itv s2 ⟨it, fp, tn, J, H', e, I2, T, st, f, r⟩ =>
  ⟨it, fp, tn, J, H', e, I2, ⟨T.mem, T.obj, T.keep, T.item, T.done, T.self⟩, st, f, r⟩⟩
theorem PIW.ofH {X : Cx} {tg iter : Expr} {wi : TI} (h : PIH X tg iter wi) : PIW HotC X tg iter wi := ⟨fun pins s σ H R I q => thn (h.run pins s σ H R I q) fun v s1 x => thn x fun itv s2 ⟨it, fp, tn, J, H', e, I2, T, st, f, r⟩ =>
  ⟨it, fp, tn, J, H', e, I2, ⟨T.mem, T.obj, T.keep, T.item, T.done, T.self⟩, st, f, r⟩⟩

/-! ### a comprehension's block; its context keeps the pins -/
abbrev blkP (X : Cx) (s : Shared) (H : Hp) (scope : Scope) (cenv : Env) (fp : List Addr) : Cx := { X.blk s H scope cenv fp with pn := X.pn }
section
variable {X : Cx} {pins : List (Addr × Obj)} {σ : L2.St} {H : Hp} {s : Shared}
theorem blk_start {scope : Scope} {own : List (Str × Nat)} {fp : List Addr} (I : Inv X pins σ H s) (ok : BlkOk X.N X.env.scope scope own) (hN : X.N.Nodup) (hfp : ∀ b ∈ fp, FpOk X pins H b ∧ b < s.heap.objs.size) :
    Inv (blkP X s H scope (compEnvC scope (cellsFrom (s.heap.objs.size + 1) scope.names (cloFrom X.env.cells scope.names [])) s.heap.objs.size X.env) fp) [] (wipe σ (own.map (·.2))) H { s with heap := pushCells (s.heap.push { cls := .type "dict", data := .dict #[] }) scope.names } := by
  have J := block_start I ok hN hfp
  obtain ⟨o, j1, j2, j3, j4, j5, j6, j7, _, j9, j10⟩ := J
  refine ⟨⟨o.mod, o.kind, o.glob, o.blt, o.above, o.inj, o.has, o.cab, o.hd, o.frames, o.stk, o.exf, o.bs, o.bsz, o.noex, o.exfs, o.funs, o.frf⟩, j1, j2, j3, j4, j5, j6, j7, fun p hp => ?_, j9, j10⟩
  have hp' : p ∈ X.pn := by simpa using (show p ∈ X.pn ++ ([] : List (Addr × Obj)) from hp)
  obtain ⟨q1, q2, q3, q4, q5⟩ := I.pin p (List.mem_append_left _ hp')
  refine ⟨pushCells_keeps _ _ _ _ (Heap.get?_push_of_some _ q1), q2, Nat.ne_of_lt (Heap.lt_size q1), fun hm => ?_, q5⟩
  exact (List.mem_cons.mp (I.stkSub p.1 hm)).elim q3 q4
theorem HotC.blk {X : Cx} {s : Shared} {H : Hp} {scope : Scope} {cenv : Env} {fp : List Addr} (h : HotC X) : HotC (blkP X s H scope cenv fp) := h
theorem Mode.blk {X : Cx} {s : Shared} {H : Hp} {scope : Scope} {cenv : Env} {fp : List Addr} (h : Mode X) : Mode (blkP X s H scope cenv fp) := h
variable {Q : VK} {elt tg iter : Expr} {ifs : List Expr} {scope : Scope} {own : List (Str × Nat)} {pos pos' : Pos} {wi : TI} {g : TG} {tt : TT} {te : TE} {use : Option (Value → Sem Unit)} {Qf : Value → Shared → Prop}
/-- what a block's context is like -/
abbrev InBlk (X : Cx) (scope : Scope) (p : Cx → Prop) : Prop := ∀ (s : Shared) (H : Hp) (C : Addr) (cl : List (Str × Addr)) (fp : List Addr), p (blkP X s H scope (compEnvC scope cl C X.env) fp)
theorem lc_coreM {Md : Cx → Prop} (hm : InBlk X scope Md) (hN : X.N.Nodup) (I : Inv X pins σ H s) (hi : PIW Md X tg iter wi) (ok : BlkOk X.N X.env.scope scope own)
    (hg : InBlk X scope fun Y => PG Y tg g) (ht : InBlk X scope fun Y => PTs Y ifs tt) (he : InBlk X scope fun Y => PE Y elt te) (hs : ∀ x, foldedSetIterable iter X.env x = pure x)
    (h : tLc wi g tt te (own.map (·.2)) σ H Q)
    (hRR : ∀ D C s' m H', Inv X pins σ H' s' → Q (.ref D) H' → s'.heap.Ns C m → FpOk X pins H' C → compPost (model X.prog X.w) X.A X.xe use Qf (.ref D) C (.ok .next) s') :
    wpAny (model X.prog X.w) X.A (comprehension (.ListComp elt [⟨tg, iter, ifs, 0⟩] scope pos) scope X.env pos' (newList []) false (eval iter X.env) use) Qf X.xe s := by
  have hfree : ∀ y ∈ scope.names, y.2 = .free → ∃ c, X.env.cells.lookup y.1 = some c := fun y hy e => by
    rcases ok.free y hy e with k | k
    · exact I.ok.has _ (.inl k)
    · exact I.ok.has _ (.inr k)
  refine wpAny_comprehension_free (use := use) rfl hs (closure_ok hfree) ok.kind (fun y hy e => by rw [ok.uniq y hy, e])
    (thn (hi.run pins s σ H _ I h) fun xv s1 hx => thn hx fun itv s2 h2 => ?_)
  obtain ⟨it, fp, tn, J, H2, e, I2, T, st2, f2, q⟩ := h2
  subst e
  refine wpAny_newObj_type (newEnv_comp ?_) (by show 0 ≤ sizeLine; decide)
  generalize hD : s2.heap.objs.size = D
  have hDn : H2 D = none := I2.hok.fresh (Nat.le_of_eq hD)
  obtain ⟨W, ⟨m0, w0⟩, turn⟩ := q D hDn
  generalize hs3 : ({ s2 with heap := s2.heap.push { cls := .type "list", data := .seq ([] : List Value).toArray } } : Shared) = s3
  have I3 : Inv X pins σ (upd H2 D (.lst [])) s3 := by
    rw [← hs3]
    refine I2.laid (t' := s2.toks) (fun b o e => Heap.get?_push_of_some _ e) (Nat.le_of_eq hD) ⟨Nat.zero_le _, [], 0, .nil, ?_⟩
    rw [← hD]
    exact Heap.get?_push_size _ rfl
  have h3 : s3.heap = s2.heap.push { cls := .type "list", data := .seq ([] : List Value).toArray } := by rw [← hs3]
  have sz : ∀ b ∈ fp, b < s2.heap.objs.size := fun b hb => by
    obtain ⟨o, e, _⟩ := T.obj _ _ st2 b hb
    exact Heap.lt_size e
  have f3 : ∀ b ∈ fp, FpOk X pins (upd H2 D (.lst [])) b ∧ b < s3.heap.objs.size := fun b hb => by
    have hlt := sz b hb
    refine ⟨⟨?_, (f2 b hb).2⟩, by rw [h3, Heap.size_push]; exact Nat.lt_succ_of_lt hlt⟩
    rw [upd_ne (by rw [← hD]; exact Nat.ne_of_lt hlt)]
    exact (f2 b hb).1
  have st3 : tn 0 s3.heap := T.keep _ _ _ st2 fun b _ o e => by rw [h3]; exact Heap.get?_push_of_some _ e
  have I4 := blk_start I3 ok hN f3
  have pg := hg s3 (upd H2 D (.lst [])) s3.heap.objs.size (cellsFrom (s3.heap.objs.size + 1) scope.names (cloFrom X.env.cells scope.names [])) fp
  have pt := ht s3 (upd H2 D (.lst [])) s3.heap.objs.size (cellsFrom (s3.heap.objs.size + 1) scope.names (cloFrom X.env.cells scope.names [])) fp
  have pe := he s3 (upd H2 D (.lst [])) s3.heap.objs.size (cellsFrom (s3.heap.objs.size + 1) scope.names (cloFrom X.env.cells scope.names [])) fp
  have pm := hm s3 (upd H2 D (.lst [])) s3.heap.objs.size (cellsFrom (s3.heap.objs.size + 1) scope.names (cloFrom X.env.cells scope.names [])) fp
  show codeAny _ _ (.compStart (.ListComp elt [⟨tg, iter, ifs, 0⟩] scope pos) 0 (.ref it) (.ref D) (compEnvC scope (cellsFrom (s3.heap.objs.size + 1) scope.names (cloFrom X.env.cells scope.names [])) s3.heap.objs.size X.env)) (compPost (model X.prog X.w) X.A X.xe use Qf (.ref D) s3.heap.objs.size) { s3 with heap := pushCells (s3.heap.push { cls := .type "dict", data := .dict #[] }) scope.names }
  have nfp : ∀ b ∈ fp, (upd H2 D (.lst [])) b = none := fun b hb => (f3 b hb).1.1
  have apn : ∀ b ∈ fp, ∀ p ∈ X.pn, p.1 ≠ b := fun b hb p hp => (f3 b hb).1.2.2.2.2.2 p (List.mem_append_left _ hp)
  generalize hce : compEnvC scope (cellsFrom (s3.heap.objs.size + 1) scope.names (cloFrom X.env.cells scope.names [])) s3.heap.objs.size X.env = ce at I4 pg pt pe pm ⊢
  have cL : ce.locals = s3.heap.objs.size := by subst hce; rfl
  generalize hH3 : upd H2 D (.lst []) = H3 at I3 I4 pg pt pe pm w0 nfp f3
  generalize hs4 : ({ s3 with heap := pushCells (s3.heap.push { cls := .type "dict", data := .dict #[] }) scope.names } : Shared) = s4 at I4 ⊢
  have st4 : tn 0 s4.heap := T.keep _ _ _ st3 fun b _ o e => by rw [← hs4]; exact pushCells_keeps _ _ _ _ (Heap.get?_push_of_some _ e)
  have stat : ∀ {σ' : L2.St} {H' : Hp} {s' : Shared}, Inv (blkP X s3 H3 scope ce fp) [] σ' H' s' → (∀ b ∈ fp, H' b = none) → ∀ b ∈ fp, FpOk (blkP X s3 H3 scope ce fp) [] H' b := fun {σ' H' s'} I' hn b hb =>
    ⟨hn b hb, (I'.ok.exf b hb).1, I'.ok.exfs b hb, .inl hb, fun x c e => (I'.ok.exf b hb).2 x c e, fun p hp => apn b hb p (by simpa using (show p ∈ X.pn ++ ([] : List (Addr × Obj)) from hp))⟩
  have loop : codeAny (model X.prog X.w) X.A (.compLoop (.ListComp elt [⟨tg, iter, ifs, 0⟩] scope pos) 0 (.ref it) (.ref D) ce) (compPost (model X.prog X.w) X.A X.xe use Qf (.ref D) s3.heap.objs.size) s4 := by
    refine compLoop_any (fun n s' => ∃ i H', Inv (blkP X s3 H3 scope ce fp) [] (wipe σ (own.map (·.2))) H' s' ∧ tn i s'.heap ∧ (∀ b ∈ fp, H' b = none) ∧ W i n H') ?_ m0 ⟨0, H3, I4, st4, nfp, w0⟩
    rintro n s5 ⟨i, H5, I5, st5, n5, w5⟩
    rcases turn i n H5 w5 with ⟨stop, qq⟩ | ⟨go, Nx, hNx, step⟩
    · have td := T.done (blkP X s3 H3 scope ce fp) rfl rfl rfl pm i [] s5 _ H5 (fun _ _ => False) I5 (stat I5 n5) st5 stop
      refine thnF td fun r s6 ⟨hr, I6⟩ => ?_
      subst hr
      have I7 : Inv X pins σ H5 s6 := I3.call' (ch := fp) I6.os I6.base I6.hok I6.bare fun b hb => ⟨(f3 b hb).1.2.2.2.1, (f3 b hb).1.2.1, (f3 b hb).1.2.2.2.2.1, (f3 b hb).1.2.2.2.2.2⟩
      have nC : H5 s3.heap.objs.size = none := by
        have z : H5 ce.locals = none := I6.free
        rw [cL] at z
        exact z
      obtain ⟨m, hn, _⟩ := I6.loc
      have hn : s6.heap.Ns ce.locals m := hn
      rw [cL] at hn
      exact hRR D s3.heap.objs.size s6 m H5 I7 qq hn (I3.fpOk (Nat.le_refl _) nC)
    · have ti := T.item (blkP X s3 H3 scope ce fp) rfl rfl rfl pm i [] s5 _ H5 (fun _ _ => False) I5 (stat I5 n5) st5 go
      refine thnF ti fun r s6 ⟨u, hr, h6⟩ => ?_
      subst hr
      refine thnF h6 fun _ s7 ⟨x, H7, I7, r7, y7, st7, n7⟩ => ?_
      have I7' := I7.pinned (stat I7 n7) (T.obj _ _ st7)
      refine thnF (pg.run _ s7 _ H7 x u _ I7' r7 (step x H7 y7)) fun _ s8 ⟨σ8, H8, I8, hw8, q8⟩ => ?_
      refine thnF (pt.run _ s8 σ8 H8 _ I8 q8) fun b s9 ⟨H9, I9, q9⟩ => ?_
      have fin : ∀ {s' : Shared} {H' : Hp}, Inv (blkP X s3 H3 scope ce fp) ([] ++ pinsAt fp s7.heap) σ8 H' s' → Nx H' → ∃ m, m < n ∧ ∃ i H', Inv (blkP X s3 H3 scope ce fp) [] (wipe σ (own.map (·.2))) H' s' ∧ tn i s'.heap ∧ (∀ b ∈ fp, H' b = none) ∧ W i m H' := fun {s' H'} I' nx => by
        obtain ⟨m', hm, w'⟩ := hNx H' nx
        have pin' : ∀ b ∈ fp, ∀ o, s7.heap.get? b = some o → s'.heap.get? b = some o ∧ H' b = none := fun b hb o e =>
          let z := I'.pin (b, o) (List.mem_append_right _ (List.mem_append_right _ (mem_pinsAt hb e)))
          ⟨z.1, z.2.1⟩
        have hl : (wipe σ (own.map (·.2))).length = σ8.length := by rw [← hw8, wipe_length]
        refine ⟨m', hm, i + 1, H', (I'.unpinned (pins := [])).weak hl (fun j v e => ?_), T.keep _ _ _ st7 fun b hb o e => (pin' b hb o e).1, fun b hb => ?_, w'⟩
        · rw [← hw8] at e
          exact (wipe_some e).1
        · obtain ⟨o, e, _⟩ := T.obj _ _ st7 b hb
          exact (pin' b hb o e).2
      cases b with
      | false =>
        simp only [Bool.false_eq_true, if_false] at q9 ⊢
        exact fin I9 q9
      | true =>
        simp only [if_true] at q9 ⊢
        refine thnF (pe.run _ s9 σ8 H9 _ I9 q9) fun z s10 ⟨yv, H10, I10, r10, acc, hD10, hz10, nx⟩ => ?_
        exact app_ok (X := blkP X s3 H3 scope ce fp) I10 hD10 hz10 r10 fun s11 I11 => fin I11 nx
  exact codeAny_compStart_list loop (T.self X.A 0 _ _ _ st4 loop)
theorem pe_lcM {Md : Cx → Prop} (hm : InBlk X scope Md) (hN : X.N.Nodup) (hi : PIW Md X tg iter wi) (ok : BlkOk X.N X.env.scope scope own)
    (hg : InBlk X scope fun Y => PG Y tg g) (ht : InBlk X scope fun Y => PTs Y ifs tt) (he : InBlk X scope fun Y => PE Y elt te) (hs : ∀ x, foldedSetIterable iter X.env x = pure x) :
    PE X (.ListComp elt [⟨tg, iter, ifs, 0⟩] scope pos) (tLc wi g tt te (own.map (·.2))) := by
  refine ⟨fun pins s σ H Q I h => ?_⟩
  rw [eval_ListComp]
  refine lc_coreM hm hN I hi ok hg ht he hs h fun D C s' m H' I' q hn f => ⟨m, hn, fun h'' sb => ?_⟩
  obtain ⟨f0, f1, f2, f3, f4, f5⟩ := f
  exact ⟨.ref D, H', I'.turned (t' := s'.toks) (fun b o hb e => (sb.2 b hb).trans e) f0 f1 f3 f4 f5, rfl, q⟩
theorem ps_setLcM {Md : Cx → Prop} {i : Nat} {y : Str} {py spos : Pos} (hm : InBlk X scope Md) (hN : X.N.Nodup) (hy : X.N[i]? = some y) (hyl : X.env.scope.names.lookup y = some .local)
    (hsw : swapsWith (.ListComp elt [⟨tg, iter, ifs, 0⟩] scope pos) (some (.Name y py)) spos.line X.env = pure true) (hi : PIW Md X tg iter wi) (ok : BlkOk X.N X.env.scope scope own)
    (hg : InBlk X scope fun Y => PG Y tg g) (ht : InBlk X scope fun Y => PTs Y ifs tt) (he : InBlk X scope fun Y => PE Y elt te) (hs : ∀ x, foldedSetIterable iter X.env x = pure x) :
    PS X (.Assign [.Name y py] (.ListComp elt [⟨tg, iter, ifs, 0⟩] scope pos) spos) (tAsg (tLc wi g tt te (own.map (·.2))) (gName i)) := by
  refine ⟨fun pins s σ H D I h => ?_⟩
  rw [exec_Assign_Name_used _ _ _ _ hsw]
  refine wpAny_bind (wpAny_standAt (wpAny_bind ?_))
  show wpAny _ X.A (do let _ ← comprehension (.ListComp elt [⟨tg, iter, ifs, 0⟩] scope pos) scope X.env (firstIterPos [⟨tg, iter, ifs, 0⟩] pos) (newList []) false (eval iter X.env) (some (assign (.Name y py) X.env))) _ _ s
  have h : tLc wi g tt te (own.map (·.2)) σ H (fun x H1 => gName i x σ H1 D.nx) := h
  refine wpAny_bind (thn (lc_coreM (Qf := fun _ s' => SP X pins D .next s') hm hN I hi ok hg ht he hs h fun L C s' m H' I' q hn f => ?_) fun _ s' hq => wpAny_pure (wpAny_pure hq))
  show wpAny _ _ (assign (.Name y py) X.env (.ref L)) _ _ _
  refine wpAny_assign_Name (store_ok2 (v := V.ref L) I' hN hy (.inl hyl) rfl (fun s2 I2 ⟨a, sb, ha⟩ => ?_) (.inr hyl))
  obtain ⟨f0, f1, f2, f3, f4, f5⟩ := f
  have haC : C ≠ a := by
    rcases ha with z | z
    · rw [z]; exact f1
    · exact fun e => f4 y a z e.symm
  refine ⟨m, hn.sameBut sb haC, fun h3 sb3 => ?_⟩
  exact ⟨_, H', I2.turned (t' := s2.toks) (fun b o hb e => (sb3.2 b hb).trans e) f0 f1 f3 f4 f5, q⟩
end
end Wd

/-! A10: list comprehensions keep their combinators. -/
namespace Wd
open PySem PySem.Spec PyProof.Rows L2 HotX
open L2H (HotC TurnH PIH PIEH RoomH FnH)
open Evl (Ex Ex.refl Ex.trans Ex.new Ex.mut fresh_back)

/-- nothing is raised; the list at D stands -/
abbrev Bs.atO (b : Bs) (D : Addr) (o : HO) : Bs := { b with W := fun _ _ _ _ => False, H0 := upd b.H0 D o }
abbrev Bs.at (b : Bs) (D : Addr) (vs : List V) : Bs := b.atO D (.lst vs)
section
variable {b : Bs} {F H : Hp} {G : Gm} {σ : L2.St} {D : Addr} {o o' : HO} {vs : List V}
theorem OwnOk.cast {b b' : Bs} (hP : b'.P = b.P) (hw : b'.w = b.w) {F H : Hp} {l : Addr} : ∀ {o : Own}, OwnOk b F H l o → OwnOk b' F H l o
  | .lst _, h => h
  | .dct false _, h => h
  | .dct true _, ⟨xs, h, s, n, r⟩ => ⟨xs, by rw [hP, hw]; exact h, s, n, r⟩
/-- from one base to another -/
theorem EnvOk.rebase {b' : Bs} (h : EnvOk b F H G σ) (hP : b'.P = b.P) (hw : b'.w = b.w) (hB : BaseOk b' F H) (hm : ∀ (i : Nat) (l : Addr) (o : Own), G[i]? = some (.ow l o) → F l = none → b.H0 l = none → b'.H0 l = none) : EnvOk b' F H G σ := by
  refine ⟨hB, h.len, fun i s hi => ?_, h.ap⟩
  have q := h.slot i s hi
  cases s with
  | un => trivial
  | im d => exact q
  | ow l o =>
    obtain ⟨e, f, n, k⟩ := q
    exact ⟨e, f, hm i l o hi f n, k.cast hP hw⟩
theorem ow_apart (h : EnvOk b F H G σ) (hD : H D = none) {i : Nat} {l : Addr} {o : Own} (hi : G[i]? = some (.ow l o)) : l ≠ D := fun e => by
  obtain ⟨_, _, _, k⟩ := h.slot i _ hi
  obtain ⟨u, hu⟩ := k.there
  rw [e, hD] at hu; cases hu
/-- a new list that no slot knows -/
theorem EnvOk.newD (h : EnvOk b F H G σ) (hD : H D = none) : EnvOk (b.atO D o) F (upd H D o) G σ := by
  have h1 := h.step (Step.tmp h.base.fh (o := o) hD)
  have hF : F D = none := fresh_back h.base.fh hD
  refine h1.rebase rfl rfl ⟨h.base.f0, h1.base.fh, fun a u q => ?_, fun a p q => ?_⟩ fun i l ow hi f n => ?_
  · by_cases ha : a = D
    · subst ha; have q : (upd b.H0 a o) a = some u := q; rw [upd_same] at q ⊢; exact q
    · have q : (upd b.H0 D o) a = some u := q
      rw [upd_ne ha] at q ⊢
      exact h.base.h0 a u q
  · show (upd b.H0 D o) a = none
    have ha : a ≠ D := fun e => q (by rw [e]; exact hF)
    rw [upd_ne ha]
    exact h.base.new a p q
  · show (upd b.H0 D o) l = none
    rw [upd_ne (ow_apart h hD hi)]
    exact n
theorem at_D (h : EnvOk (b.atO D o) F H G σ) : H D = some o := h.base.h0 D _ upd_same
theorem at_F (h0 : b.F0 D = none) (h : EnvOk (b.atO D o) F H G σ) : F D = none := by
  cases e : F D with
  | none => rfl
  | some u =>
    have q : (upd b.H0 D o) D = none := h.base.new D h0 (by rw [e]; exact fun z => nomatch z)
    rw [upd_same] at q; cases q
theorem at_ow (h : EnvOk (b.atO D o) F H G σ) {i : Nat} {l : Addr} {w : Own} (hi : G[i]? = some (.ow l w)) : l ≠ D := fun e => by
  obtain ⟨_, _, n, _⟩ := h.slot i _ hi
  have n : (upd b.H0 D o) l = none := n
  rw [e, upd_same] at n; cases n
/-- the list at D changes -/
theorem EnvOk.setD (h0 : b.F0 D = none) (hb : b.H0 D = none) (h : EnvOk (b.atO D o) F H G σ) : EnvOk (b.atO D o') F (upd H D o') G σ := by
  have hF := at_F h0 h
  refine ⟨⟨h.base.f0, h.base.fh.mut hF, fun a u q => ?_, fun a p q => ?_⟩, h.len, fun i s hi => ?_, h.ap⟩
  · by_cases ha : a = D
    · subst ha; have q : (upd b.H0 a o') a = some u := q; rw [upd_same] at q ⊢; exact q
    · have q : (upd b.H0 D o') a = some u := q
      rw [upd_ne ha] at q ⊢
      refine h.base.h0 a u ?_
      show (upd b.H0 D o) a = some u
      rw [upd_ne ha]; exact q
  · show (upd b.H0 D o') a = none
    have ha : a ≠ D := fun e => q (by rw [e]; exact hF)
    have z : (upd b.H0 D o) a = none := h.base.new a p q
    rw [upd_ne ha] at z ⊢
    exact z
  · have q := h.slot i s hi
    cases s with
    | un => trivial
    | im d => exact q
    | ow l w =>
      have ne := at_ow h hi
      obtain ⟨e, f, n, k⟩ := q
      have n : (upd b.H0 D o) l = none := n
      rw [upd_ne ne] at n
      refine ⟨e, f, ?_, (k.mono (Ex.refl F) fun u z => by rw [upd_ne ne]; exact z).cast rfl rfl⟩
      show (upd b.H0 D o') l = none
      rw [upd_ne ne]; exact n
/-- back to the base: the list at D forgotten -/
theorem EnvOk.unD (hb : b.H0 D = none) (h : EnvOk (b.atO D o) F H G σ) : EnvOk b F H G σ := by
  refine h.rebase rfl rfl ⟨h.base.f0, h.base.fh, fun a u q => ?_, fun a p q => ?_⟩ fun i l w hi f n => ?_
  · refine h.base.h0 a u ?_
    show (upd b.H0 D o) a = some u
    have ha : a ≠ D := fun e => by rw [e, hb] at q; cases q
    rw [upd_ne ha]; exact q
  · have z : (upd b.H0 D o) a = none := h.base.new a p q
    by_cases ha : a = D
    · rw [ha]; exact hb
    · rw [upd_ne ha] at z; exact z
  · have z : (upd b.H0 D o) l = none := n
    rw [upd_ne (at_ow h hi)] at z; exact z
/-- back to the base: the list at D frozen -/
theorem EnvOk.frzD (h0 : b.F0 D = none) (hb : b.H0 D = none) (h : EnvOk (b.at D vs) F H G σ) : Ex F (upd F D (.lst vs)) ∧ EnvOk b (upd F D (.lst vs)) H G σ := by
  have hF := at_F h0 h
  have ff : Ex F (upd F D (.lst vs)) := Ex.new hF
  refine ⟨ff, ⟨h.base.f0.trans ff, fun a u q => ?_, (h.unD hb).base.h0, fun a p q => ?_⟩, h.len, fun i s hi => ?_, h.ap⟩
  · by_cases ha : a = D
    · subst ha; rw [upd_same] at q; cases q; exact at_D h
    · rw [upd_ne ha] at q; exact h.base.fh a u q
  · by_cases ha : a = D
    · rw [ha]; exact hb
    · rw [upd_ne ha] at q; exact (h.unD hb).base.new a p q
  · have q := (h.unD hb).slot i s hi
    cases s with
    | un => trivial
    | im d => obtain ⟨v, e, r⟩ := q; exact ⟨v, e, r.mono ff⟩
    | ow l o =>
      obtain ⟨e, f, n, k⟩ := q
      exact ⟨e, by rw [upd_ne (at_ow h hi)]; exact f, n, k.mono ff fun u z => z⟩
theorem wipeG_in {G : Gm} : ∀ {own : List Nat} {i : Nat} {s : Slot}, (wipeG G own)[i]? = some s → s = .un ∨ (i ∉ own ∧ G[i]? = some s)
  | [], i, s, h => .inr ⟨(by simp), h⟩
  | v :: vs, i, s, h => by
    rcases getSet (show ((wipeG G vs).set v .un)[i]? = some s from h) with ⟨_, e⟩ | ⟨ne, h⟩
    · exact .inl e
    · rcases wipeG_in h with e | ⟨n, e⟩
      · exact .inl e
      · exact .inr ⟨by simp only [List.mem_cons, not_or]; exact ⟨ne, n⟩, e⟩
theorem wipeG_not {G : Gm} : ∀ {own : List Nat} {i : Nat}, i ∉ own → (wipeG G own)[i]? = G[i]?
  | [], i, _ => rfl
  | v :: vs, i, h => by
    have h1 : v ≠ i := fun e => h (by rw [e]; exact List.mem_cons_self)
    show ((wipeG G vs).set v .un)[i]? = _
    rw [List.getElem?_set_ne h1]
    exact wipeG_not fun m => h (List.mem_cons_of_mem _ m)
theorem noOw_at {G : Gm} {own : List Nat} (h : noOw G own = true) {i : Nat} (hi : i ∈ own) {l : Addr} {o : Own} (e : G[i]? = some (.ow l o)) : False := by
  have q := List.all_eq_true.mp h i hi
  rw [e] at q; cases q
theorem ow_not {G : Gm} {own : List Nat} (h : noOw G own = true) {i : Nat} {l : Addr} {o : Own} (e : G[i]? = some (.ow l o)) : (wipeG G own)[i]? = some (.ow l o) := by
  rw [wipeG_not fun m => noOw_at h m e]; exact e
/-- what was forgotten stood all the while -/
theorem EnvOk.unwipe {F1 H1 F' H' : Hp} {own : List Nat} (h : EnvOk b F1 H1 G σ) (n : noOw G own = true) (e : Ex F1 F') (h' : EnvOk b F' H' (wipeG G own) (L2.wipe σ own)) : EnvOk b F' H' G σ := by
  refine ⟨h'.base, h.len, fun i s hi => ?_, fun i j l o l' o' h1 h2 => h'.ap i j l o l' o' (ow_not n h1) (ow_not n h2)⟩
  cases s with
  | un => trivial
  | im d => obtain ⟨v, ev, r⟩ := h.slot i _ hi; exact ⟨v, ev, r.mono e⟩
  | ow l o =>
    obtain ⟨e1, e2, e3, e4⟩ := h'.slot i _ (ow_not n hi)
    rw [wipe_out fun m => noOw_at n m hi] at e1
    exact ⟨e1, e2, e3, e4⟩
end
/-! ### forgetting again what is stored at an own slot -/
theorem wipe_set : ∀ {vs : List Nat} {σ : L2.St} {j : Nat} {x : Option V}, j ∈ vs → wipe (σ.set j x) vs = wipe σ vs
  | v :: vs, σ, j, x, h => by
    show (wipe (σ.set j x) vs).set v none = (wipe σ vs).set v none
    by_cases m : j ∈ vs
    · rw [wipe_set m]
    · have e : j = v := (List.mem_cons.mp h).resolve_right m
      subst e
      have all : ∀ (vs : List Nat) (σ : L2.St), j ∉ vs → wipe (σ.set j x) vs = (wipe σ vs).set j x := fun vs => by
        induction vs with
        | nil => intro σ _; rfl
        | cons u us ih =>
          intro σ hn
          show (wipe (σ.set j x) us).set u none = ((wipe σ us).set u none).set j x
          rw [ih σ fun z => hn (List.mem_cons_of_mem _ z), List.set_comm _ _ (fun z => hn (by rw [z]; exact List.mem_cons_self))]
      rw [all vs σ m, List.set_set]
theorem wipeG_set : ∀ {vs : List Nat} {G : Gm} {j : Nat} {x : Slot}, j ∈ vs → wipeG (G.set j x) vs = wipeG G vs
  | v :: vs, G, j, x, h => by
    show (wipeG (G.set j x) vs).set v .un = (wipeG G vs).set v .un
    by_cases m : j ∈ vs
    · rw [wipeG_set m]
    · have e : j = v := (List.mem_cons.mp h).resolve_right m
      subst e
      have all : ∀ (vs : List Nat) (G : Gm), j ∉ vs → wipeG (G.set j x) vs = (wipeG G vs).set j x := fun vs => by
        induction vs with
        | nil => intro G _; rfl
        | cons u us ih =>
          intro G hn
          show (wipeG (G.set j x) us).set u .un = ((wipeG G us).set u .un).set j x
          rw [ih G fun z => hn (List.mem_cons_of_mem _ z), List.set_comm _ _ (fun z => hn (by rw [z]; exact List.mem_cons_self))]
      rw [all vs G m, List.set_set]
theorem wipe_idem : ∀ (vs : List Nat) (σ : L2.St), wipe (wipe σ vs) vs = wipe σ vs
  | [], _ => rfl
  | v :: vs, σ => by
    show (wipe ((wipe σ vs).set v none) vs).set v none = (wipe σ vs).set v none
    by_cases m : v ∈ vs
    · rw [wipe_set m, wipe_idem vs σ]
    · have h1 : wipe ((wipe σ vs).set v none) (v :: vs) = wipe (wipe σ vs) (v :: vs) := wipe_set List.mem_cons_self
      have h2 : (wipe ((wipe σ vs).set v none) vs).set v none = (wipe (wipe σ vs) vs).set v none := h1
      rw [h2, wipe_idem vs σ]
theorem wipeG_idem : ∀ (vs : List Nat) (G : Gm), wipeG (wipeG G vs) vs = wipeG G vs
  | [], _ => rfl
  | v :: vs, G => by
    show (wipeG ((wipeG G vs).set v .un) vs).set v .un = (wipeG G vs).set v .un
    have h1 : wipeG ((wipeG G vs).set v .un) (v :: vs) = wipeG (wipeG G vs) (v :: vs) := wipeG_set List.mem_cons_self
    have h2 : (wipeG ((wipeG G vs).set v .un) vs).set v .un = (wipeG (wipeG G vs) vs).set v .un := h1
    rw [h2, wipeG_idem vs G]

/-! ### targets -/
def Tg.slots : Tg → List Nat
  | .one j => [j]
  | .many js => js
/-- the store of a value that stands for d -/
def tgG (K : PySem.W.Frag) : Tg → TG
  | .one j => gName j
  | .many js => gTup K js.length fun vs σ H Q => vs.length = js.length ∧ Q ((js.zip vs).foldl (fun σ p => σ.set p.1 (some p.2)) σ) H
theorem pgs_names {X : Cx} : ∀ {es : List Expr} {js : List Nat}, Paired (fun e j => PG X e (gName j)) es js → (∀ (e : Expr) (r : List Expr), e ∈ es → (assignEach (e :: r) X.env) = (false, assign e X.env) :: assignEach r X.env) →
    PGs X es (fun vs σ H Q => vs.length = js.length ∧ Q ((js.zip vs).foldl (fun σ p => σ.set p.1 (some p.2)) σ) H) ∧ (assignEach es X.env).length = js.length ∧ (assignEach es X.env).findIdx? (·.1) = none := by
  intro es js h
  induction h with
  | nil =>
    intro _
    refine ⟨⟨fun pins s σ H vs us Q I r q => ?_⟩, rfl, rfl⟩
    have e : vs = [] := List.eq_nil_of_length_eq_zero q.1
    subst e
    exact pgs_nil.run pins s σ H [] us Q I r ⟨rfl, q.2⟩
  | @cons e j es js h1 t ih =>
    intro st
    obtain ⟨i1, i2, i3⟩ := ih fun e r m => st e r (List.mem_cons_of_mem _ m)
    have se := st e es List.mem_cons_self
    refine ⟨⟨fun pins s σ H vs us Q I r q => ?_⟩, by rw [se, List.length_cons, i2, List.length_cons], by rw [se, List.findIdx?_cons]; simp [i3]⟩
    obtain ⟨q1, q2⟩ := q
    cases vs with
    | nil => cases q1
    | cons v vr =>
      refine (pgs_cons h1 i1 (by rw [se]; rfl)).run pins s σ H (v :: vr) us Q I r ⟨v, vr, rfl, ?_, q2⟩
      simpa using q1
theorem setMany_ok {b : Bs} {F H : Hp} : ∀ {js : List Nat} {vs : List V} {ds : List D} {G G' : Gm} {σ : L2.St}, Reps F vs ds → setMany G js ds = some G' → EnvOk b F H G σ → vs.length = js.length ∧ EnvOk b F H G' ((js.zip vs).foldl (fun σ p => σ.set p.1 (some p.2)) σ)
  | [], _, _, _, _, _, .nil, e, h => by cases e; exact ⟨rfl, h⟩
  | [], _, _, _, _, _, .cons _ _, e, _ => by cases e
  | _ :: _, _, _, _, _, _, .nil, e, _ => by cases e
  | j :: js, _, _, _, _, _, .cons r rs, e, h => by
    obtain ⟨q1, q2⟩ := setMany_ok (js := js) rs e (h.setIm r)
    exact ⟨by rw [List.length_cons, List.length_cons, q1], q2⟩
theorem wipe_fold : ∀ (js : List Nat) (vs : List V) {own : List Nat} {σ : L2.St}, (∀ j ∈ js, j ∈ own) → wipe ((js.zip vs).foldl (fun σ p => σ.set p.1 (some p.2)) σ) own = wipe σ own
  | [], _, own, σ, _ => by simp
  | _ :: _, [], own, σ, _ => by simp
  | j :: js, v :: vs, own, σ, h => by
    rw [List.zip_cons_cons, List.foldl_cons, wipe_fold js vs fun j' m => h j' (List.mem_cons_of_mem _ m), wipe_set (h j List.mem_cons_self)]
theorem wipeG_many : ∀ {js : List Nat} {ds : List D} {own : List Nat} {G G' : Gm}, setMany G js ds = some G' → (∀ j ∈ js, j ∈ own) → wipeG G' own = wipeG G own
  | [], [], own, G, G', e, _ => by cases e; rfl
  | [], _ :: _, _, _, _, e, _ => by cases e
  | _ :: _, [], _, _, _, e, _ => by cases e
  | j :: js, d :: ds, own, G, G', e, h => by
    rw [wipeG_many (js := js) e fun j' m => h j' (List.mem_cons_of_mem _ m), wipeG_set (h j List.mem_cons_self)]
theorem setTg_ok {b : Bs} {K : PySem.W.Frag} {F H : Hp} {G G' : Gm} {σ : L2.St} {tg : Tg} {d : D} {v : V} {own : List Nat} {Q : L2.St → Hp → Prop} (e : setTg G d tg = some G') (ho : ∀ j ∈ tg.slots, j ∈ own) (r : Rep F v d) (h : EnvOk b F H G σ)
    (q : ∀ σ', wipe σ' own = wipe σ own → wipeG G' own = wipeG G own → EnvOk b F H G' σ' → Q σ' H) : tgG K tg v σ H Q := by
  cases tg with
  | one j =>
    cases e
    exact q _ (wipe_set (ho j List.mem_cons_self)) (wipeG_set (ho j List.mem_cons_self)) (h.setIm r)
  | many js =>
    cases d with
    | tuple ds =>
      obtain ⟨a, vs, rfl, ha, rs⟩ := ref_tup r
      obtain ⟨q1, q2⟩ := setMany_ok rs e h
      exact ⟨a, vs, rfl, SqT.of (h.base.fh _ _ ha), q1, q1, q _ (wipe_fold js vs ho) (wipeG_many e ho) q2⟩
    | _ => cases e

/-! ### a comprehension -/
/-- whatever the base -/
def tAx (b0 : Bs) (m : Sm) : TE := fun σ H Q => ∃ b : Bs, b.P = b0.P ∧ b.w = b0.w ∧ b.C = b0.C ∧ (∀ c d σ H, ¬ b.W c d σ H) ∧ tA b m σ H Q
def tTx (b0 : Bs) (m : Tm) : TT := fun σ H Q => ∃ b : Bs, b.P = b0.P ∧ b.w = b0.w ∧ b.C = b0.C ∧ (∀ c d σ H, ¬ b.W c d σ H) ∧ tT b m σ H Q
def tIx (b0 : Bs) (m : Im) : TI := fun σ H R => ∃ b : Bs, b.P = b0.P ∧ b.w = b0.w ∧ b.C = b0.C ∧ (∀ c d σ H, ¬ b.W c d σ H) ∧ tI b m σ H R
section
variable {b : Bs} {X : Cx}
/-- what a block's expression must be, for every base that raises nothing -/
abbrev QB (b0 : Bs) (p : Bs → Prop) : Prop := ∀ b : Bs, b.P = b0.P → b.w = b0.w → b.C = b0.C → (∀ c d σ H, ¬ b.W c d σ H) → p b
theorem pe_x {Y : Cx} {e : Expr} {m : Sm} {b0 : Bs} (h : QB b0 fun b => PE Y e (tA b m)) : PE Y e (tAx b0 m) := ⟨fun pins s σ H Q I ⟨b, h1, h2, h3, h4, q⟩ => (h b h1 h2 h3 h4).run pins s σ H Q I q⟩
theorem pt_x {Y : Cx} {e : Expr} {m : Tm} {b0 : Bs} (h : QB b0 fun b => PT Y e (tT b m)) : PT Y e (tTx b0 m) := ⟨fun pins s σ H Q I ⟨b, h1, h2, h3, h4, q⟩ => (h b h1 h2 h3 h4).run pins s σ H Q I q⟩
theorem pi_x {Y : Cx} {tg e : Expr} {m : Im} {b0 : Bs} (h : QB b0 fun b => PI Y tg e (tI b m)) : PI Y tg e (tIx b0 m) := ⟨fun pins s σ H Q I ⟨b, h1, h2, h3, h4, q⟩ => (h b h1 h2 h3 h4).run pins s σ H Q I q⟩
theorem ke_no {b : Bs} {F : Hp} {σ : L2.St} : Ke b F σ fun _ => False := fun _ _ _ _ h => h.elim
theorem lc_read {elt : Sm} {tg : Tg} {it : Im} {cond : Tm} {own : List Nat} {σ : L2.St} {H : Hp} {Q : VK} {K : PySem.W.Frag} (ho : ∀ j ∈ tg.slots, j ∈ own) (q : tA b (eLc elt tg it cond own) σ H Q) :
    tLc (tI b it) (tgG K tg) (tTx b cond) (tAx b elt) own σ H Q := by
  obtain ⟨G, P, E, F, h, env, k, ke⟩ := q
  refine ⟨G, _, E, F, h, env, fun ds stay G1 F1 H1 J hp e1 env1 ok D hD => ?_, ke⟩
  obtain ⟨now, hst, hlen, I, i0, step, fin⟩ := hp
  have hb : b.H0 D = none := fresh_back env1.base.h0 hD
  have hf1 : F1 D = none := fresh_back env1.base.fh hD
  have hf0 : b.F0 D = none := fresh_back env1.base.f0 hf1
  refine ⟨fun i m H' => m = ds.length - i ∧ i ≤ ds.length ∧ ∃ acc vs F', I i acc ∧ acc.length ≤ i ∧ Reps F' vs acc ∧ Ex F1 F' ∧ EnvOk (b.at D vs) F' H' (wipeG G1 own) (wipe σ own), ⟨ds.length, by simp, Nat.zero_le _, [], [], F1, i0, Nat.le_refl _, .nil, Ex.refl _, (env1.newD hD).wipe own⟩, ?_⟩
  rintro i m H' ⟨rfl, hi, acc, vs, F', hI, hacc, rs, e2, en⟩
  have enb := en.unD hb
  obtain ⟨okg, oks, oky⟩ := ok b F' H' _ _ i e2 enb hst
  by_cases hlt : i < ds.length
  · refine .inr ⟨okg hlt, fun H'' => i < ds.length ∧ ∃ acc vs F', I (i + 1) acc ∧ acc.length ≤ i + 1 ∧ Reps F' vs acc ∧ Ex F1 F' ∧ EnvOk (b.at D vs) F' H'' (wipeG G1 own) (wipe σ own), fun H'' ⟨_, q⟩ => ⟨ds.length - (i + 1), by omega, rfl, hlt, q⟩, fun x H3 hy => ?_⟩
    obtain ⟨rfl, d, hd, rd⟩ := oky x H3 hy hlt
    obtain ⟨Gb, hset, hc⟩ := step i d acc hd hI hacc
    refine setTg_ok (own := own) hset ho rd en fun σ2 w1 w2 en2 => ?_
    have w1' : wipe σ2 own = wipe σ own := w1.trans (wipe_idem own σ)
    have w2' : wipeG Gb own = wipeG G1 own := w2.trans (wipeG_idem own G1)
    refine ⟨w1', b.at D vs, rfl, rfl, rfl, fun _ _ _ _ z => z, Gb, _, fun _ => False, F', hc, en2, fun c G2 F4 H4 h4 e4 en4 => ?_, ke_no⟩
    obtain ⟨rfl, h4⟩ := h4
    have back : ∀ {F6 H6 : Hp} {vs : List V}, EnvOk (b.at D vs) F6 H6 G2 σ2 → EnvOk (b.at D vs) F6 H6 (wipeG G1 own) (wipe σ own) := fun {F6 H6 vs} z => by
      have z' := z.wipe own
      rw [w1', w2'] at z'
      exact z'
    cases c with
    | false =>
      rw [if_neg Bool.false_ne_true] at h4
      exact iteF ⟨hlt, acc, vs, F4, h4, Nat.le_succ_of_le hacc, rs.mono e4, e2.trans e4, back en4⟩
    | true =>
      rw [if_pos rfl] at h4
      refine iteT ⟨b.at D vs, rfl, rfl, rfl, fun _ _ _ _ z => z, G2, _, fun _ => False, F4, h4, en4, fun v r G3 F5 H5 h5 e5 en5 r5 => ?_, ke_no⟩
      obtain ⟨rfl, h5⟩ := h5
      have lv := rs.length
      exact ⟨vs, at_D en5, big_lt (by omega), hlt, acc ++ [r], vs ++ [v], F5, h5, by simp; omega, (rs.mono (e4.trans e5)).snoc r5, e2.trans (e4.trans e5), back (en5.setD (o' := .lst (vs ++ [v])) hf0 hb)⟩
  · have ei : i = ds.length := by omega
    subst ei
    obtain ⟨ff, en3⟩ := en.frzD hf0 hb
    exact .inl ⟨oks (Nat.le_refl _), k _ _ G1 _ _ (fin acc hacc hI) (e1.trans (e2.trans ff)) (env1.unwipe now (e2.trans ff) en3) (.lst upd_same (rs.mono ff))⟩
end
end Wd

/-! A11: comprehensions as expressions and as what a name is set to; two clauses; calls of defs. -/
namespace Wd
open PySem PySem.Spec PyProof.Rows L2 HotX
open L2H (HotC TurnH PIH PIEH RoomH FnH)
open Evl (Ex Ex.refl Ex.trans Ex.new Ex.mut fresh_back)

theorem si_pick {b : Bs} {X : Cx} {l : Expr} {m : Im} (h : PIM b X l m) (tg : Expr) (scope : Scope) (md : Mode X) : ∃ Md : Cx → Prop, InBlk X scope Md ∧ PIW Md X tg l (tI b m) := by
  rcases md with c | c
  · exact ⟨Calm, fun _ _ _ _ _ => c, PIW.ofC (h.calm c tg)⟩
  · exact ⟨HotC, fun _ _ _ _ _ => HotC.blk c, PIW.ofH (h.hot c tg)⟩
/-- the one test of a clause, or none -/
theorem pts_opt {Y : Cx} {ifs : List Expr} {b0 : Bs} {m : Tm} (h : (ifs = [] ∧ m = tTrue) ∨ ∃ c, ifs = [c] ∧ QB b0 fun b => PT Y c (tT b m)) : PTs Y ifs (tTx b0 m) := by
  rcases h with ⟨rfl, rfl⟩ | ⟨c, rfl, h⟩
  · refine ⟨fun pins s σ H Q I q => ?_⟩
    obtain ⟨b, h1, h2, h3, h4, G, P', E, F, h, env, k, _⟩ := q
    exact pts_nil.run pins s σ H Q I (k _ G F H h (Ex.refl F) env)
  · exact pts_one (pt_x h)
section
variable {b : Bs} {X : Cx} {elt iter : Expr} {ifs : List Expr} {scope : Scope} {own : List (Str × Nat)} {pos : Pos} {tge : Expr} {tg : Tg} {it : Im} {me : Sm} {cond : Tm}
theorem se_lc (md : Mode X) (hN : X.N.Nodup) (hi : PIM b X iter it) (ok : BlkOk X.N X.env.scope scope own) (ho : ∀ j ∈ tg.slots, j ∈ own.map (·.2))
    (hg : InBlk X scope fun Y => PG Y tge (tgG X.K tg)) (ht : InBlk X scope fun Y => (ifs = [] ∧ cond = tTrue) ∨ ∃ c, ifs = [c] ∧ QB b fun b => PT Y c (tT b cond))
    (he : InBlk X scope fun Y => QB b fun b => PE Y elt (tA b me)) (hs : ∀ x, foldedSetIterable iter X.env x = pure x) :
    PE X (.ListComp elt [⟨tge, iter, ifs, 0⟩] scope pos) (tA b (eLc me tg it cond (own.map (·.2)))) := by
  obtain ⟨Md, hm, hW⟩ := si_pick hi tge scope md
  exact (pe_lcM hm hN hW ok hg (fun s H C cl fp => pts_opt (ht s H C cl fp)) (fun s H C cl fp => pe_x (he s H C cl fp)) hs).imp fun σ H Q q => lc_read ho q
theorem ss_setLc {i : Nat} {y : Str} {py spos : Pos} (md : Mode X) (hN : X.N.Nodup) (hy : X.N[i]? = some y) (hyl : X.env.scope.names.lookup y = some .local)
    (hsw : swapsWith (.ListComp elt [⟨tge, iter, ifs, 0⟩] scope pos) (some (.Name y py)) spos.line X.env = pure true) (hi : PIM b X iter it) (ok : BlkOk X.N X.env.scope scope own) (ho : ∀ j ∈ tg.slots, j ∈ own.map (·.2))
    (hg : InBlk X scope fun Y => PG Y tge (tgG X.K tg)) (ht : InBlk X scope fun Y => (ifs = [] ∧ cond = tTrue) ∨ ∃ c, ifs = [c] ∧ QB b fun b => PT Y c (tT b cond))
    (he : InBlk X scope fun Y => QB b fun b => PE Y elt (tA b me)) (hs : ∀ x, foldedSetIterable iter X.env x = pure x) :
    PS X (.Assign [.Name y py] (.ListComp elt [⟨tge, iter, ifs, 0⟩] scope pos) spos) (tAsg (tA b (eLc me tg it cond (own.map (·.2)))) (gName i)) := by
  obtain ⟨Md, hm, hW⟩ := si_pick hi tge scope md
  exact (ps_setLcM hm hN hy hyl hsw hW ok hg (fun s H C cl fp => pts_opt (ht s H C cl fp)) (fun s H C cl fp => pe_x (he s H C cl fp)) hs).imp fun D σ H q => lc_read ho q
end

/-! ### two clauses (calm) -/
section
variable {b : Bs} {X : Cx}
theorem lc2_read {elt : Sm} {j j2 : Nat} {it it2 : Im} {own : List Nat} {σ : L2.St} {H : Hp} {Q : VK} (hj : j ∈ own) (hj2 : j2 ∈ own) (q : tA b (eLc2 elt j it j2 it2 own) σ H Q) :
    tLc2 (tI b it) (gName j) tYes (tIx b it2) (gName j2) tYes (tAx b elt) own [j2] σ H Q := by
  obtain ⟨G, P, E, F, h, env, k, ke⟩ := q
  refine ⟨G, _, E, F, h, env, fun ds stay G1 F1 H1 J hp e1 env1 ok D hD => ?_, ke⟩
  obtain ⟨now, hst, I, i0, step, fin⟩ := hp
  have hb : b.H0 D = none := fresh_back env1.base.h0 hD
  have hf1 : F1 D = none := fresh_back env1.base.fh hD
  have hf0 : b.F0 D = none := fresh_back env1.base.f0 hf1
  refine ⟨fun i m H' => m = ds.length - i ∧ i ≤ ds.length ∧ ∃ acc vs F', I i acc ∧ Reps F' vs acc ∧ Ex F1 F' ∧ EnvOk (b.at D vs) F' H' (wipeG G1 own) (wipe σ own), ⟨ds.length, by simp, Nat.zero_le _, [], [], F1, i0, .nil, Ex.refl _, (env1.newD hD).wipe own⟩, ?_⟩
  rintro i m H' ⟨rfl, hi, acc, vs, F', hI, rs, e2, en⟩
  have enb := en.unD hb
  obtain ⟨okg, oks, oky⟩ := ok b F' H' _ _ i e2 enb hst
  by_cases hlt : i < ds.length
  · refine .inr ⟨okg hlt, fun H'' => i < ds.length ∧ ∃ acc vs F', I (i + 1) acc ∧ Reps F' vs acc ∧ Ex F1 F' ∧ EnvOk (b.at D vs) F' H'' (wipeG G1 own) (wipe σ own), fun H'' ⟨_, q⟩ => ⟨ds.length - (i + 1), by omega, rfl, hlt, q⟩, fun x H3 hy => ?_⟩
    obtain ⟨rfl, d, hd, rd⟩ := oky x H3 hy hlt
    have hc := step i d acc hd hI
    have en2 := en.setIm (j := j) rd
    have w1 : wipe ((wipe σ own).set j (some x)) own = wipe σ own := (wipe_set hj).trans (wipe_idem own σ)
    have w2 : wipeG ((wipeG G1 own).set j (.im d)) own = wipeG G1 own := (wipeG_set hj).trans (wipeG_idem own G1)
    refine ⟨w1, ?_⟩
    show tIx b it2 ((wipe σ own).set j (some x)) H3 _
    refine ⟨b.at D vs, rfl, rfl, rfl, fun _ _ _ _ z => z, (wipeG G1 own).set j (.im d), _, fun _ => False, F', hc, en2, fun es stay2 G2 F4 H4 J1 h4 e4 en4 ok1 => ?_, ke_no⟩
    obtain ⟨rfl, hst2, L, l0, step2, fin2⟩ := h4
    generalize hσ2 : (wipe σ own).set j (some x) = σ2 at w1 en4 ⊢
    generalize hG2 : (wipeG G1 own).set j (.im d) = G2 at w2 en4 hst2 step2 ⊢
    refine ⟨fun i1 m1 H5 => m1 = es.length - i1 ∧ i1 ≤ es.length ∧ ∃ acc vs' F5, L i1 acc ∧ Reps F5 vs' acc ∧ Ex F4 F5 ∧ EnvOk (b.at D vs') F5 H5 (G2.set j2 .un) (σ2.set j2 none), ⟨es.length, by simp, Nat.zero_le _, acc, vs, F4, l0, rs.mono e4, Ex.refl _, en4.setUn none⟩, ?_⟩
    rintro i1 m1 H5 ⟨rfl, hi1, acc2, vs2, F5, hL, rs2, e5, en5⟩
    have back : ∀ {F6 H6 : Hp} {vs : List V} {G' : Gm} {σ' : L2.St}, wipe σ' own = wipe σ own → wipeG G' own = wipeG G1 own → EnvOk (b.at D vs) F6 H6 G' σ' → EnvOk (b.at D vs) F6 H6 (wipeG G1 own) (wipe σ own) := fun {F6 H6 vs G' σ'} a c z => by
      have z' := z.wipe own
      rw [a, c] at z'
      exact z'
    have ws : wipe (σ2.set j2 none) own = wipe σ own := (wipe_set hj2).trans w1
    have wg : wipeG (G2.set j2 .un) own = wipeG G1 own := (wipeG_set hj2).trans w2
    obtain ⟨ok1g, ok1s, ok1y⟩ := ok1 _ F5 H5 _ _ i1 e5 en5 hst2
    by_cases hl1 : i1 < es.length
    · refine .inr ⟨ok1g hl1, fun H'' => i1 < es.length ∧ ∃ acc vs' F5, L (i1 + 1) acc ∧ Reps F5 vs' acc ∧ Ex F4 F5 ∧ EnvOk (b.at D vs') F5 H'' (G2.set j2 .un) (σ2.set j2 none), fun H'' ⟨_, q⟩ => ⟨es.length - (i1 + 1), by omega, rfl, hl1, q⟩, fun x1 H6 hy1 => ?_⟩
      obtain ⟨rfl, e, he, re⟩ := ok1y x1 H6 hy1 hl1
      obtain ⟨hz, hel⟩ := step2 i1 e acc2 he hL
      have ex1 : (wipe σ2 [j2]).set j2 (some x1) = σ2.set j2 (some x1) := by
        show (σ2.set j2 none).set j2 (some x1) = _
        rw [List.set_set]
      have en6 := en5.setIm (j := j2) re
      rw [List.set_set, List.set_set] at en6
      show wipe ((wipe σ2 [j2]).set j2 (some x1)) [j2] = wipe σ2 [j2] ∧ _
      rw [ex1]
      refine ⟨by show (σ2.set j2 (some x1)).set j2 none = σ2.set j2 none; rw [List.set_set], ?_⟩
      show tAx b elt (σ2.set j2 (some x1)) H6 _
      refine ⟨b.at D vs2, rfl, rfl, rfl, fun _ _ _ _ z => z, _, _, fun _ => False, F5, hel, en6, fun v r G3 F7 H7 h7 e7 en7 r7 => ?_, ke_no⟩
      obtain ⟨rfl, h7⟩ := h7
      have lv := rs2.length
      have un := (en7.setD (o' := .lst (vs2 ++ [v])) hf0 hb).setUn (j := j2) none
      rw [List.set_set, List.set_set] at un
      exact ⟨vs2, at_D en7, big_lt (by omega), hl1, acc2 ++ [r], vs2 ++ [v], F7, h7, (rs2.mono e7).snoc r7, e5.trans e7, un⟩
    · have ei : i1 = es.length := by omega
      subst ei
      exact .inl ⟨ok1s (Nat.le_refl _), hlt, acc2, vs2, F5, fin2 acc2 hL, rs2, e2.trans (e4.trans e5), back ws wg en5⟩
  · have ei : i = ds.length := by omega
    subst ei
    obtain ⟨ff, en3⟩ := en.frzD hf0 hb
    exact .inl ⟨oks (Nat.le_refl _), k _ _ G1 _ _ (fin acc hI) (e1.trans (e2.trans ff)) (env1.unwipe now (e2.trans ff) en3) (.lst upd_same (rs.mono ff))⟩
theorem blk_eq (hp : X.pn = []) (s : Shared) (H : Hp) (scope : Scope) (cenv : Env) (fp : List Addr) : blkP X s H scope cenv fp = X.blk s H scope cenv fp := by
  unfold blkP
  rw [hp]
theorem pi_calm {Y : Cx} {l : Expr} {m : Im} {b : Bs} (h : PIM b Y l m) (c : Y.calm = true) (tg : Expr) : PI Y tg l (tI b m) := h.calm c tg
variable {elt iter iter2 : Expr} {scope : Scope} {own : List (Str × Nat)} {pos : Pos} {x1 x2 : Str} {p1 p2 : Pos} {j j2 : Nat} {it it2 : Im} {me : Sm}
theorem se_lc2 (hc : X.calm = true) (hp : X.pn = []) (hN : X.N.Nodup) (hi : PIM b X iter it) (ok : BlkOk X.N X.env.scope scope own) (hj : j ∈ own.map (·.2)) (hj2 : j2 ∈ own.map (·.2))
    (hg : InBlk X scope fun Y => PG Y (.Name x1 p1) (gName j)) (hg2 : InBlk X scope fun Y => PG Y (.Name x2 p2) (gName j2)) (hi2 : InBlk X scope fun Y => QB b fun b => PIM b Y iter2 it2)
    (he : InBlk X scope fun Y => QB b fun b => PE Y elt (tA b me)) (hs : ∀ x, foldedSetIterable iter X.env x = pure x) (hs2 : ∀ env x, foldedSetIterable iter2 env x = pure x) :
    PE X (.ListComp elt [⟨.Name x1 p1, iter, [], 0⟩, ⟨.Name x2 p2, iter2, [], 0⟩] scope pos) (tA b (eLc2 me j it j2 it2 (own.map (·.2)))) :=
  (pe_lc2 (vs1 := [j2]) hc hN (hi.calm hc _) ok (fun i h => by rw [List.mem_singleton.mp h]; exact hj2) (fun s H C cl fp => (blk_eq hp s H scope _ fp) ▸ hg s H C cl fp) (fun s H C cl fp => pts_nil)
    (fun s H C cl fp => (blk_eq hp s H scope _ fp) ▸ pi_x fun b h1 h2 h3 h4 => (hi2 s H C cl fp b h1 h2 h3 h4).calm hc _) (fun s H C cl fp => (blk_eq hp s H scope _ fp) ▸ hg2 s H C cl fp) (fun s H C cl fp => pts_nil)
    (fun s H C cl fp => (blk_eq hp s H scope _ fp) ▸ pe_x (he s H C cl fp)) hs hs2).imp fun σ H Q q => lc2_read hj hj2 q
theorem ss_setLc2 {i : Nat} {y : Str} {py spos : Pos} (hy : X.N[i]? = some y) (hyl : X.env.scope.names.lookup y = some .local)
    (hsw : swapsWith (.ListComp elt [⟨.Name x1 p1, iter, [], 0⟩, ⟨.Name x2 p2, iter2, [], 0⟩] scope pos) (some (.Name y py)) spos.line X.env = pure true)
    (hc : X.calm = true) (hp : X.pn = []) (hN : X.N.Nodup) (hi : PIM b X iter it) (ok : BlkOk X.N X.env.scope scope own) (hj : j ∈ own.map (·.2)) (hj2 : j2 ∈ own.map (·.2))
    (hg : InBlk X scope fun Y => PG Y (.Name x1 p1) (gName j)) (hg2 : InBlk X scope fun Y => PG Y (.Name x2 p2) (gName j2)) (hi2 : InBlk X scope fun Y => QB b fun b => PIM b Y iter2 it2)
    (he : InBlk X scope fun Y => QB b fun b => PE Y elt (tA b me)) (hs : ∀ x, foldedSetIterable iter X.env x = pure x) (hs2 : ∀ env x, foldedSetIterable iter2 env x = pure x) :
    PS X (.Assign [.Name y py] (.ListComp elt [⟨.Name x1 p1, iter, [], 0⟩, ⟨.Name x2 p2, iter2, [], 0⟩] scope pos) spos) (tAsg (tA b (eLc2 me j it j2 it2 (own.map (·.2)))) (gName i)) :=
  (ps_setLc2 (vs1 := [j2]) hc hN hy hyl hsw (hi.calm hc _) ok (fun i h => by rw [List.mem_singleton.mp h]; exact hj2) (fun s H C cl fp => (blk_eq hp s H scope _ fp) ▸ hg s H C cl fp) (fun s H C cl fp => pts_nil)
    (fun s H C cl fp => (blk_eq hp s H scope _ fp) ▸ pi_x fun b h1 h2 h3 h4 => (hi2 s H C cl fp b h1 h2 h3 h4).calm hc _) (fun s H C cl fp => (blk_eq hp s H scope _ fp) ▸ hg2 s H C cl fp) (fun s H C cl fp => pts_nil)
    (fun s H C cl fp => (blk_eq hp s H scope _ fp) ▸ pe_x (he s H C cl fp)) hs hs2).imp fun D σ H q => lc2_read hj hj2 q
end

/-! ### calls of defs -/
/-- a data promise, as a heap promise -/
def spOf (C : Addr) (sp : FSp) : Sp := fun vs H Q E => ∃ (ds : List D) (F : Hp) (Pd : D → Prop) (Px : Prop), sp ds Pd Px ∧ Ex F H ∧ Reps F vs ds ∧
  (∀ v d F' H', Pd d → Step F H F' H' → Rep F' v d → Q v H') ∧ ∀ dd F' H', Px → Step F H F' H' → E (.ref C) (some dd) H'
/-- exceptions go through -/
abbrev CXn (P : Program) (w : World) : CXT := L2N.CX P w
/-- a def's promise, calm or hot -/
structure FnM (hot : Bool) (P : Program) (w : World) (K : PySem.W.Frag) (mg : Str → Option Value) (base : Heap) (k : Nat) (f : Addr) (fd : FuncData) (ps : List Str) (sp : Sp) : Prop where
  c : hot = false → FnOk P w K mg base (CXn P w) k f fd ps sp
  h : hot = true → FnH P w K mg base (CXn P w) k f fd ps sp
/-- the room of a context, its mode -/
structure RoomM (hot : Bool) (X : Cx) (k : Nat) : Prop where
  c : hot = false → Room k X.A ∧ X.calm = true
  h : hot = true → RoomH k X.A ∧ HotC X
theorem RoomM.mode {hot : Bool} {X : Cx} {k : Nat} (r : RoomM hot X k) : Mode X := by
  cases hot with
  | false => exact .inl (r.c rfl).2
  | true => exact .inr (r.h rfl).2
theorem RoomM.un {hot : Bool} {X : Cx} {k : Nat} (r : RoomM hot X k) : X.A.units + 100 < cLine := by
  cases hot with
  | false => have := (r.c rfl).1.un; omega
  | true => have := (r.h rfl).1.un; omega
section
variable {b : Bs} {X : Cx} {hot : Bool} {k j : Nat} {f : Addr} {fd : FuncData} {ps : List Str} {x : Str} {p pos : Pos} {e : Expr} {es : List Expr} {ma : Am} {sp : FSp}
theorem call_imp (E : L2.St → XK) (hE : E = WE b.W) {σ : L2.St} {H : Hp} {Q : VK} (q : tA b (eCall sp ma) σ H Q) : tCallS (spOf b.C sp) E (tAs b ma) σ H Q := by
  subst hE
  obtain ⟨G, P, E, F, h, env, k, ke⟩ := q
  exact ⟨G, _, E, F, h, env, fun vs ds G1 F1 H1 h1 e1 env1 r1 => ⟨ds, F1, _, _, h1, env1.base.fh, r1, fun v d F' H' pd st r => k v d G1 F' H' pd (e1.trans st.ff) (env1.step st) r,
    fun dd F' H' px st => ke G1 F' H' dd px (e1.trans st.ff) (env1.step st)⟩, ke⟩
theorem se_call (F : FnM hot X.prog X.w X.K X.mg X.base j f fd ps (spOf b.C sp)) (r : RoomM hot X k) (hj : j ≤ k) (hg : Gl X x) (hm : X.mg x = some (.ref f)) (hk : PySem.W.keepIn X.K (.ref f) = true) (hb : Binds X.K fd ps [])
    (hx : ∀ σ, PassesAt (CXn X.prog X.w) X σ (WE b.W σ)) (ha : PA X (e :: es) (tAs b ma)) (hdb : (x == ("__debug__" : Str)) = false) (ne : NStar e) (hpl : (backTo pos (starEach es X.env)).any (·.1) = false) :
    PE X (.Call (.Name x p) (e :: es) [] pos) (tA b (eCall sp ma)) := by
  cases hot with
  | false => exact (pe_callS (E := WE b.W) (F.c rfl) ((r.c rfl).1.mono hj) hg hm hk hb hx ha hdb (ne _ _) hpl).imp fun σ H Q q => call_imp _ rfl q
  | true => exact (L2H.pe_callH (E := WE b.W) (F.h rfl) ((r.h rfl).1.mono hj) (r.h rfl).2 hg hm hk hb hx ha hdb (ne _ _) hpl).imp fun σ H Q q => call_imp _ rfl q
end
end Wd

/-! A12: statements keep their combinators. -/
namespace Wd
open PySem PySem.Spec PyProof.Rows L2 HotX
open L2H (HotC TurnH PIH PIEH RoomH FnH)
open Evl (Ex Ex.refl Ex.trans Ex.new Ex.mut fresh_back)

/-- what is wanted behind a statement -/
structure KS (b : Bs) (F : Hp) (P : Out → Prop) (D : Ends) : Prop where
  nx : ∀ G F' H' σ', P (.nx G) → Ex F F' → EnvOk b F' H' G σ' → D.nx σ' H'
  bk : ∀ G F' H' σ', P (.bk G) → Ex F F' → EnvOk b F' H' G σ' → D.bk σ' H'
  ct : ∀ G F' H' σ', P (.ct G) → Ex F F' → EnvOk b F' H' G σ' → D.ct σ' H'
  rt : ∀ d G v F' H' σ', P (.rt d G) → Ex F F' → EnvOk b F' H' G σ' → Rep F' v d → D.rt v H'
  ex : ∀ G F' H' σ' dd, P (.ex G) → Ex F F' → EnvOk b F' H' G σ' → b.W (.ref b.C) (some dd) σ' H'
def tSA (b : Bs) (m : Ss) : TS := fun D σ H => ∃ G P F, m G P ∧ EnvOk b F H G σ ∧ KS b F P D
theorem KS.mono {b : Bs} {F F' : Hp} {P : Out → Prop} {D : Ends} (e : Ex F F') (k : KS b F P D) : KS b F' P D :=
  ⟨fun G F1 H1 σ1 p x => k.nx G F1 H1 σ1 p (e.trans x), fun G F1 H1 σ1 p x => k.bk G F1 H1 σ1 p (e.trans x), fun G F1 H1 σ1 p x => k.ct G F1 H1 σ1 p (e.trans x),
    fun d G v F1 H1 σ1 p x => k.rt d G v F1 H1 σ1 p (e.trans x), fun G F1 H1 σ1 dd p x => k.ex G F1 H1 σ1 dd p (e.trans x)⟩
theorem KS.ke {b : Bs} {F : Hp} {P : Out → Prop} {D : Ends} (k : KS b F P D) (σ : L2.St) : Ke b F σ fun G => P (.ex G) := fun G F1 H1 dd p x en => k.ex G F1 H1 σ dd p x en
/-- never run -/
def sNever : Ss := fun _ _ => False
def eNever : Sm := fun _ _ _ => False
def tNever' : Tm := fun _ _ _ => False
def aNever : Am := fun _ _ _ => False
def oNever : Om := fun _ _ _ => False
def iNever : Im := fun _ _ _ => False
section
variable {b : Bs} {X : Cx} {e c : Expr} {me : Sm} {mt : Tm} {ms mr : Ss} {pos : Pos} {st : Stmt} {body rest : List Stmt}
theorem ss_never : PS X st (tSA b sNever) := ⟨fun _ _ _ _ _ _ ⟨_, _, _, h, _⟩ => h.elim⟩
theorem se_never : PE X e (tA b eNever) := ⟨fun _ _ _ _ _ _ ⟨_, _, _, _, h, _⟩ => h.elim⟩
theorem st_never : PT X e (tT b tNever') := ⟨fun _ _ _ _ _ _ ⟨_, _, _, _, h, _⟩ => h.elim⟩
theorem sw_never : PW X e (tT b tNever') := ⟨fun _ _ _ _ _ _ _ ⟨_, _, _, _, h, _⟩ => h.elim⟩
theorem sa_never {es : List Expr} : PA X es (tAs b aNever) := ⟨fun _ _ _ _ _ _ _ ⟨_, _, _, _, h, _⟩ => h.elim⟩
theorem so_never {e : Option Expr} : PO X e (tO b oNever) := ⟨fun _ _ _ _ _ _ ⟨_, _, _, _, h, _⟩ => h.elim⟩
theorem si_never : PIM b X e iNever := ⟨fun _ _ => ⟨fun _ _ _ _ _ _ ⟨_, _, _, _, h, _⟩ => h.elim⟩, fun _ _ => ⟨fun _ _ _ _ _ _ ⟨_, _, _, _, h, _⟩ => h.elim⟩⟩
theorem sss_nil : PSs X [] (tSA b sNop) := pss_nil.imp fun D σ H ⟨G, P, F, h, env, k⟩ => k.nx G F H σ h (Ex.refl F) env
theorem sss_one (h : PS X st (tSA b ms)) : PSs X [st] (tSA b ms) := pss_one h
theorem sss_cons (h1 : PS X st (tSA b ms)) (h2 : PSs X rest (tSA b mr)) : PSs X (st :: rest) (tSA b (sSeq ms mr)) := (pss_cons h1 h2).imp fun D σ H ⟨G, P, F, h, env, k⟩ =>
  ⟨G, _, F, h, env, fun G' F' H' σ' p x en => ⟨G', P, F', p, en, k.mono x⟩, fun G' F' H' σ' p => k.bk G' F' H' σ' p, fun G' F' H' σ' p => k.ct G' F' H' σ' p,
    fun d G' v F' H' σ' p => k.rt d G' v F' H' σ' p, fun G' F' H' σ' dd p => k.ex G' F' H' σ' dd p⟩
theorem ss_if (hc : PT X c (tT b mt)) (ha : PSs X body (tSA b ms)) (hb : PSs X rest (tSA b mr)) : PS X (.If c body rest pos) (tSA b (sIf mt ms mr)) := (ps_if hc ha hb).imp fun D σ H ⟨G, P, F, h, env, k⟩ =>
  ⟨G, _, _, F, h, env, fun c G1 F1 H1 h1 e1 env1 => by
    cases c with
    | true =>
      rw [if_pos rfl] at h1
      exact iteT ⟨G1, P, F1, h1, env1, k.mono e1⟩
    | false =>
      rw [if_neg Bool.false_ne_true] at h1
      exact iteF ⟨G1, P, F1, h1, env1, k.mono e1⟩, k.ke σ⟩
theorem ss_ret (he : PE X e (tA b me)) : PS X (.Return (some e) pos) (tSA b (sRet me)) := (ps_ret he).imp fun D σ H ⟨G, P, F, h, env, k⟩ =>
  ⟨G, _, _, F, h, env, fun v d G1 F1 H1 h1 e1 env1 r1 => k.rt d G1 v F1 H1 σ h1 e1 env1 r1, k.ke σ⟩
/-! stores -/
theorem asg_read {j : Nat} {D : Ends} {σ : L2.St} {H : Hp} (q : tSA b (sAsg j me) D σ H) : tAsg (tA b me) (gName j) D σ H := by
  obtain ⟨G, P, F, h, env, k⟩ := q
  exact ⟨G, _, _, F, h, env, fun v d G1 F1 H1 h1 e1 env1 r1 => k.nx _ F1 H1 _ h1 e1 (env1.setIm r1), k.ke σ⟩
/-- a list that is not yet frozen -/
def tL (b : Bs) (m : Sm) : TE := fun σ H Q => ∃ G P E F, m G P E ∧ EnvOk b F H G σ ∧
  (∀ vs d G1 F1 H1 p, P d G1 → Ex F F1 → EnvOk b F1 H1 G1 σ → (∀ ds, d = .list ds → Reps F1 vs ds) → (∃ ds, d = .list ds) ∧ H1 p = none → Q (.ref p) (upd H1 p (.lst vs))) ∧ Ke b F σ E
/-- name = a list: being made, or done -/
theorem ss_asgL {j : Nat} {tg : Expr} (h0 : PS X (.Assign [tg] e pos) (tAsg (tA b me) (gName j))) (h1 : PS X (.Assign [tg] e pos) (tAsg (tL b me) (gName j))) : PS X (.Assign [tg] e pos) (tSA b (sAsgL j me)) := by
  refine ⟨fun pins s σ H D I q => ?_⟩
  obtain ⟨G, P, F, h | h, env, k⟩ := q
  · refine h1.run pins s σ H D I ⟨G, _, _, F, h, env, fun vs d G1 F1 H1 p hd e1 env1 rs hp => ?_, k.ke σ⟩
    obtain ⟨⟨ds, rfl⟩, hp⟩ := hp
    exact k.nx _ F1 _ _ (hd p) e1 (env1.setOw hp ⟨vs, upd_same, rs ds rfl⟩)
  · exact h0.run pins s σ H D I (asg_read ⟨G, P, F, h, env, k⟩)
theorem sl_lst {es : List Expr} {m : Am} (ha : PA X es (tAs b m)) : PE X (.List es pos) (tL b (eLst m)) := (pe_lst ha).imp fun σ H Q ⟨G, P, E, F, h, env, k, ke⟩ =>
  ⟨G, _, E, F, h, env, fun vs xs G1 F1 H1 h1 e1 env1 r1 => ⟨by rw [r1.length]; exact big_le h1.1, fun p hp => k vs _ G1 F1 H1 p h1.2 e1 env1 (fun ds ed => by cases ed; exact r1) ⟨⟨_, rfl⟩, hp⟩⟩, ke⟩
theorem sl_listR {a d : Expr} {ma md : Sm} (hc : X.calm = true) (hg : Gl X "list") (hm : X.mg "list" = none) (hg2 : Gl X "range") (hm2 : X.mg "range" = none) {p p2 p3 : Pos} (ha : PE X a (tA b ma)) (hd : PE X d (tA b md)) (na : NStar a) (nd : NStar d) :
    PE X (.Call (.Name "list" p) [.Call (.Name "range" p2) [a, d] [] p3] [] pos) (tL b (eListR ma md)) :=
  (pe_listRg hc hg hm (prg_2 hg2 hm2 ha hd (na _ _) (nd _ _) (by rw [nd]; rfl))).imp fun σ H Q ⟨G, P, E, F, h, env, k, ke⟩ =>
    ⟨G, _, E, F, h, env, fun v1 x G1 F1 H1 h1 e1 env1 r1 => ⟨G1, _, E, F1, h1, env1, fun v2 y G2 F2 H2 h2 e2 env2 r2 => by
      dsimp only at h2
      split at h2
      · rename_i i j
        cases r1
        cases r2
        exact ⟨_, _, rfl, rfl, h2.1, fun q hq => k _ _ G2 F2 H2 q h2.2 (e1.trans e2) env2 (fun ds ed => by cases ed; exact reps_rg _ _) ⟨⟨_, rfl⟩, hq⟩⟩
      · exact h2.elim, ke.mono e1⟩, ke⟩
theorem sl_list {p : Pos} {a : Expr} {ma : Sm} (hg : Gl X "list") (hm : X.mg "list" = none) (ha : PE X a (tA b ma)) (na : NStar a) : PE X (.Call (.Name "list" p) [a] [] pos) (tL b (eList ma)) :=
  (pe_callTy call_list_of hg hm boot_list (pa_cons ha pa_nil (na _ _)) (he := na _ _)).imp fun σ H Q ⟨G, P, E, F, h, env, k, ke⟩ =>
    ⟨G, _, E, F, h, env, fun v1 x G1 F1 H1 h1 e1 env1 r1 => by
      cases r1 with
      | @lst l xs ds hl rs => exact ⟨_, _, rfl, .inl (SqL.of (env1.base.fh _ _ hl)), fun q hq => k _ _ G1 F1 H1 q h1 e1 env1 (fun ds ed => by cases ed; exact rs) ⟨⟨_, rfl⟩, hq⟩⟩
      | @tup l xs ds hl rs => exact ⟨_, _, rfl, .inr (SqT.of (env1.base.fh _ _ hl)), fun q hq => k _ _ G1 F1 H1 q h1 e1 env1 (fun ds ed => by cases ed; exact rs) ⟨⟨_, rfl⟩, hq⟩⟩
      | _ => exact False.elim h1, ke⟩
def rSlL (b : Bs) : V → Option Int → Option Int → Hp → VK → Prop := fun v lo hi H Q => ∃ ds F σ G, EnvOk b F H G σ ∧ Rep F v (.list ds) ∧ ∀ vs p, Reps F vs (cutD ds lo hi) → H p = none → Q (.ref p) (upd H p (.lst vs))
theorem sl_L : SlR X (rSlL b) := by
  intro pins s σ0 H v u vl vu lo hi sl Q I rx hs pl pu h
  obtain ⟨ds, F, σ, G, env, q1, k⟩ := h
  obtain ⟨a, xs, rfl, ha, ra⟩ := ref_lst q1
  exact L2.sl_list pins s σ0 H _ u vl vu lo hi sl Q I rx hs pl pu ⟨a, xs, rfl, SqL.of (env.base.fh _ _ ha), fun p hp => k _ p (ra.cut lo hi) hp⟩
/-- e[lo:hi] of a list -/
def eSlL (a : Sm) (lo hi : Om) : Sm := fun G P E => a G (fun x G1 => match x with
  | .list ds => lo G1 (fun l G2 => hi G2 (fun h G3 => P (.list (cutD ds l h)) G3) E) E
  | _ => False) E
theorem sl_sl {a : Expr} {ma : Sm} {lo hi : Option Expr} {ml mh : Om} {p2 : Pos} (ha : PE X a (tA b ma)) (hl : PO X lo (tO b ml)) (hh : PO X hi (tO b mh)) : PE X (.Subscript a (.Slice lo hi none p2) pos) (tL b (eSlL ma ml mh)) :=
  (pe_slice (sl_L (b := b)) ha hl hh).imp fun σ H Q ⟨G, P, E, F, h, env, k, ke⟩ =>
    ⟨G, _, E, F, h, env, fun v1 x G1 F1 H1 h1 e1 env1 r1 => by
      cases x with
      | list ds => exact ⟨G1, _, E, F1, h1, env1, fun l G2 F2 H2 h2 e2 env2 => ⟨G2, _, E, F2, h2, env2, fun u G3 F3 H3 h3 e3 env3 =>
          ⟨ds, F3, σ, G3, env3, r1.mono (e2.trans e3), fun vs p rs hp => k vs _ G3 F3 H3 p h3 ((e1.trans e2).trans e3) env3 (fun ds ed => by cases ed; exact rs) ⟨⟨_, rfl⟩, hp⟩⟩, ke.mono (e1.trans e2)⟩, ke.mono e1⟩
      | _ => exact False.elim h1, ke⟩
theorem se_slL {a : Expr} {ma : Sm} {lo hi : Option Expr} {ml mh : Om} {p2 : Pos} (ha : PE X a (tA b ma)) (hl : PO X lo (tO b ml)) (hh : PO X hi (tO b mh)) : PE X (.Subscript a (.Slice lo hi none p2) pos) (tA b (eSlL ma ml mh)) :=
  (pe_slice (sl_D (b := b)) ha hl hh).imp fun σ H Q ⟨G, P, E, F, h, env, k, ke⟩ =>
    ⟨G, _, E, F, h, env, fun v1 x G1 F1 H1 h1 e1 env1 r1 => by
      cases x with
      | list ds => exact ⟨G1, _, E, F1, h1, env1, fun l G2 F2 H2 h2 e2 env2 => ⟨G2, _, E, F2, h2, env2, fun u G3 F3 H3 h3 e3 env3 =>
          ⟨.list ds, fun d => P d G3, h3, σ, G3, F3, env3, r1.mono (e2.trans e3), fun v d F' H' p e4 env4 r4 => k v d G3 F' H' p ((e1.trans (e2.trans e3)).trans e4) env4 r4⟩, ke.mono (e1.trans e2)⟩, ke.mono e1⟩
      | _ => exact False.elim h1, ke⟩

/-! dicts -/
def dho (b : Bs) (tp : Bool) (p : Addr) : HO := if tp = true then .ext (dphi b.P b.w p []) else .dK []
def tDN (b : Bs) : TE := fun _ H Q => ∃ tp : Bool, ∀ p, H p = none → (p == sysModules) = false → Q (.ref p) (upd H p (dho b tp p))
theorem pe_dn (hP : b.P = X.prog) (hw : b.w = X.w) : PE X (.Dict [] [] pos) (tDN b) := ⟨fun pins s σ H Q I ⟨tp, h⟩ => by
  have hsys : (s.heap.objs.size == sysModules) = false := beq_eq_false_iff_ne.mpr (Ne.symm (Nat.ne_of_lt I.big))
  have hn := I.hok.fresh (Nat.le_refl s.heap.objs.size)
  refine wpAny_Dict_empty ?_
  cases tp with
  | false => exact ⟨.ref s.heap.objs.size, _, I.laid (a := s.heap.objs.size) (o := .dK []) (t' := s.toks) (fun _ _ q => Heap.get?_push_of_some _ q) (Nat.le_refl _) (dk_empty s.heap I.big), rfl, h _ hn hsys⟩
  | true =>
    have ob : ObjOk X.prog X.w (upd H s.heap.objs.size (.ext (dphi b.P b.w s.heap.objs.size []))) (s.heap.push { cls := .type "dict", data := .dict #[] }) s.heap.objs.size (.ext (dphi b.P b.w s.heap.objs.size [])) :=
      ⟨⟨_, #[], 0, Heap.get?_push_size _ rfl, ⟨rfl, rfl, rfl⟩, rfl, rfl⟩, ⟨_, Heap.get?_push_size _ rfl⟩, fun h1 h2 z k => dphi_stay h1 h2 z k⟩
    exact ⟨.ref s.heap.objs.size, _, I.laid (a := s.heap.objs.size) (o := .ext (dphi b.P b.w s.heap.objs.size [])) (t' := s.toks) (fun _ _ q => Heap.get?_push_of_some _ q) (Nat.le_refl _) ob, rfl, h _ hn hsys⟩⟩
theorem ss_newD {j : Nat} (hP : b.P = X.prog) (hw : b.w = X.w) (h0 : ∀ {te : TE}, PE X (.Dict [] [] pos) te → PS X st (tAsg te (gName j))) : PS X st (tSA b (sNewD j)) := (h0 (pe_dn hP hw)).imp fun D σ H ⟨G, P, F, ⟨tp, h⟩, env, k⟩ => by
  refine ⟨tp, fun p hp hsys => ?_⟩
  refine k.nx _ F _ _ (h p) (Ex.refl F) (env.setOw hp ?_)
  cases tp with
  | false => exact ⟨[], upd_same, .nil⟩
  | true => exact ⟨[], upd_same, hsys, List.nodup_nil, .nil⟩
/-- a new object that no slot knew is owned -/
theorem EnvOk.ownD {F H : Hp} {G : Gm} {σ : L2.St} {D : Addr} {o u : HO} {w : Own} {j : Nat} (h0 : b.F0 D = none) (hb : b.H0 D = none) (h : EnvOk (b.atO D o) F H G σ) (k : OwnOk b F (upd H D u) D w) : EnvOk b F (upd H D u) (G.set j (.ow D w)) (σ.set j (some (.ref D))) := by
  have h1 : EnvOk b F (upd H D u) G σ := (h.setD (o' := u) h0 hb).unD hb
  have hF := at_F h0 h
  refine ⟨h1.base, by rw [List.length_set, List.length_set, h1.len], fun i s hi => ?_, fun i k l1 o1 l2 o2 e1 e2 ne => ?_⟩
  · rcases getSet hi with ⟨rfl, rfl⟩ | ⟨ne, hi⟩
    · have hlt : i < σ.length := by
        have := (List.getElem?_eq_some_iff.mp hi).1
        rw [List.length_set] at this
        rw [h1.len]; exact this
      exact ⟨List.getElem?_set_self hlt, hF, hb, k⟩
    · rw [List.getElem?_set_ne (Ne.symm ne)]
      exact h1.slot i s hi
  · rcases getSet e1 with ⟨ei, q⟩ | ⟨ni, e1⟩
    · cases q
      rcases getSet e2 with ⟨ek, q⟩ | ⟨nk, e2⟩
      · exact absurd (ei.trans ek.symm) ne
      · exact Ne.symm (at_ow h e2)
    · rcases getSet e2 with ⟨ek, q⟩ | ⟨nk, e2⟩
      · cases q; exact at_ow h e1
      · exact h1.ap i k l1 o1 l2 o2 e1 e2 ne
theorem ss_newD1 {j : Nat} {p1 : Pos} {mc : Sm} (h0 : ∀ {te : TE}, PE X (.Dict [some e] [c] p1) te → PS X st (tAsg te (gName j))) (ha : QB b fun b => PE X e (tA b me)) (hc : QB b fun b => PE X c (tA b mc)) : PS X st (tSA b (sNewD1 j me mc)) :=
  (h0 (pe_disp (pps_cons (pe_x ha) (pe_x hc) pps_nil) rfl rfl (by simp) (by simp))).imp fun D σ H ⟨G, P, F, h, env, k⟩ => by
    intro p hp
    have hb : b.H0 p = none := fresh_back env.base.h0 hp
    have hf0 : b.F0 p = none := fresh_back env.base.f0 (fresh_back env.base.fh hp)
    have en0 := env.newD (o := .dK []) hp
    refine ⟨b.atO p (.dK []), rfl, rfl, rfl, fun _ _ _ _ z => z, G, _, _, F, h, en0, fun v1 x G1 F1 H1 h1 e1 en1 r1 => ?_, ke_no⟩
    refine ⟨b.atO p (.dK []), rfl, rfl, rfl, fun _ _ _ _ z => z, G1, _, _, F1, h1, en1, fun v2 y G2 F2 H2 h2 e2 en2 r2 => ?_, ke_no⟩
    dsimp only at h2
    split at h2
    · rename_i kk hk
      have r1' := r1.mono e2
      have go : ∀ key : Key, v1 = kV key → kk = keyNk key → H2 p = some (.dK []) ∧ ∃ kvs : List (Key × V), [(v1, v2)] = kvs.map (fun kv => (kV kv.1, kv.2)) ∧ kvs.length ≤ 15 ∧ gName j (.ref p) σ (upd H2 p (.dK (mergeK [] kvs))) D.nx := fun key ev ek => by
        refine ⟨at_D en2, [(key, v2)], by rw [ev]; rfl, by simp, ?_⟩
        refine k.nx _ F2 _ _ (h2 p) (e1.trans e2) (en2.ownD hf0 hb ?_)
        refine ⟨[(key, v2)], ?_, .cons ⟨ek, r2⟩ .nil⟩
        rw [upd_same]
        rfl
      cases x with
      | int i => cases r1'; cases hk; exact go (.inl i) rfl rfl
      | str i => cases r1'; cases hk; exact go (.inr i) rfl rfl
      | _ => cases hk
    · exact h2.elim

/-! s[k] = v; s.append(v); n += v -/
theorem ss_put {i : Nat} {x : Str} {p1 p2 : Pos} {mk : Sm} {ke : Expr} (hP : b.P = X.prog) (hw : b.w = X.w) (hu : X.A.units + 100 < cLine) (ho : PE X (.Name x p1) (tVar i)) (hk : PE X ke (tA b mk)) (he : PE X e (tA b me))
    (ha : ∀ v, assign (.Subscript (.Name x p1) ke p2) X.env v = (do
      let ov ← holding [v] (eval (.Name x p1) X.env)
      let iv ← holding [v, ov] (eval ke X.env)
      standAt p2
      holding [v, ov, iv] (setItem ov iv v)
      release [v, ov, iv] []))
    (hs : swapsWithSole [.Subscript (.Name x p1) ke p2] e pos.line X.env = pure false) (hsw : swappedStores [.Subscript (.Name x p1) ke p2] e X.env = pure none) : PS X (.Assign [.Subscript (.Name x p1) ke p2] e pos) (tSA b (sPut i mk me)) :=
  (ps_asg he (pg_sub ho hk (set_D (b := b) hP hw hu) (ha := ha)) hs hsw rfl).imp fun D σ H ⟨G, P, F, h, env, k⟩ =>
    ⟨G, _, _, F, h, env, fun v1 y G1 F1 H1 ⟨⟨sl, hsl, nun⟩, h1⟩ e1 env1 r1 => by
      obtain ⟨ov, hov⟩ := slot_val env1 hsl nun
      refine ⟨ov, hov, G1, _, _, F1, h1, env1, fun v2 x G2 F2 H2 h2 e2 env2 r2 => ?_, (k.mono e1).ke σ⟩
      dsimp only at h2
      split at h2
      · rename_i l tp kvs hi
        obtain ⟨e, _⟩ := env2.slot i _ hi
        rw [hov] at e; cases e
        split at h2
        · rename_i q hq
          exact ⟨x, y, σ, G2, F2, i, l, _, env2, hi, rfl, r2, r1.mono e2, q, hq, h2.1, fun H' en => k.nx _ F2 H' σ h2.2 (e1.trans e2) en⟩
        · exact h2.elim
      · rename_i l ds hi
        obtain ⟨e, _⟩ := env2.slot i _ hi
        rw [hov] at e; cases e
        split at h2
        · rename_i z
          split at h2
          · rename_i m hm
            exact ⟨_, y, σ, G2, F2, i, l, _, env2, hi, rfl, r2, r1.mono e2, z, m, rfl, hm, fun H' en => k.nx _ F2 H' σ h2 (e1.trans e2) en⟩
          · exact h2.elim
        · exact h2.elim
      · exact h2.elim, k.ke σ⟩
theorem ss_app {i : Nat} {x : Str} {p1 p2 p3 : Pos} (ho : PE X (.Name x p1) (tVar i)) (he : PE X e (tA b me)) (hbase : attributeBase (.Name x p1) "append" X.env (eval (.Name x p1) X.env) = eval (.Name x p1) X.env) (ne : NStar e) (hl : (p2.endLine == p3.line) = true) :
    PS X (.Expr (.Call (.Attribute (.Name x p1) "append" p2) [e] [] p3) pos) (tSA b (sApp i me)) :=
  (ps_expr (pe_bm PySem.F.plainAttrs_list PySem.F.slot_list_append PySem.F.type_list_append mt_append ho (pa_cons he pa_nil (ne _ _)) (hbase := hbase) (hfew := by rw [ne]; rfl) (hline := hl) (hs := ne _ _) (hplain := rfl)) (hs := rfl)).imp fun D σ H ⟨G, P, F, ⟨⟨l0, ds0, hsl⟩, h⟩, env, k⟩ => by
    obtain ⟨hov, _, _, vs0, hl0, _⟩ := env.slot i _ hsl
    have hty : tyV X.K "list" (.ref l0) H := .inl ⟨rfl, vs0, SqL.of hl0⟩
    generalize hev : V.ref l0 = ov at hov hty
    refine ⟨ov, hov, hty, G, _, _, F, h, env, fun v1 y G1 F1 H1 h1 e1 env1 r1 => ?_, k.ke σ⟩
    dsimp only at h1
    split at h1
    · rename_i l ds hi
      obtain ⟨e, f, n, vs, hvs, rs⟩ := env1.slot i _ hi
      rw [hov] at e; cases e
      refine ⟨l, vs, v1, rfl, rfl, hvs, by rw [rs.length]; exact big_lt h1.1, ?_⟩
      exact k.nx _ F1 _ σ h1.2 e1 (env1.mutOw hi ⟨_, upd_same, rs.snoc r1⟩)
    · exact h1.elim
theorem ss_aug {i : Nat} {x : Str} {p1 : Pos} (hN : X.N.Nodup) (hi : X.N[i]? = some x) (hx : Loc X.env.scope x) (hf : X.fn x = true ∨ X.env.scope.names.lookup x = some .local) (he : PE X e (tA b me)) : PS X (.AugAssign (.Name x p1) .Add e pos) (tSA b (sAug i me)) :=
  (ps_aug hN hi hx he ip_add hf).imp fun D σ H ⟨G, P, F, ⟨n, hn, h⟩, env, k⟩ => by
    obtain ⟨v, hv, rv⟩ := env.slot i _ hn
    cases rv
    refine ⟨_, hv, G, _, _, F, h, env, fun v1 y G1 F1 H1 h1 e1 env1 r1 => ?_, k.ke σ⟩
    cases r1 with
    | int z => exact ⟨n, z, rfl, rfl, k.nx _ F1 H1 _ h1 e1 (env1.setIm (.int _))⟩
    | _ => exact False.elim h1
theorem ss_unp {js : List Nat} {tg : Expr} (he : PE X e (tA b me)) (hg : PG X tg (tgG X.K (.many js))) (hs : swapsWithSole [tg] e pos.line X.env = pure false) (hw : swappedStores [tg] e X.env = pure none) (h1 : (assignEach [tg] X.env).map (·.2) = [assign tg X.env]) : PS X (.Assign [tg] e pos) (tSA b (sUnp js me)) :=
  (ps_asg he hg hs hw h1).imp fun D σ H ⟨G, P, F, h, env, k⟩ =>
    ⟨G, _, _, F, h, env, fun v1 d G1 F1 H1 h1 e1 env1 r1 => by
      dsimp only at h1
      split at h1
      · rename_i G2 hs2
        exact setTg_ok (own := js) hs2 (fun _ m => m) r1 env1 fun σ' _ _ en => k.nx _ F1 H1 σ' h1 e1 en
      · exact h1.elim, k.ke σ⟩

/-! ### loops -/
theorem for_read {j : Nat} {it : Im} {tb : TS} (hb : ∀ {D : Ends} {σ : L2.St} {H : Hp}, tSA b ms D σ H → tb D σ H) {D : Ends} {σ : L2.St} {H : Hp} (q : tSA b (sFor j it ms) D σ H) : tFor (tI b it) (gName j) tb D σ H := by
  obtain ⟨G, P, F, h, env, k⟩ := q
  refine ⟨G, _, _, F, h, env, fun ds stay G1 F1 H1 J h1 e1 env1 ok => ?_, k.ke σ⟩
  obtain ⟨I, i0, hst, step, fin⟩ := h1
  refine ⟨fun i m σ' H' => m = ds.length - i ∧ i ≤ ds.length ∧ ∃ G' F', I i G' ∧ Ex F1 F' ∧ EnvOk b F' H' G' σ', ⟨ds.length, by simp, Nat.zero_le _, G1, F1, i0, Ex.refl _, env1⟩, ?_⟩
  rintro i m σ' H' ⟨rfl, hi, G', F', hI, e2, en⟩
  obtain ⟨okg, oks, oky⟩ := ok b F' H' G' σ' i e2 en (hst i G' hi hI)
  by_cases hlt : i < ds.length
  · refine .inr ⟨okg hlt, fun σ'' H'' => i < ds.length ∧ ∃ G' F', I (i + 1) G' ∧ Ex F1 F' ∧ EnvOk b F' H'' G' σ'', fun σ'' H'' ⟨_, q⟩ => ⟨ds.length - (i + 1), by omega, rfl, hlt, q⟩, fun x H3 hy => ?_⟩
    obtain ⟨rfl, d, hd, rd⟩ := oky x H3 hy hlt
    refine hb ⟨_, _, F', step i d G' hd hI, en.setIm rd, ?_⟩
    exact ⟨fun G2 F2 H2 σ2 p x en2 => ⟨hlt, G2, F2, p, e2.trans x, en2⟩, fun G2 F2 H2 σ2 p x en2 => k.nx G2 F2 H2 σ2 p (e1.trans (e2.trans x)) en2, fun G2 F2 H2 σ2 p x en2 => ⟨hlt, G2, F2, p, e2.trans x, en2⟩,
      fun d G2 v F2 H2 σ2 p x en2 r => k.rt d G2 v F2 H2 σ2 p (e1.trans (e2.trans x)) en2 r, fun G2 F2 H2 σ2 dd p x en2 => k.ex G2 F2 H2 σ2 dd p (e1.trans (e2.trans x)) en2⟩
  · have ei : i = ds.length := by omega
    subst ei
    exact .inl ⟨oks (Nat.le_refl _), k.nx G' F' H' σ' (fin G' hI) (e1.trans e2) en⟩
theorem ss_for {j : Nat} {it : Im} {tg iter : Expr} (hp : PassesOwn (model X.prog X.w) X.A X.env X.xe) (md : Mode X) (hi : PIM b X iter it) (hg : PG X tg (gName j)) (hb : PSs X body (tSA b ms)) (hs : ∀ x, foldedSetIterable iter X.env x = pure x) : PS X (.For tg iter body [] pos) (tSA b (sFor j it ms)) := by
  rcases md with c | c
  · exact (ps_for hp c (hi.calm c tg) hg hb hs).imp fun D σ H q => for_read (fun z => z) q
  · exact (L2H.ps_forH hp c (hi.hot c tg) hg hb hs).imp fun D σ H q => for_read (fun z => z) q
theorem ss_while (hp : PassesOwn (model X.prog X.w) X.A X.env X.xe) (hc : PT X c (tT b mt)) (hb : PSs X body (tSA b ms)) : PS X (.While c body [] pos) (tSA b (sWhile mt ms)) := (ps_while hp hc hb).imp fun D σ H ⟨G, P, F, h, env, k⟩ => by
  obtain ⟨I, ⟨m0, i0⟩, step⟩ := h
  refine ⟨fun m σ' H' => ∃ G' F', I m G' ∧ Ex F F' ∧ EnvOk b F' H' G' σ', ⟨m0, G, F, i0, Ex.refl _, env⟩, ?_⟩
  rintro m σ' H' ⟨G', F', hI, e1, en⟩
  refine ⟨G', _, _, F', step m G' hI, en, fun c G1 F1 H1 h1 e2 en1 => ?_, (k.mono e1).ke σ'⟩
  cases c with
  | false =>
    rw [if_neg Bool.false_ne_true] at h1
    exact iteF (k.nx G1 F1 H1 σ' h1 (e1.trans e2) en1)
  | true =>
    rw [if_pos rfl] at h1
    refine iteT ⟨fun σ'' H'' => ∃ G' F', (∃ m', m' < m ∧ I m' G') ∧ Ex F F' ∧ EnvOk b F' H'' G' σ'', fun σ'' H'' ⟨G2, F2, ⟨m', hm, q⟩, e, en⟩ => ⟨m', hm, G2, F2, q, e, en⟩, G1, _, F1, h1, en1, ?_⟩
    have e3 := e1.trans e2
    exact ⟨fun G2 F2 H2 σ2 p x en2 => ⟨G2, F2, p, e3.trans x, en2⟩, fun G2 F2 H2 σ2 p x en2 => k.nx G2 F2 H2 σ2 p (e3.trans x) en2, fun G2 F2 H2 σ2 p x en2 => ⟨G2, F2, p, e3.trans x, en2⟩,
      fun d G2 v F2 H2 σ2 p x en2 r => k.rt d G2 v F2 H2 σ2 p (e3.trans x) en2 r, fun G2 F2 H2 σ2 dd p x en2 => k.ex G2 F2 H2 σ2 dd p (e3.trans x) en2⟩

/-! ### raise, try -/
/-- C(..) makes an exception, its dict new -/
def RaiseOk (X : Cx) (C : Addr) (x : Str) : Prop := ∀ (m : Str) (j : Nat) (p p2 p3 : Pos), L2N.PMk X (.Call (.Name x p) [.Constant (.str m) j p2] [] p3) fun _ H Q => ∀ d o, H d = none → Q (.ref C) (some d) (upd H d o)
theorem ss_raise {x m : Str} {j : Nat} {p p2 p3 : Pos} (hc : X.calm = true) (tk : L2N.Takes X b.W) (hr : RaiseOk X b.C x) : PS X (.Raise (some (.Call (.Name x p) [.Constant (.str m) j p2] [] p3)) none pos) (tSA b sRaise) :=
  (L2N.ps_raise hc tk (hr m j p p2 p3)).imp fun D σ H ⟨G, P, F, h, env, k⟩ d o hd => by
    have st := Step.tmp env.base.fh (o := o) hd
    exact k.ex G F _ σ d h st.ff (env.step st)
abbrev Bs.wW (b : Bs) (W : WX) : Bs := { b with W := W }
theorem EnvOk.wW {F H : Hp} {G : Gm} {σ : L2.St} (W : WX) (h : EnvOk b F H G σ) : EnvOk (b.wW W) F H G σ := h.rebase rfl rfl ⟨h.base.f0, h.base.fh, h.base.h0, h.base.new⟩ fun _ _ _ _ _ z => z
theorem EnvOk.oW {F H : Hp} {G : Gm} {σ : L2.St} {W : WX} (h : EnvOk (b.wW W) F H G σ) : EnvOk b F H G σ := h.rebase rfl rfl ⟨h.base.f0, h.base.fh, h.base.h0, h.base.new⟩ fun _ _ _ _ _ z => z
theorem ss_try {x : Str} {np pos' : Pos} {b₀ : Stmt} {suite : List Stmt} (hs : X.stack = X.env :: X.outer) (hf : X.env.frame = some X.env.locals) (hc : Names X x (.ref b.C)) (hpa : ∀ hd : Option Value, PassesOwnAt (model X.prog X.w) (X.A.mark hd) X.A X.env X.xe)
    (hm : PySem.W.exmOne X.K (.ref b.C) (.ref b.C) = some true)
    (hb : ∀ (W : WX) (pn : List (Addr × Obj)) (xe : Value → Shared → Prop), L2N.Takes (X.tr pn xe) W → PassesOwn (model X.prog X.w) X.A X.env xe → PSs (X.tr pn xe) body (tSA (b.wW W) ms))
    (hsu : ∀ (a : Addr) (pn : List (Addr × Obj)), HotC (L2H.suiteX X a pn) → PSs (L2H.suiteX X a pn) (b₀ :: suite) (tSA (b.wW fun _ _ _ _ => False) mr)) :
    PS X (.Try body [.ExceptHandler (some (.Name x np)) none (b₀ :: suite) pos'] [] [] pos) (tSA b (sTry ms mr)) := by
  have tk0 : L2.Takes X (fun _ _ _ _ => False) := fun u s' ⟨_, _, _, _, _, _, _, _, _, _, _, _, _, _, _, _, w⟩ => w.elim
  refine (L2H.ps_try_onlyX (tb := fun W => tSA (b.wW W) ms) (ts := fun _ _ _ => tSA (b.wW fun _ _ _ _ => False) mr) (Wout := fun _ _ _ _ => False) hs hf hc hpa tk0 (fun W pn xe t1 _ t3 => hb W pn xe t1 t3) (fun a oe cls d pn _ _ _ hot => hsu a _ hot)).imp fun D σ H ⟨G, P, F, h, env, k⟩ => ?_
  refine ⟨G, _, F, h, env.wW _, fun G' F' H' σ' p x en => k.nx G' F' H' σ' p x en.oW, fun G' F' H' σ' p x en => k.bk G' F' H' σ' p x en.oW, fun G' F' H' σ' p x en => k.ct G' F' H' σ' p x en.oW,
    fun d G' v F' H' σ' p x en r => k.rt d G' v F' H' σ' p x en.oW r, fun G' F' H' σ' dd p x en => ⟨true, hm, fun _ a ha => ?_, fun z => Bool.noConfusion z⟩⟩
  refine ⟨G', _, F', p, en.oW.wW _, fun G2 F2 H2 σ2 p2 x2 en2 => k.nx G2 F2 H2 σ2 p2 (x.trans x2) en2.oW, fun G2 F2 H2 σ2 p2 x2 en2 => k.bk G2 F2 H2 σ2 p2 (x.trans x2) en2.oW, fun G2 F2 H2 σ2 p2 x2 en2 => k.ct G2 F2 H2 σ2 p2 (x.trans x2) en2.oW,
    fun d G2 v F2 H2 σ2 p2 x2 en2 r => k.rt d G2 v F2 H2 σ2 p2 (x.trans x2) en2.oW r, fun G2 F2 H2 σ2 dd2 p2 x2 en2 => p2⟩
end
end Wd

/-! A13: from syntax to combinators, expressions. -/
namespace Wd
open PySem PySem.Spec PyProof.Rows L2 HotX
open L2H (HotC TurnH PIH PIEH RoomH FnH)
open Evl (Ex Ex.refl Ex.trans Ex.new Ex.mut fresh_back)

/-- a def that may be called: its name, the depth that it needs, its promise -/
structure FE where
  nm : Str
  k : Nat
  sp : FSp
structure Cfg where
  N : List Str
  sc : Scope
  fn : Str → Bool
  hot : Bool
  l2 : Bool
  num : Bool
  bl : List Str
  fns : List FE
def visB (c : Cfg) (x : Str) : Bool := match c.sc.names.lookup x with
  | some .local => true
  | some .cell => true
  | some .free => true
  | _ => false
def locB (c : Cfg) (x : Str) : Bool := match c.sc.names.lookup x with
  | some .local => true
  | some .cell => true
  | _ => false
def lclB (c : Cfg) (x : Str) : Bool := match c.sc.names.lookup x with
  | some .local => true
  | _ => false
def glB (c : Cfg) (x : Str) : Bool := match c.sc.names.lookup x with
  | some .globalImplicit => true
  | _ => false
def storeB (c : Cfg) (x : Str) : Bool := locB c x && (c.fn x || lclB c x)
def nameB (x : Str) : Bool := !(x == ("__debug__" : Str)) && !(x == ("__classdict__" : Str))
def ixOf : List Str → Str → Option Nat
  | [], _ => none
  | y :: r, x => if y = x then some 0 else (ixOf r x).map (· + 1)
theorem ixOf_ok : ∀ {N : List Str} {x : Str} {i : Nat}, ixOf N x = some i → N[i]? = some x
  | [], _, _, h => by cases h
  | y :: r, x, i, h => by
    unfold ixOf at h
    by_cases e : y = x
    · rw [if_pos e] at h; cases h; subst e; rfl
    · rw [if_neg e] at h
      obtain ⟨j, hj, rfl⟩ := Option.map_eq_some_iff.mp h
      rw [List.getElem?_cons_succ]
      exact ixOf_ok hj
/-- a name that is read: its slot -/
def varOf (c : Cfg) (x : Str) : Option Nat := if (visB c x && nameB x) = true then ixOf c.N x else none
/-- a name that is stored -/
def tgOf (c : Cfg) (x : Str) : Option Nat := if storeB c x = true then ixOf c.N x else none
def blB (c : Cfg) (x : Str) : Bool := glB c x && c.bl.contains x
def nstarB : Expr → Bool
  | .Starred _ _ => false
  | _ => true
def setB : Expr → Bool
  | .Set _ _ _ => true
  | _ => false
def ixB : Expr → Bool
  | .Slice _ _ _ _ => false
  | _ => true
/-- a value that is tested as it is -/
def valB : Expr → Bool
  | .Name _ _ => true
  | .Call _ _ _ _ => true
  | .Subscript _ _ _ => true
  | .Constant _ _ _ => true
  | _ => false
theorem nstar_ok {e : Expr} (h : nstarB e = true) : NStar e := by
  intro es env
  cases e <;> first | rfl | cases h
theorem setB_ok {e : Expr} (h : setB e = false) (env : Env) (x : Value) : foldedSetIterable e env x = pure x := by
  cases e <;> first | rfl | cases h
theorem ix_ok {e : Expr} (h : ixB e = true) : PlainIx e := by
  intro o i
  cases e <;> first | rfl | cases h
theorem val_ok {e : Expr} {env : Env} (h : valB e = true) : ∀ whole, isTrue e env whole = (do let v ← whole; standAt e.pos; holding [v] (truthy v)) := by
  intro w
  cases e <;> first | rfl | cases h
inductive Bn where
  | len | tuple | list | sum | max | min | int | abs | str | sorted | isinst
  deriving DecidableEq
def bnOf (f : Str) : Option Bn :=
  if f = ("len" : Str) then some .len else if f = ("tuple" : Str) then some .tuple else if f = ("list" : Str) then some .list else if f = ("sum" : Str) then some .sum
  else if f = ("max" : Str) then some .max else if f = ("min" : Str) then some .min else if f = ("int" : Str) then some .int else if f = ("abs" : Str) then some .abs
  else if f = ("str" : Str) then some .str else if f = ("sorted" : Str) then some .sorted else if f = ("isinstance" : Str) then some .isinst else none
def Bn.nm : Bn → Str
  | .len => "len" | .tuple => "tuple" | .list => "list" | .sum => "sum" | .max => "max" | .min => "min" | .int => "int" | .abs => "abs" | .str => "str" | .sorted => "sorted" | .isinst => "isinstance"
theorem bnOf_ok {f : Str} {n : Bn} (h : bnOf f = some n) : f = n.nm := by
  unfold bnOf at h
  repeat (first
    | (cases h; done)
    | (split at h
       · rename_i e; cases h; exact e))
def tyOf (T : Str) : Option Ty3 := if T = ("bool" : Str) then some .b else if T = ("int" : Str) then some .i else if T = ("str" : Str) then some .s else none
theorem tyOf_ok {T : Str} {n : Ty3} (h : tyOf T = some n) : bootBuiltins T = some (.type n.nm) ∧ T ≠ "__name__" ∧ (T == ("__debug__" : Str)) = false := by
  unfold tyOf at h
  split at h
  · rename_i e; cases h; subst e; exact ⟨boot_bool, by decide, by decide⟩
  · split at h
    · rename_i e; cases h; subst e; exact ⟨boot_int, by decide, by decide⟩
    · split at h
      · rename_i e; cases h; subst e; exact ⟨boot_str, by decide, by decide⟩
      · cases h

/-! ### the translation, one level -/
structure Tr where
  e : Expr → Sm
  t : Expr → Tm
  i : Expr → Im
def trAs (e : Expr → Sm) : List Expr → Am
  | [] => aNil
  | a :: r => if nstarB a = true then aCons (e a) (trAs e r) else aNever
def trO (e : Expr → Sm) : Option Expr → Om
  | none => oNone
  | some a => oSome (e a)
def trAndE (e : Expr → Sm) : List Expr → Sm
  | [] => eNever
  | [a] => e a
  | a :: b :: r => eAnd (e a) (trAndE e (b :: r))
def trOrE (e : Expr → Sm) : List Expr → Sm
  | [] => eNever
  | [a] => e a
  | a :: b :: r => eOr (e a) (trOrE e (b :: r))
def trAndT (t : Expr → Tm) : List Expr → Tm
  | [] => tNever'
  | [a] => t a
  | a :: b :: r => tAndM (t a) (trAndT t (b :: r))
def trOrT (t : Expr → Tm) : List Expr → Tm
  | [] => tNever'
  | [a] => t a
  | a :: b :: r => tOrM (t a) (trOrT t (b :: r))
def Cfg.blk (c : Cfg) (scope : Scope) : Cfg := { c with sc := relS scope c.sc, fn := fun x => scope.names.lookup x == some .cell, num := false }
def ownOf (N : List Str) : List (Str × NameKind) → List (Str × Nat)
  | [] => []
  | (x, k) :: r => match k with
    | .local => (match ixOf N x with | some i => (x, i) :: ownOf N r | none => ownOf N r)
    | .cell => (match ixOf N x with | some i => (x, i) :: ownOf N r | none => ownOf N r)
    | _ => ownOf N r
/-- the names of an unpacking target -/
def manyOf (c : Cfg) : List Expr → Option (List Nat)
  | [] => some []
  | .Name x _ :: r => (match tgOf c x with | some j => (manyOf c r).map (j :: ·) | none => none)
  | _ :: _ => none
def tgOfE (c : Cfg) : Expr → Option Tg
  | .Name x _ => (tgOf c x).map .one
  | .Tuple es _ _ => (manyOf c es).map .many
  | _ => none
def comp1 (c : Cfg) (r : Cfg → Tr) (elt tg it : Expr) (ifs : List Expr) (scope : Scope) : Sm :=
  let own := ownOf c.N scope.names
  let js := own.map (·.2)
  if (blkC c.N c.sc scope own && !setB it) = true then
    match tgOfE (c.blk scope) tg with
    | none => eNever
    | some g => if (g.slots.all fun j => js.contains j) = true then
        match ifs with
        | [] => eLc ((r (c.blk scope)).e elt) g ((r c).i it) tTrue js
        | [t] => eLc ((r (c.blk scope)).e elt) g ((r c).i it) ((r (c.blk scope)).t t) js
        | _ => eNever
      else eNever
  else eNever
def comp2 (c : Cfg) (r : Cfg → Tr) (elt : Expr) (x1 : Str) (it : Expr) (x2 : Str) (it2 : Expr) (scope : Scope) : Sm :=
  let own := ownOf c.N scope.names
  let js := own.map (·.2)
  if (blkC c.N c.sc scope own && !setB it && !setB it2 && !c.hot && c.l2) = true then
    match tgOf (c.blk scope) x1, tgOf (c.blk scope) x2 with
    | some j, some j2 => if (js.contains j && js.contains j2) = true then eLc2 ((r (c.blk scope)).e elt) j ((r c).i it) j2 ((r (c.blk scope)).i it2) js else eNever
    | _, _ => eNever
  else eNever
def compE (c : Cfg) (r : Cfg → Tr) (elt : Expr) (gs : List Comprehension) (scope : Scope) : Sm :=
  match gs with
  | [⟨tg, it, ifs, 0⟩] => comp1 c r elt tg it ifs scope
  | [⟨.Name x1 _, it, [], 0⟩, ⟨.Name x2 _, it2, [], 0⟩] => comp2 c r elt x1 it x2 it2 scope
  | _ => eNever
def listE (c : Cfg) (r : Tr) (e : Expr) : Sm := match e with
  | .Name x _ => (match varOf c x with
    | some i => if c.hot = true then eNever else eKeysN i
    | none => eNever)
  | .Call (.Name f _) [a, d] [] _ => if f = ("range" : Str) then (if (blB c "range" && !c.hot && nstarB a && nstarB d) = true then eListR (r.e a) (r.e d) else eNever) else eList (r.e e)
  | _ => if nstarB e = true then eList (r.e e) else eNever
def tupleE (c : Cfg) (r : Tr) (e : Expr) : Sm := match e with
  | .Name x _ => (match varOf c x with
    | some i => eTupleN i
    | none => eNever)
  | .Call (.Name f _) [a] [] _ => if f = ("range" : Str) then (if (blB c "range" && !c.hot && nstarB a) = true then eTupR (r.e a) else eNever) else eTuple (r.e e)
  | _ => if nstarB e = true then eTuple (r.e e) else eNever
def lenE (c : Cfg) (r : Tr) (e : Expr) : Sm := match e with
  | .Name x _ => (match varOf c x with
    | some i => eLenN i
    | none => eNever)
  | _ => if nstarB e = true then eLen (r.e e) else eNever
def one (f : Sm → Sm) (r : Tr) (calm : Bool) : List Expr → Sm
  | [a] => if (nstarB a && calm) = true then f (r.e a) else eNever
  | _ => eNever
def two (f : Sm → Sm → Sm) (r : Tr) (calm : Bool) : List Expr → Sm
  | [a, d] => if (nstarB a && nstarB d && calm) = true then f (r.e a) (r.e d) else eNever
  | _ => eNever
def instE (c : Cfg) (r : Tr) : List Expr → Sm
  | [a, .Name T _] => (match tyOf T with
    | some n => if (nstarB a && blB c T) = true then eInst (r.e a) n else eNever
    | none => eNever)
  | _ => eNever
/-- a call of a built-in -/
def bnE (c : Cfg) (r : Tr) (n : Bn) (as : List Expr) : Sm := match n with
  | .len => (match as with
    | [a] => lenE c r a
    | _ => eNever)
  | .tuple => (match as with
    | [a] => tupleE c r a
    | _ => eNever)
  | .list => (match as with
    | [a] => listE c r a
    | _ => eNever)
  | .sum => one eSum r (!c.hot) as
  | .max => two eMax2 r (!c.hot) as
  | .min => two eMin2 r (!c.hot) as
  | .int => one eInt r true as
  | .abs => one eAbs r true as
  | .str => one eStrI r true as
  | .sorted => one eSorted r true as
  | .isinst => instE c r as
def numE (c : Cfg) (r : Tr) : List Expr → Sm
  | [a, .Name x _, .Name y _] => (match varOf c x, varOf c y with
    | some i, some j => if (nstarB a && !(i == j)) = true then eNum (r.e a) i j else eNever
    | _, _ => eNever)
  | _ => eNever
def findF (fns : List FE) (f : Str) : Option FE := fns.find? fun e => decide (e.nm = f)
/-- a call of a def -/
def usrE (c : Cfg) (r : Tr) (f : Str) (as : List Expr) : Sm :=
  if (c.num && decide (f = ("number_of" : Str))) = true then numE c r as else
  match findF c.fns f, as with
  | some e, a :: as => if (nstarB a && (as.all nstarB) && !(f == ("__debug__" : Str))) = true then eCall e.sp (trAs r.e (a :: as)) else eNever
  | _, _ => eNever
def kwE (c : Cfg) (r : Tr) (f : Str) (as : List Expr) : List Keyword → Sm
  | [⟨some d, .Constant (.int z) _ _, _⟩] => (match as with
    | [a] => if (decide (d = ("default" : Str)) && decide (f = ("max" : Str)) && decide (z = 0) && blB c "max" && nstarB a && !c.hot) = true then eMaxD (r.e a) else eNever
    | _ => eNever)
  | _ => eNever
def callE (c : Cfg) (r : Tr) (f : Str) (as : List Expr) (kws : List Keyword) : Sm := match kws with
  | [] => if glB c f = true then (match bnOf f with
      | some n => if c.bl.contains f = true then bnE c r n as else eNever
      | none => usrE c r f as) else eNever
  | _ => kwE c r f as kws
def constE : Const → Sm
  | .int i => eC (.int i)
  | .str s => eC (.str s)
  | .bool d => eC (.bool d)
  | .none => eC .none
  | _ => eNever
def subE (c : Cfg) (r : Tr) (a sl : Expr) : Sm := match sl with
  | .Slice none none (some (.UnaryOp .USub (.Constant (.int i) _ _) _)) _ => if i = 1 then eRev (r.e a) else eNever
  | .Slice lo hi none _ => eSl (r.e a) (trO r.e lo) (trO r.e hi)
  | _ => if ixB sl = true then (match a with
      | .Name x _ => (match varOf c x with
        | some i => eIxN i (r.e sl)
        | none => eNever)
      | _ => eIx (r.e a) (r.e sl)) else eNever
def stepE (c : Cfg) (r : Cfg → Tr) : Expr → Sm
  | .Name x _ => (match varOf c x with
    | some i => eVar i
    | none => eNever)
  | .Constant k _ _ => constE k
  | .BinOp a op d _ => eBin op ((r c).e a) ((r c).e d)
  | .UnaryOp .USub a _ => eNeg ((r c).e a)
  | .UnaryOp .Not a _ => eNot ((r c).e a)
  | .BoolOp .And vs _ => trAndE (r c).e vs
  | .BoolOp .Or vs _ => trOrE (r c).e vs
  | .Compare a [op] [d] _ => if behindInMarks op d = false then eT (tCmp op ((r c).e a) ((r c).e d)) else eNever
  | .IfExp t a d _ => eIf ((r c).t t) ((r c).e a) ((r c).e d)
  | .Subscript a sl _ => subE c (r c) a sl
  | .Tuple es _ _ => eTup (trAs (r c).e es)
  | .List es _ => eLst (trAs (r c).e es)
  | .Call (.Name f _) as kws _ => callE c (r c) f as kws
  | .ListComp elt gs scope _ => compE c r elt gs scope
  | _ => eNever
def stepT (c : Cfg) (r : Cfg → Tr) : Expr → Tm
  | .UnaryOp .Not a _ => tNotM ((r c).t a)
  | .BoolOp .And vs _ => trAndT (r c).t vs
  | .BoolOp .Or vs _ => trOrT (r c).t vs
  | .Compare a [.NotIn] [.Name y _] _ => (match varOf c y with
    | some i => tNin ((r c).e a) i
    | none => tNever')
  | .Compare a [op] [d] _ => if behindInMarks op d = false then tCmp op ((r c).e a) ((r c).e d) else tNever'
  | e => if valB e = true then tV ((r c).e e) else tNever'
def rngI (c : Cfg) (r : Cfg → Tr) : List Expr → Im
  | [a] => if nstarB a = true then iR1 ((r c).e a) else iNever
  | [a, d] => if (nstarB a && nstarB d && !c.hot) = true then iR2 ((r c).e a) ((r c).e d) else iNever
  | _ => iNever
def stepI (c : Cfg) (r : Cfg → Tr) (e : Expr) : Im := match e with
  | .Name x _ => (match varOf c x with
    | some i => iName i
    | none => iNever)
  | .Call (.Name f _) as [] _ => if f = ("range" : Str) then (if blB c "range" = true then rngI c r as else iNever) else iOver ((r c).e e)
  | _ => iOver ((r c).e e)
def tr : Nat → Cfg → Tr
  | 0, _ => ⟨fun _ => eNever, fun _ => tNever', fun _ => iNever⟩
  | n + 1, c => ⟨stepE c (tr n), stepT c (tr n), stepI c (tr n)⟩

/-! ### it is sound -/
def FeOk (hot : Bool) (X : Cx) (C : Addr) (k : Nat) (e : FE) : Prop := ∃ (f : Addr) (fd : FuncData) (ps : List Str), X.mg e.nm = some (.ref f) ∧ PySem.W.keepIn X.K (.ref f) = true ∧ Binds X.K fd ps [] ∧
  FnM hot X.prog X.w X.K X.mg X.base e.k f fd ps (spOf C e.sp) ∧ e.k ≤ k
/-- number_of, on the slots -/
def NumOk (b : Bs) (X : Cx) : Prop := ∀ (a : Expr) (x y : Str) (p p1 p2 pos : Pos) (m : Sm) (i j : Nat), PE X a (tA b m) → PE X (.Name x p1) (tVar i) → PE X (.Name y p2) (tVar j) → nstarB a = true → i ≠ j → Gl X "number_of" →
  PE X (.Call (.Name "number_of" p) [a, .Name x p1, .Name y p2] [] pos) (tA b (eNum m i j))
structure Cok (b : Bs) (c : Cfg) (X : Cx) : Prop where
  P : b.P = X.prog
  w : b.w = X.w
  n : X.N = c.N
  nd : c.N.Nodup
  sc : X.env.scope = c.sc
  fn : X.fn = c.fn
  room : ∃ k, RoomM c.hot X k ∧ ∀ e ∈ c.fns, FeOk c.hot X b.C k e
  l2 : c.l2 = true → X.pn = []
  bl : ∀ x, c.bl.contains x = true → X.mg x = none
  tk : ∀ σ, PassesAt (CXn X.prog X.w) X σ (WE b.W σ)
  num : c.num = true → QB b (fun b => NumOk b X) ∧ NumOk b X
section
variable {b : Bs} {c : Cfg} {X : Cx}
theorem Cok.mode (k : Cok b c X) : Mode X := let ⟨_, r, _⟩ := k.room; r.mode
theorem Cok.un (k : Cok b c X) : X.A.units + 100 < cLine := let ⟨_, r, _⟩ := k.room; r.un
theorem Cok.calm (k : Cok b c X) (h : c.hot = false) : X.calm = true ∧ ¬ HotC X := by
  obtain ⟨_, r, _⟩ := k.room
  refine ⟨(r.c h).2, fun ⟨p, ⟨hh, _⟩, _⟩ => ?_⟩
  rw [(r.c h).1.hd] at hh
  cases hh
theorem Cok.vis (k : Cok b c X) {x : Str} (h : visB c x = true) : Vis X.env.scope x := by
  unfold visB at h
  unfold Vis
  rw [k.sc]
  split at h
  · exact .inl (by assumption)
  · exact .inr (.inl (by assumption))
  · exact .inr (.inr (by assumption))
  · cases h
theorem Cok.gl (k : Cok b c X) {x : Str} (h : glB c x = true) : Gl X x := by
  unfold glB at h
  show X.env.scope.names.lookup x = _
  rw [k.sc]
  split at h
  · assumption
  · cases h
theorem Cok.var (k : Cok b c X) {x : Str} {i : Nat} {p : Pos} (h : varOf c x = some i) : PE X (.Name x p) (tVar i) := by
  unfold varOf at h
  split at h
  · rename_i q
    unfold nameB at q
    simp only [Bool.and_eq_true, Bool.not_eq_true'] at q
    exact pe_var (by rw [k.n]; exact ixOf_ok h) (k.vis q.1) q.2.1 q.2.2
  · cases h
theorem Cok.lc (k : Cok b c X) {x : Str} (h : locB c x = true) : L2.Loc X.env.scope x := by
  unfold locB at h
  unfold L2.Loc
  rw [k.sc]
  split at h
  · exact .inl (by assumption)
  · exact .inr (by assumption)
  · cases h
theorem Cok.lcl (k : Cok b c X) {x : Str} (h : lclB c x = true) : X.env.scope.names.lookup x = some .local := by
  unfold lclB at h
  rw [k.sc]
  split at h
  · assumption
  · cases h
theorem Cok.tg (k : Cok b c X) {x : Str} {i : Nat} (h : tgOf c x = some i) : X.N[i]? = some x ∧ L2.Loc X.env.scope x ∧ (X.fn x = true ∨ X.env.scope.names.lookup x = some .local) := by
  unfold tgOf at h
  split at h
  · rename_i q
    unfold storeB at q
    simp only [Bool.and_eq_true, Bool.or_eq_true] at q
    refine ⟨by rw [k.n]; exact ixOf_ok h, k.lc q.1, ?_⟩
    rcases q.2 with q | q
    · exact .inl (by rw [k.fn]; exact q)
    · exact .inr (k.lcl q)
  · cases h
theorem Cok.tgName (k : Cok b c X) {x : Str} {i : Nat} {p : Pos} (h : tgOf c x = some i) : PG X (.Name x p) (gName i) := by
  obtain ⟨h1, h2, h3⟩ := k.tg h
  exact pg_name (by rw [k.n]; exact k.nd) h1 h2 h3
theorem Cok.bn (k : Cok b c X) {x : Str} (h : blB c x = true) : Gl X x ∧ X.mg x = none := by
  unfold blB at h
  simp only [Bool.and_eq_true] at h
  exact ⟨k.gl h.1, k.bl x h.2⟩
/-- the block's context -/
theorem Cok.blk (k : Cok b c X) {b' : Bs} (h1 : b'.P = b.P) (h2 : b'.w = b.w) (hC : b'.C = b.C) (h3 : ∀ c d σ H, ¬ b'.W c d σ H) {scope : Scope} (s : Shared) (H : Hp) (C : Addr) (cl : List (Str × Addr)) (fp : List Addr) :
    Cok b' (c.blk scope) (blkP X s H scope (compEnvC scope cl C X.env) fp) where
  P := h1.trans k.P
  w := h2.trans k.w
  n := k.n
  nd := k.nd
  sc := by
    show relS scope X.env.scope = relS scope c.sc
    rw [k.sc]
  fn := rfl
  room := by
    obtain ⟨n, r, f⟩ := k.room
    exact ⟨n, ⟨r.c, r.h⟩, by rw [hC]; exact f⟩
  l2 := k.l2
  bl := k.bl
  tk := fun σ pins H s e s' I ⟨_, _, _, _, _, _, _, _, _, _, _, _, w⟩ => (h3 _ _ _ _ w).elim
  num := fun h => Bool.noConfusion h
end
end Wd

/-! A14: the translation of expressions is sound. -/
namespace Wd
open PySem PySem.Spec PyProof.Rows L2 HotX
open L2H (HotC TurnH PIH PIEH RoomH FnH)
open Evl (Ex Ex.refl Ex.trans Ex.new Ex.mut fresh_back)

structure TrOk (r : Cfg → Tr) : Prop where
  e : ∀ (c : Cfg) (b : Bs) (X : Cx), Cok b c X → ∀ e, PE X e (tA b ((r c).e e))
  t : ∀ (c : Cfg) (b : Bs) (X : Cx), Cok b c X → ∀ e, PT X e (tT b ((r c).t e))
  i : ∀ (c : Cfg) (b : Bs) (X : Cx), Cok b c X → ∀ e, PIM b X e ((r c).i e)
section
variable {b : Bs} {c : Cfg} {X : Cx} {r : Cfg → Tr}
theorem as_ok {f : Expr → Sm} (h : ∀ e, PE X e (tA b (f e))) : ∀ es, PA X es (tAs b (trAs f es))
  | [] => sa_nil
  | a :: es => by
    unfold trAs
    split
    · rename_i q
      exact sa_cons (h a) (as_ok h es) (nstar_ok q _ _)
    · exact sa_never
theorem o_ok {f : Expr → Sm} (h : ∀ e, PE X e (tA b (f e))) : ∀ e, PO X e (tO b (trO f e))
  | none => so_none
  | some a => so_some (h a)
theorem andE_ok {f : Expr → Sm} (h : ∀ e, PE X e (tA b (f e))) : ∀ (es : List Expr) (pos : Pos), PE X (.BoolOp .And es pos) (tA b (trAndE f es))
  | [], _ => se_never
  | [a], _ => pe_one (h a)
  | a :: d :: es, pos => se_and (h a) (andE_ok h (d :: es) pos)
theorem orE_ok {f : Expr → Sm} (h : ∀ e, PE X e (tA b (f e))) : ∀ (es : List Expr) (pos : Pos), PE X (.BoolOp .Or es pos) (tA b (trOrE f es))
  | [], _ => se_never
  | [a], _ => pe_one (h a)
  | a :: d :: es, pos => se_or (h a) (orE_ok h (d :: es) pos)
theorem andT_ok {f : Expr → Tm} (h : ∀ e, PT X e (tT b (f e))) : ∀ (es : List Expr) (pos : Pos), PW X (.BoolOp .And es pos) (tT b (trAndT f es))
  | [], _ => sw_never
  | [a], _ => pw_and1 (h a)
  | a :: d :: es, pos => sw_and (h a) (andT_ok h (d :: es) pos)
theorem orT_ok {f : Expr → Tm} (h : ∀ e, PT X e (tT b (f e))) : ∀ (es : List Expr) (pos : Pos), PW X (.BoolOp .Or es pos) (tT b (trOrT f es))
  | [], _ => sw_never
  | [a], _ => pw_or1 (h a)
  | a :: d :: es, pos => sw_or (h a) (orT_ok h (d :: es) pos)
theorem own_ix : ∀ {N : List Str} {l : List (Str × NameKind)} {p : Str × Nat}, p ∈ ownOf N l → N[p.2]? = some p.1
  | N, [], p, h => nomatch h
  | N, (x, k) :: rr, p, h => by
    unfold ownOf at h
    split at h <;> first
      | exact own_ix h
      | (split at h
         · rename_i q
           rcases List.mem_cons.mp h with e | h
           · rw [e]; exact ixOf_ok q
           · exact own_ix h
         · exact own_ix h)
theorem many_ok {Y : Cx} {c : Cfg} {b : Bs} (k : Cok b c Y) : ∀ {es : List Expr} {js : List Nat}, manyOf c es = some js → Paired (fun e j => PG Y e (gName j)) es js ∧ ∀ (e : Expr) (r : List Expr), e ∈ es → (assignEach (e :: r) Y.env) = (false, assign e Y.env) :: assignEach r Y.env
  | [], js, h => by cases h; exact ⟨.nil, fun _ _ m => nomatch m⟩
  | .Name x p :: es, js, h => by
    simp only [manyOf] at h
    split at h
    · rename_i j q
      obtain ⟨js', hj, rfl⟩ := Option.map_eq_some_iff.mp h
      obtain ⟨h1, h2⟩ := many_ok k hj
      refine ⟨.cons (k.tgName q) h1, fun e r m => ?_⟩
      rcases List.mem_cons.mp m with e' | m
      · rw [e']; rfl
      · exact h2 e r m
    · cases h
  | .BoolOp .. :: _, _, h => by cases h
  | .NamedExpr .. :: _, _, h => by cases h
  | .BinOp .. :: _, _, h => by cases h
  | .UnaryOp .. :: _, _, h => by cases h
  | .Lambda .. :: _, _, h => by cases h
  | .IfExp .. :: _, _, h => by cases h
  | .Dict .. :: _, _, h => by cases h
  | .Set .. :: _, _, h => by cases h
  | .ListComp .. :: _, _, h => by cases h
  | .SetComp .. :: _, _, h => by cases h
  | .DictComp .. :: _, _, h => by cases h
  | .GeneratorExp .. :: _, _, h => by cases h
  | .Await .. :: _, _, h => by cases h
  | .Yield .. :: _, _, h => by cases h
  | .YieldFrom .. :: _, _, h => by cases h
  | .Compare .. :: _, _, h => by cases h
  | .Call .. :: _, _, h => by cases h
  | .FormattedValue .. :: _, _, h => by cases h
  | .JoinedStr .. :: _, _, h => by cases h
  | .Constant .. :: _, _, h => by cases h
  | .Attribute .. :: _, _, h => by cases h
  | .Subscript .. :: _, _, h => by cases h
  | .Starred .. :: _, _, h => by cases h
  | .List .. :: _, _, h => by cases h
  | .Tuple .. :: _, _, h => by cases h
  | .Slice .. :: _, _, h => by cases h
theorem tgE_ok {Y : Cx} {c : Cfg} {b : Bs} (k : Cok b c Y) {tg : Expr} {g : Tg} (h : tgOfE c tg = some g) : PG Y tg (tgG Y.K g) := by
  unfold tgOfE at h
  split at h
  · obtain ⟨j, hj, rfl⟩ := Option.map_eq_some_iff.mp h
    exact k.tgName hj
  · obtain ⟨js, hj, rfl⟩ := Option.map_eq_some_iff.mp h
    obtain ⟨h1, h2⟩ := many_ok k hj
    obtain ⟨i1, i2, i3⟩ := pgs_names h1 h2
    exact pg_tupM k.mode i1 i2 i3
  · cases h
/-- in a block -/
theorem blkC_ok (k : Cok b c X) {scope : Scope} {p : Bs → Cx → Prop} (h : ∀ b' Y, Cok b' (c.blk scope) Y → p b' Y) : InBlk X scope fun Y => QB b fun b' => p b' Y := fun s H C cl fp b' h1 h2 h3 h4 => h b' _ (k.blk h1 h2 h3 h4 s H C cl fp)
theorem blkG_ok (k : Cok b c X) {scope : Scope} {p : Cx → Prop} (h : ∀ b' Y, Cok b' (c.blk scope) Y → p Y) : InBlk X scope p := fun s H C cl fp => h (b.wW fun _ _ _ _ => False) _ (k.blk (b' := b.wW fun _ _ _ _ => False) rfl rfl rfl (fun _ _ _ _ z => z) s H C cl fp)
theorem blk_in (hs : X.env.scope = c.sc) (hn : X.N = c.N) {scope : Scope} (h : blkC c.N c.sc scope (ownOf c.N scope.names) = true) : BlkOk X.N X.env.scope scope (ownOf c.N scope.names) := by
  rw [hn, hs]
  exact blkOk_by h
theorem all_in {js own : List Nat} (h : (js.all fun j => own.contains j) = true) : ∀ j ∈ js, j ∈ own := fun j m => by
  have q := List.all_eq_true.mp h j m
  simpa using q
theorem comp1_ok (R : TrOk r) (k : Cok b c X) (elt tg it : Expr) (ifs : List Expr) (scope : Scope) (pos : Pos) : PE X (.ListComp elt [⟨tg, it, ifs, 0⟩] scope pos) (tA b (comp1 c r elt tg it ifs scope)) := by
  unfold comp1
  dsimp only
  split
  · rename_i q
    simp only [Bool.and_eq_true, Bool.not_eq_true'] at q
    split
    · exact se_never
    · rename_i g hg
      split
      · rename_i ho
        have pg : InBlk X scope fun Y => PG Y tg (tgG X.K g) := fun s H C cl fp => tgE_ok (k.blk (b' := b.wW fun _ _ _ _ => False) rfl rfl rfl (fun _ _ _ _ z => z) s H C cl fp) hg
        split
        · exact se_lc k.mode (by rw [k.n]; exact k.nd) (R.i c b X k it) (blk_in k.sc k.n q.1) (all_in ho) pg (fun _ _ _ _ _ => .inl ⟨rfl, rfl⟩) (blkC_ok k fun b' Y k' => R.e _ b' Y k' elt) (setB_ok q.2 _)
        · rename_i t
          exact se_lc k.mode (by rw [k.n]; exact k.nd) (R.i c b X k it) (blk_in k.sc k.n q.1) (all_in ho) pg (fun s H C cl fp => .inr ⟨t, rfl, blkC_ok k (fun b' Y k' => R.t _ b' Y k' t) s H C cl fp⟩) (blkC_ok k fun b' Y k' => R.e _ b' Y k' elt) (setB_ok q.2 _)
        · exact se_never
      · exact se_never
  · exact se_never
theorem comp2_ok (R : TrOk r) (k : Cok b c X) (elt it it2 : Expr) (x1 x2 : Str) (p1 p2 : Pos) (scope : Scope) (pos : Pos) : PE X (.ListComp elt [⟨.Name x1 p1, it, [], 0⟩, ⟨.Name x2 p2, it2, [], 0⟩] scope pos) (tA b (comp2 c r elt x1 it x2 it2 scope)) := by
  unfold comp2
  dsimp only
  split
  · rename_i q
    simp only [Bool.and_eq_true, Bool.not_eq_true'] at q
    obtain ⟨⟨⟨⟨q1, q2⟩, q3⟩, q4⟩, q5⟩ := q
    split
    · rename_i j j2 h1 h2
      split
      · rename_i ho
        simp only [Bool.and_eq_true, List.contains_iff_mem] at ho
        exact se_lc2 (k.calm q4).1 (k.l2 q5) (by rw [k.n]; exact k.nd) (R.i c b X k it) (blk_in k.sc k.n q1) ho.1 ho.2 (blkG_ok k fun b' Y k' => k'.tgName h1) (blkG_ok k fun b' Y k' => k'.tgName h2)
          (blkC_ok k fun b' Y k' => R.i _ b' Y k' it2) (blkC_ok k fun b' Y k' => R.e _ b' Y k' elt) (setB_ok q2 _) (fun env => setB_ok q3 env)
      · exact se_never
    · exact se_never
  · exact se_never
theorem compE_ok (R : TrOk r) (k : Cok b c X) (elt : Expr) (gs : List Comprehension) (scope : Scope) (pos : Pos) : PE X (.ListComp elt gs scope pos) (tA b (compE c r elt gs scope)) := by
  unfold compE
  split
  · exact comp1_ok R k ..
  · exact comp2_ok R k ..
  · exact se_never
/-! calls -/
theorem one_ok {f : Sm → Sm} {g : Tr} {as : List Expr} {calm : Bool} {e : Expr} (h : ∀ a, as = [a] → NStar a → calm = true → PE X e (tA b (f (g.e a)))) : PE X e (tA b (one f g calm as)) := by
  unfold one
  split
  · split
    · rename_i q
      simp only [Bool.and_eq_true] at q
      exact h _ rfl (nstar_ok q.1) q.2
    · exact se_never
  · exact se_never
theorem two_ok {f : Sm → Sm → Sm} {g : Tr} {as : List Expr} {calm : Bool} {e : Expr} (h : ∀ a d, as = [a, d] → NStar a → NStar d → calm = true → PE X e (tA b (f (g.e a) (g.e d)))) : PE X e (tA b (two f g calm as)) := by
  unfold two
  split
  · split
    · rename_i q
      simp only [Bool.and_eq_true] at q
      exact h _ _ rfl (nstar_ok q.1.1) (nstar_ok q.1.2) q.2
    · exact se_never
  · exact se_never
theorem len_ok (R : TrOk r) (k : Cok b c X) (a : Expr) (p pos : Pos) (hg : Gl X "len") (hm : X.mg "len" = none) : PE X (.Call (.Name "len" p) [a] [] pos) (tA b (lenE c (r c) a)) := by
  unfold lenE
  split
  · split
    · rename_i h
      exact se_lenN k.P k.w hg hm (k.var h)
    · exact se_never
  · split
    · rename_i q
      exact se_len hg hm (R.e c b X k _) (nstar_ok q)
    · exact se_never
theorem tuple_ok (R : TrOk r) (k : Cok b c X) (a : Expr) (p pos : Pos) (hg : Gl X "tuple") (hm : X.mg "tuple" = none) : PE X (.Call (.Name "tuple" p) [a] [] pos) (tA b (tupleE c (r c) a)) := by
  unfold tupleE
  split
  · split
    · rename_i h
      exact se_tupleN hg hm (k.var h)
    · exact se_never
  · split
    · rename_i e
      subst e
      split
      · rename_i q
        simp only [Bool.and_eq_true, Bool.not_eq_true'] at q
        obtain ⟨g2, m2⟩ := k.bn q.1.1
        exact se_tupR (k.calm q.1.2).1 hg hm g2 m2 (R.e c b X k _) (nstar_ok q.2)
      · exact se_never
    · exact se_tuple hg hm (R.e c b X k _) (nstar_ok rfl)
  · split
    · rename_i q
      exact se_tuple hg hm (R.e c b X k _) (nstar_ok q)
    · exact se_never
theorem list_ok (R : TrOk r) (k : Cok b c X) (a : Expr) (p pos : Pos) (hg : Gl X "list") (hm : X.mg "list" = none) : PE X (.Call (.Name "list" p) [a] [] pos) (tA b (listE c (r c) a)) := by
  unfold listE
  split
  · split
    · rename_i h
      split
      · exact se_never
      · rename_i hh
        exact se_keysN (k.calm (by simpa using hh)).1 hg hm (k.var h)
    · exact se_never
  · split
    · rename_i e
      subst e
      split
      · rename_i q
        simp only [Bool.and_eq_true, Bool.not_eq_true'] at q
        obtain ⟨g2, m2⟩ := k.bn q.1.1.1
        exact se_listR (k.calm q.1.1.2).1 hg hm g2 m2 (R.e c b X k _) (R.e c b X k _) (nstar_ok q.1.2) (nstar_ok q.2)
      · exact se_never
    · exact se_list hg hm (R.e c b X k _) (nstar_ok rfl)
  · split
    · rename_i q
      exact se_list hg hm (R.e c b X k _) (nstar_ok q)
    · exact se_never
theorem inst_ok (R : TrOk r) (k : Cok b c X) (as : List Expr) (p pos : Pos) (hg : Gl X "isinstance") (hm : X.mg "isinstance" = none) : PE X (.Call (.Name "isinstance" p) as [] pos) (tA b (instE c (r c) as)) := by
  unfold instE
  split
  · split
    · rename_i n hn
      split
      · rename_i q
        simp only [Bool.and_eq_true] at q
        obtain ⟨g2, m2⟩ := k.bn q.2
        obtain ⟨t1, t2, t3⟩ := tyOf_ok hn
        exact se_inst hg hm g2 m2 t1 t2 t3 (R.e c b X k _) (nstar_ok q.1)
      · exact se_never
    · exact se_never
  · exact se_never
theorem bn_ok (R : TrOk r) (k : Cok b c X) (n : Bn) (as : List Expr) (p pos : Pos) (hg : Gl X n.nm) (hm : X.mg n.nm = none) : PE X (.Call (.Name n.nm p) as [] pos) (tA b (bnE c (r c) n as)) := by
  have he := R.e c b X k
  cases n with
  | len =>
    show PE X _ (tA b (match as with | [a] => lenE c (r c) a | _ => eNever))
    split
    · exact len_ok R k _ _ _ hg hm
    · exact se_never
  | tuple =>
    show PE X _ (tA b (match as with | [a] => tupleE c (r c) a | _ => eNever))
    split
    · exact tuple_ok R k _ _ _ hg hm
    · exact se_never
  | list =>
    show PE X _ (tA b (match as with | [a] => listE c (r c) a | _ => eNever))
    split
    · exact list_ok R k _ _ _ hg hm
    · exact se_never
  | sum => exact one_ok fun a e n h => by subst e; exact se_sum (k.calm (by simpa using h)).1 hg hm (he a) n
  | max => exact two_ok fun a d e n n2 h => by subst e; exact se_max2 (k.calm (by simpa using h)).1 hg hm (he a) (he d) n n2
  | min => exact two_ok fun a d e n n2 h => by subst e; exact se_min2 (k.calm (by simpa using h)).1 hg hm (he a) (he d) n n2
  | int => exact one_ok fun a e n h => by subst e; exact se_int hg hm (he a) n
  | abs => exact one_ok fun a e n h => by subst e; exact se_abs hg hm (he a) n
  | str => exact one_ok fun a e n h => by subst e; exact se_strI hg hm (he a) n
  | sorted => exact one_ok fun a e n h => by subst e; exact se_sorted hg hm (he a) n
  | isinst => exact inst_ok R k as p pos hg hm
theorem plain_star {pos : Pos} {env : Env} : ∀ {es : List Expr}, es.all nstarB = true → (backTo pos (starEach es env)).any (·.1) = false
  | [], _ => rfl
  | a :: es, h => by
    simp only [List.all_cons, Bool.and_eq_true] at h
    rw [nstar_ok h.1 es env]
    show (false || (backTo pos (starEach es env)).any (·.1)) = false
    rw [plain_star h.2]
    rfl
theorem usr_ok (R : TrOk r) (k : Cok b c X) (f : Str) (as : List Expr) (p pos : Pos) (hg : Gl X f) : PE X (.Call (.Name f p) as [] pos) (tA b (usrE c (r c) f as)) := by
  unfold usrE
  split
  · rename_i q
    simp only [Bool.and_eq_true, decide_eq_true_eq] at q
    obtain ⟨q1, q2⟩ := q
    subst q2
    unfold numE
    split
    · split
      · rename_i h1 h2
        split
        · rename_i hs
          simp only [Bool.and_eq_true, Bool.not_eq_true', beq_eq_false_iff_ne] at hs
          exact (k.num q1).2 _ _ _ _ _ _ _ _ _ _ (R.e c b X k _) (k.var h1) (k.var h2) hs.1 hs.2 hg
        · exact se_never
      · exact se_never
    · exact se_never
  · split
    · rename_i e a as hf
      split
      · rename_i q
        simp only [Bool.and_eq_true, Bool.not_eq_true'] at q
        obtain ⟨⟨q1, q2⟩, q3⟩ := q
        have hm := List.mem_of_find?_eq_some hf
        have hn : e.nm = f := by
          have z := List.find?_some hf
          simpa using z
        obtain ⟨n, rm, fs⟩ := k.room
        obtain ⟨fa, fd, ps, m1, m2, m3, m4, m5⟩ := fs e hm
        rw [hn] at m1
        exact se_call m4 rm m5 hg m1 m2 m3 k.tk (as_ok (R.e c b X k) (a :: as)) q3 (nstar_ok q1) (plain_star q2)
      · exact se_never
    · exact se_never
theorem call_ok (R : TrOk r) (k : Cok b c X) (f : Str) (as : List Expr) (kws : List Keyword) (p pos : Pos) : PE X (.Call (.Name f p) as kws pos) (tA b (callE c (r c) f as kws)) := by
  unfold callE
  split
  · split
    · rename_i hg
      split
      · rename_i n hn
        split
        · rename_i hb
          have e := bnOf_ok hn
          subst e
          exact bn_ok R k n as p pos (k.gl hg) (k.bl _ hb)
        · exact se_never
      · exact usr_ok R k f as p pos (k.gl hg)
    · exact se_never
  · unfold kwE
    split
    · split
      · split
        · rename_i q
          simp only [Bool.and_eq_true, Bool.not_eq_true', decide_eq_true_eq] at q
          obtain ⟨⟨⟨⟨⟨q1, q2⟩, q3⟩, q4⟩, q5⟩, q6⟩ := q
          subst q1 q2 q3
          obtain ⟨g2, m2⟩ := k.bn q4
          exact se_maxD k.un (k.calm q6).1 g2 m2 (R.e c b X k _) pe_int (nstar_ok q5)
        · exact se_never
      · exact se_never
    · exact se_never
theorem const_ok (kc : Const) (j : Nat) (pos : Pos) : PE X (.Constant kc j pos) (tA b (constE kc)) := by
  unfold constE
  split
  · exact se_c pe_int fun F => .int _
  · exact se_c pe_str fun F => .str _
  · exact se_c pe_bl fun F => .bl _
  · exact se_c pe_non fun F => .non
  · exact se_never
theorem sub_ok (R : TrOk r) (k : Cok b c X) (a sl : Expr) (pos : Pos) : PE X (.Subscript a sl pos) (tA b (subE c (r c) a sl)) := by
  unfold subE
  split
  · split
    · rename_i e
      subst e
      exact se_rev (R.e c b X k a)
    · exact se_never
  · exact se_sl (R.e c b X k a) (o_ok (R.e c b X k) _) (o_ok (R.e c b X k) _)
  · split
    · rename_i q
      split
      · split
        · rename_i h
          exact se_ixN k.P k.w k.un (k.var h) (R.e c b X k sl) (ix_ok q)
        · exact se_never
      · exact se_ix (R.e c b X k _) (R.e c b X k sl) (ix_ok q)
    · exact se_never
theorem un64 (h : X.A.units + 100 < cLine) : X.A.units + 64 < cLine := by omega
theorem stepE_ok (R : TrOk r) (k : Cok b c X) (e : Expr) : PE X e (tA b (stepE c r e)) := by
  unfold stepE
  split
  · split
    · rename_i h
      exact se_var (k.var h)
    · exact se_never
  · exact const_ok ..
  · exact se_bin (R.e c b X k _) (R.e c b X k _)
  · exact se_neg (R.e c b X k _)
  · exact se_not (R.e c b X k _)
  · exact andE_ok (R.e c b X k) _ _
  · exact orE_ok (R.e c b X k) _ _
  · split
    · rename_i h
      exact se_cmp (un64 k.un) (R.e c b X k _) (R.e c b X k _) h
    · exact se_never
  · exact se_if (R.t c b X k _) (R.e c b X k _) (R.e c b X k _)
  · exact sub_ok R k _ _ _
  · exact se_tup (as_ok (R.e c b X k) _)
  · exact se_lst (as_ok (R.e c b X k) _)
  · exact call_ok R k _ _ _ _ _
  · exact compE_ok R k _ _ _ _
  · exact se_never
theorem stepT_ok (R : TrOk r) (k : Cok b c X) (e : Expr) : PT X e (tT b (stepT c r e)) := by
  unfold stepT
  split
  · exact st_not (R.t c b X k _)
  · exact (andT_ok (R.t c b X k) _ _).pt
  · exact (orT_ok (R.t c b X k) _ _).pt
  · split
    · rename_i h
      exact st_nin k.P k.w k.un (R.e c b X k _) (k.var h)
    · exact st_never
  · split
    · rename_i h
      exact st_cmp (un64 k.un) (R.e c b X k _) (R.e c b X k _) h
    · exact st_never
  · split
    · rename_i h
      exact st_val (R.e c b X k _) (val_ok h)
    · exact st_never
theorem rng_ok (R : TrOk r) (k : Cok b c X) (as : List Expr) (p pos : Pos) (hb : blB c "range" = true) : PIM b X (.Call (.Name "range" p) as [] pos) (rngI c r as) := by
  obtain ⟨g2, m2⟩ := k.bn hb
  unfold rngI
  split
  · split
    · rename_i q
      exact si_r1 g2 m2 (R.e c b X k _) (nstar_ok q)
    · exact si_never
  · split
    · rename_i q
      simp only [Bool.and_eq_true, Bool.not_eq_true'] at q
      exact si_r2 (k.calm q.2).1 (k.calm q.2).2 g2 m2 (R.e c b X k _) (R.e c b X k _) (nstar_ok q.1.1) (nstar_ok q.1.2)
    · exact si_never
  · exact si_never
theorem stepI_ok (R : TrOk r) (k : Cok b c X) (e : Expr) : PIM b X e (stepI c r e) := by
  unfold stepI
  split
  · split
    · rename_i h
      exact si_name (k.var h)
    · exact si_never
  · split
    · rename_i e
      subst e
      split
      · rename_i hb
        exact rng_ok R k _ _ _ hb
      · exact si_never
    · exact si_over (R.e c b X k _)
  · exact si_over (R.e c b X k _)
end
theorem tr_ok : ∀ n, TrOk (tr n)
  | 0 => ⟨fun _ _ _ _ _ => se_never, fun _ _ _ _ _ => st_never, fun _ _ _ _ _ => si_never⟩
  | n + 1 => ⟨fun _ _ _ k e => stepE_ok (tr_ok n) k e, fun _ _ _ k e => stepT_ok (tr_ok n) k e, fun _ _ _ k e => stepI_ok (tr_ok n) k e⟩
end Wd

/-! A15: the translation of statements, sound. -/
namespace Wd
open PySem PySem.Spec PyProof.Rows L2 HotX
open L2H (HotC TurnH PIH PIEH RoomH FnH)
open Evl (Ex Ex.refl Ex.trans Ex.new Ex.mut fresh_back)

structure SCfg where
  c : Cfg
  /-- the class that is raised and caught -/
  exc : Option Str
  loops : Bool
  tr : Bool
  fnsH : List FE
def ncompB : Expr → Bool
  | .ListComp _ _ _ _ => false
  | .SetComp _ _ _ _ => false
  | .DictComp _ _ _ _ _ => false
  | _ => true
theorem ncomp_sw {e : Expr} (h : ncompB e = true) (t : Option Expr) (l : Nat) (env : Env) : swapsWith e t l env = pure false := by
  cases e <;> first | rfl | cases h
theorem sw_sub (e o k : Expr) (p : Pos) (l : Nat) (env : Env) : swapsWithSole [.Subscript o k p] e l env = pure false := by
  cases e <;> rfl
theorem sw_store (e o k : Expr) (p : Pos) (env : Env) : swappedStores [.Subscript o k p] e env = pure none := by
  cases e <;> rfl
theorem sw_sole {e : Expr} (h : ncompB e = true) (t : Expr) (l : Nat) (env : Env) : swapsWithSole [t] e l env = pure false := ncomp_sw h _ _ _
def ntupB : Expr → Bool
  | .Tuple _ _ _ => false
  | .List _ _ => false
  | _ => true
theorem sw_stores {e : Expr} (h : ntupB e = true) (es : List Expr) (j : Nat) (p : Pos) (env : Env) : swappedStores [.Tuple es j p] e env = pure none := by
  cases e <;> first | rfl | cases h
theorem asg_sub {k : Expr} (h : ixB k = true) (o : Expr) (p : Pos) (env : Env) (v : Value) : assign (.Subscript o k p) env v = (do
      let ov ← holding [v] (eval o env)
      let iv ← holding [v, ov] (eval k env)
      standAt p
      holding [v, ov, iv] (setItem ov iv v)
      release [v, ov, iv] []) := by
  cases k <;> first | rfl | cases h
theorem sw_false {elt : Expr} {gs : List Comprehension} {scope : Scope} {pos py : Pos} {y : Str} {l : Nat} {env : Env} (hy : (env.kindOf y == some .local) = false) : swapsWith (.ListComp elt gs scope pos) (some (.Name y py)) l env = pure false := by
  unfold swapsWith
  simp only [hy, Bool.and_false, Bool.false_and]

def lstFor (c : Cfg) (r : Cfg → Tr) (e : Expr) : Option Sm := match e with
  | .List es _ => some (eLst (trAs (r c).e es))
  | .Call (.Name f _) [.Call (.Name g _) [a, d] [] _] [] _ => if (decide (f = ("list" : Str)) && decide (g = ("range" : Str)) && blB c "list" && blB c "range" && !c.hot && nstarB a && nstarB d) = true then some (eListR ((r c).e a) ((r c).e d)) else none
  | .Call (.Name f _) [.Subscript a d p] [] _ => if (decide (f = ("list" : Str)) && blB c "list") = true then some (eList ((r c).e (.Subscript a d p))) else none
  | .Subscript a (.Slice lo hi none _) _ => some (eSlL ((r c).e a) (trO (r c).e lo) (trO (r c).e hi))
  | _ => none
def asgN (c : Cfg) (r : Cfg → Tr) (x : Str) (p1 : Pos) (j : Nat) (e : Expr) : Ss := match e with
  | .ListComp elt gs scope p2 => if lclB c x = true then (if (p1.line == p2.line && !(scope.names.any fun (n, k) => n == x && (k == .local || k == .cell))) = true then sAsg j (compE c r elt gs scope) else sNever) else sAsg j (compE c r elt gs scope)
  | .Dict [] [] _ => sNewD j
  | .Dict [some k] [v] _ => sNewD1 j ((r { c with num := false }).e k) ((r { c with num := false }).e v)
  | _ => match lstFor c r e with
    | some m => sAsgL j m
    | none => if ncompB e = true then sAsg j ((r c).e e) else sNever
def asgS (c : Cfg) (r : Cfg → Tr) (tg e : Expr) : Ss := match tg with
  | .Name x p1 => (match tgOf c x with
    | some j => asgN c r x p1 j e
    | none => sNever)
  | .Tuple es _ _ => (match manyOf c es with
    | some js => if (ncompB e && ntupB e) = true then sUnp js ((r c).e e) else sNever
    | none => sNever)
  | .Subscript (.Name x _) k _ => (match varOf c x with
    | some i => if ixB k = true then sPut i ((r c).e k) ((r c).e e) else sNever
    | none => sNever)
  | _ => sNever
def trSs (f : Stmt → Ss) : List Stmt → Ss
  | [] => sNop
  | [s] => f s
  | s :: t :: r => sSeq (f s) (trSs f (t :: r))
def SCfg.body (s : SCfg) : SCfg := { s with c := { s.c with l2 := false, num := false }, exc := none, tr := false }
def SCfg.suite (s : SCfg) : SCfg := { s with c := { s.c with l2 := false, num := false, hot := true, fns := s.fnsH }, exc := none, tr := false, loops := false }
def stepS (r : Cfg → Tr) (f : SCfg → Stmt → Ss) (s : SCfg) : Stmt → Ss
  | .Assign [tg] e _ => asgS s.c r tg e
  | .Expr (.Call (.Attribute (.Name x _) at_ p2) [e] [] p3) _ => (match varOf s.c x with
    | some i => if (decide (at_ = ("append" : Str)) && (p2.endLine == p3.line) && nstarB e) = true then sApp i ((r s.c).e e) else sNever
    | none => sNever)
  | .AugAssign (.Name x _) .Add e _ => (match tgOf s.c x with
    | some i => sAug i ((r s.c).e e)
    | none => sNever)
  | .If t a b _ => sIf ((r s.c).t t) (trSs (f s) a) (trSs (f s) b)
  | .For (.Name x _) it body [] _ => (match tgOf s.c x with
    | some j => if (!setB it && s.loops) = true then sFor j ((r s.c).i it) (trSs (f s) body) else sNever
    | none => sNever)
  | .While t body [] _ => if s.loops = true then sWhile ((r s.c).t t) (trSs (f s) body) else sNever
  | .Return (some e) _ => sRet ((r s.c).e e)
  | .Raise (some (.Call (.Name x _) [.Constant (.str _) _ _] [] _)) none _ => if (decide (s.exc = some x) && !s.c.hot) = true then sRaise else sNever
  | .Try body [.ExceptHandler (some (.Name x _)) none (b₀ :: suite) _] [] [] _ => if (decide (s.exc = some x) && s.tr) = true then sTry (trSs (f s.body) body) (trSs (f s.suite) (b₀ :: suite)) else sNever
  | _ => sNever
def trS (r : Cfg → Tr) : Nat → SCfg → Stmt → Ss
  | 0, _ => fun _ => sNever
  | n + 1, s => stepS r (trS r n) s
/-- a def's body -/
def trB (s : SCfg) (body : List Stmt) : Ss := trSs (trS (tr 14) 10 s) body

/-! ### sound -/
structure Scok (b : Bs) (s : SCfg) (X : Cx) : Prop where
  k : Cok b s.c X
  po : s.loops = true → PassesOwn (model X.prog X.w) X.A X.env X.xe
  ex : ∀ x, s.exc = some x → s.c.hot = false → RaiseOk X b.C x ∧ L2N.Takes X b.W
  tr : s.tr = true → s.c.hot = false ∧ X.stack = X.env :: X.outer ∧ X.env.frame = some X.env.locals ∧ (∀ x, s.exc = some x → Names X x (.ref b.C)) ∧ (∀ hd : Option Value, PassesOwnAt (model X.prog X.w) (X.A.mark hd) X.A X.env X.xe) ∧
    PySem.W.exmOne X.K (.ref b.C) (.ref b.C) = some true ∧ ∃ n, Room n X.A ∧ ∀ e ∈ s.fnsH, FeOk true X b.C n e
structure SrOk (f : SCfg → Stmt → Ss) : Prop where
  s : ∀ (s : SCfg) (b : Bs) (X : Cx), Scok b s X → ∀ st, PS X st (tSA b (f s st))
section
variable {b : Bs} {c : Cfg} {s : SCfg} {X : Cx} {r : Cfg → Tr}
theorem ss_ok {f : Stmt → Ss} (h : ∀ st, PS X st (tSA b (f st))) : ∀ l, PSs X l (tSA b (trSs f l))
  | [] => sss_nil
  | [a] => sss_one (h a)
  | a :: d :: l => sss_cons (h a) (ss_ok h (d :: l))
theorem Cok.noNum (k : Cok b c X) : Cok b { c with num := false } X := ⟨k.P, k.w, k.n, k.nd, k.sc, k.fn, k.room, k.l2, k.bl, k.tk, fun h => Bool.noConfusion h⟩
theorem Cok.noW (k : Cok b c X) (hn : c.num = false) {b' : Bs} (h1 : b'.P = b.P) (h2 : b'.w = b.w) (hC : b'.C = b.C) (h3 : ∀ c d σ H, ¬ b'.W c d σ H) : Cok b' c X := ⟨h1.trans k.P, h2.trans k.w, k.n, k.nd, k.sc, k.fn, by rw [hC]; exact k.room, k.l2, k.bl,
  fun σ pins H s e s' I ⟨_, _, _, _, _, _, _, _, _, _, _, _, w⟩ => (h3 _ _ _ _ w).elim, fun h => by rw [hn] at h; cases h⟩
theorem set_by (k : Cok b c X) {x : Str} {j : Nat} (h : tgOf c x = some j) {e : Expr} {p1 pos : Pos} {te : TE} (hs : swapsWith e (some (.Name x p1)) pos.line X.env = pure false) (he : PE X e te) : PS X (.Assign [.Name x p1] e pos) (tAsg te (gName j)) := by
  obtain ⟨h1, h2, h3⟩ := k.tg h
  exact ps_set (by rw [k.n]; exact k.nd) h1 h2 he hs h3
theorem lst_ok (R : TrOk r) (k : Cok b c X) {e : Expr} {m : Sm} (h : lstFor c r e = some m) : PE X e (tL b m) ∧ PE X e (tA b m) ∧ ncompB e = true := by
  unfold lstFor at h
  split at h
  · cases h
    exact ⟨sl_lst (as_ok (R.e c b X k) _), se_lst (as_ok (R.e c b X k) _), rfl⟩
  · split at h
    · rename_i q
      cases h
      simp only [Bool.and_eq_true, Bool.not_eq_true', decide_eq_true_eq] at q
      obtain ⟨⟨⟨⟨⟨⟨q1, q2⟩, q3⟩, q4⟩, q5⟩, q6⟩, q7⟩ := q
      subst q1 q2
      obtain ⟨g1, m1⟩ := k.bn q3
      obtain ⟨g2, m2⟩ := k.bn q4
      exact ⟨sl_listR (k.calm q5).1 g1 m1 g2 m2 (R.e c b X k _) (R.e c b X k _) (nstar_ok q6) (nstar_ok q7), se_listR (k.calm q5).1 g1 m1 g2 m2 (R.e c b X k _) (R.e c b X k _) (nstar_ok q6) (nstar_ok q7), rfl⟩
    · cases h
  · split at h
    · rename_i q
      cases h
      simp only [Bool.and_eq_true, decide_eq_true_eq] at q
      obtain ⟨q1, q2⟩ := q
      subst q1
      obtain ⟨g1, m1⟩ := k.bn q2
      exact ⟨sl_list g1 m1 (R.e c b X k _) (nstar_ok rfl), se_list g1 m1 (R.e c b X k _) (nstar_ok rfl), rfl⟩
    · cases h
  · cases h
    exact ⟨sl_sl (R.e c b X k _) (o_ok (R.e c b X k) _) (o_ok (R.e c b X k) _), se_slL (R.e c b X k _) (o_ok (R.e c b X k) _) (o_ok (R.e c b X k) _), rfl⟩
  · cases h
theorem asg_ss {st : Stmt} {me : Sm} {j : Nat} (h : PS X st (tAsg (tA b me) (gName j))) : PS X st (tSA b (sAsg j me)) := h.imp fun D σ H q => asg_read q
theorem lcl_not (k : Cok b c X) {x : Str} (h : ¬ lclB c x = true) : (X.env.kindOf x == some .local) = false := by
  unfold Env.kindOf
  rw [k.sc]
  unfold lclB at h
  cases e : c.sc.names.lookup x with
  | none => rfl
  | some q =>
    rw [e] at h
    cases q <;> first | rfl | exact absurd rfl h
theorem comp1_set (R : TrOk r) (k : Cok b c X) {j : Nat} {y : Str} {py spos : Pos} (hy : X.N[j]? = some y) (hyl : X.env.scope.names.lookup y = some .local) (elt tg it : Expr) (ifs : List Expr) (scope : Scope) (pos : Pos)
    (hsw : swapsWith (.ListComp elt [⟨tg, it, ifs, 0⟩] scope pos) (some (.Name y py)) spos.line X.env = pure true) : PS X (.Assign [.Name y py] (.ListComp elt [⟨tg, it, ifs, 0⟩] scope pos) spos) (tSA b (sAsg j (comp1 c r elt tg it ifs scope))) := by
  have nv : ∀ {st : Stmt}, PS X st (tSA b (sAsg j eNever)) := ⟨fun _ _ _ _ _ _ ⟨_, _, _, h, _⟩ => False.elim h⟩
  unfold comp1
  dsimp only
  split
  · rename_i q
    simp only [Bool.and_eq_true, Bool.not_eq_true'] at q
    split
    · exact nv
    · rename_i g hg
      split
      · rename_i ho
        have pg : InBlk X scope fun Y => PG Y tg (tgG X.K g) := fun s H C cl fp => tgE_ok (k.blk (b' := b.wW fun _ _ _ _ => False) rfl rfl rfl (fun _ _ _ _ z => z) s H C cl fp) hg
        split
        · exact asg_ss (ss_setLc k.mode (by rw [k.n]; exact k.nd) hy hyl hsw (R.i c b X k it) (blk_in k.sc k.n q.1) (all_in ho) pg (fun _ _ _ _ _ => .inl ⟨rfl, rfl⟩) (blkC_ok k fun b' Y k' => R.e _ b' Y k' elt) (setB_ok q.2 _))
        · rename_i t
          exact asg_ss (ss_setLc k.mode (by rw [k.n]; exact k.nd) hy hyl hsw (R.i c b X k it) (blk_in k.sc k.n q.1) (all_in ho) pg (fun s H C cl fp => .inr ⟨t, rfl, blkC_ok k (fun b' Y k' => R.t _ b' Y k' t) s H C cl fp⟩) (blkC_ok k fun b' Y k' => R.e _ b' Y k' elt) (setB_ok q.2 _))
        · exact nv
      · exact nv
  · exact nv
theorem comp2_set (R : TrOk r) (k : Cok b c X) {j0 : Nat} {y : Str} {py spos : Pos} (hy : X.N[j0]? = some y) (hyl : X.env.scope.names.lookup y = some .local) (elt it it2 : Expr) (x1 x2 : Str) (p1 p2 : Pos) (scope : Scope) (pos : Pos)
    (hsw : swapsWith (.ListComp elt [⟨.Name x1 p1, it, [], 0⟩, ⟨.Name x2 p2, it2, [], 0⟩] scope pos) (some (.Name y py)) spos.line X.env = pure true) : PS X (.Assign [.Name y py] (.ListComp elt [⟨.Name x1 p1, it, [], 0⟩, ⟨.Name x2 p2, it2, [], 0⟩] scope pos) spos) (tSA b (sAsg j0 (comp2 c r elt x1 it x2 it2 scope))) := by
  have nv : ∀ {st : Stmt}, PS X st (tSA b (sAsg j0 eNever)) := ⟨fun _ _ _ _ _ _ ⟨_, _, _, h, _⟩ => False.elim h⟩
  unfold comp2
  dsimp only
  split
  · rename_i q
    simp only [Bool.and_eq_true, Bool.not_eq_true'] at q
    obtain ⟨⟨⟨⟨q1, q2⟩, q3⟩, q4⟩, q5⟩ := q
    split
    · rename_i j j2 h1 h2
      split
      · rename_i ho
        simp only [Bool.and_eq_true, List.contains_iff_mem] at ho
        exact asg_ss (ss_setLc2 hy hyl hsw (k.calm q4).1 (k.l2 q5) (by rw [k.n]; exact k.nd) (R.i c b X k it) (blk_in k.sc k.n q1) ho.1 ho.2 (blkG_ok k fun b' Y k' => k'.tgName h1) (blkG_ok k fun b' Y k' => k'.tgName h2)
          (blkC_ok k fun b' Y k' => R.i _ b' Y k' it2) (blkC_ok k fun b' Y k' => R.e _ b' Y k' elt) (setB_ok q2 _) (fun env => setB_ok q3 env))
      · exact nv
    · exact nv
  · exact nv
theorem comp_set (R : TrOk r) (k : Cok b c X) {j : Nat} {y : Str} {py spos : Pos} (hy : X.N[j]? = some y) (hyl : X.env.scope.names.lookup y = some .local) (elt : Expr) (gs : List Comprehension) (scope : Scope) (pos : Pos)
    (hsw : swapsWith (.ListComp elt gs scope pos) (some (.Name y py)) spos.line X.env = pure true) : PS X (.Assign [.Name y py] (.ListComp elt gs scope pos) spos) (tSA b (sAsg j (compE c r elt gs scope))) := by
  unfold compE
  split
  · exact comp1_set R k hy hyl _ _ _ _ _ _ hsw
  · exact comp2_set R k hy hyl _ _ _ _ _ _ _ _ _ hsw
  · exact ⟨fun _ _ _ _ _ _ ⟨_, _, _, h, _⟩ => False.elim h⟩
theorem asgN_ok (hk : c.sc.kind = .function) (R : TrOk r) (k : Cok b c X) {x : Str} {p1 pos : Pos} {j : Nat} (h : tgOf c x = some j) (e : Expr) : PS X (.Assign [.Name x p1] e pos) (tSA b (asgN c r x p1 j e)) := by
  unfold asgN
  split
  · rename_i elt gs scope p2
    split
    · rename_i hl
      split
      · rename_i q
        simp only [Bool.and_eq_true, Bool.not_eq_true'] at q
        exact comp_set R k (k.tg h).1 (k.lcl hl) elt gs scope p2 (sw_true (by rw [k.sc]; exact hk) (k.lcl hl) q.1 q.2)
      · exact ss_never
    · rename_i hl
      exact asg_ss (set_by k h (sw_false (lcl_not k hl)) (compE_ok R k ..))
  · exact ss_newD k.P k.w fun {te} he => set_by k h rfl he
  · rename_i kk v pp
    have k0 := k.noNum
    exact ss_newD1 (fun {te} he => set_by k h rfl he) (fun b' h1 h2 h3 h4 => R.e _ b' X (k0.noW rfl h1 h2 h3 h4) kk) (fun b' h1 h2 h3 h4 => R.e _ b' X (k0.noW rfl h1 h2 h3 h4) v)
  · split
    · rename_i m hm
      obtain ⟨l1, l2, l3⟩ := lst_ok R k hm
      exact ss_asgL (set_by k h (ncomp_sw l3 ..) l2) (set_by k h (ncomp_sw l3 ..) l1)
    · split
      · rename_i hn
        exact asg_ss (set_by k h (ncomp_sw hn ..) (R.e c b X k e))
      · exact ss_never
theorem asgS_ok (hk : c.sc.kind = .function) (R : TrOk r) (k : Cok b c X) (tg e : Expr) (pos : Pos) : PS X (.Assign [tg] e pos) (tSA b (asgS c r tg e)) := by
  unfold asgS
  split
  · split
    · rename_i h
      exact asgN_ok hk R k h e
    · exact ss_never
  · split
    · rename_i es j p js hj
      split
      · rename_i q
        simp only [Bool.and_eq_true] at q
        obtain ⟨h1, h2⟩ := many_ok k hj
        obtain ⟨i1, i2, i3⟩ := pgs_names h1 h2
        exact ss_unp (R.e c b X k e) (pg_tupM k.mode i1 i2 i3) (sw_sole q.1 _ _ _) (sw_stores q.2 _ _ _ _) rfl
      · exact ss_never
    · exact ss_never
  · split
    · rename_i h
      split
      · rename_i q
        exact ss_put k.P k.w k.un (k.var h) (R.e c b X k _) (R.e c b X k e) (asg_sub q _ _ _) (sw_sub ..) (sw_store ..)
      · exact ss_never
    · exact ss_never
  · exact ss_never
theorem Scok.body {W : WX} {pn : List (Addr × Obj)} {xe : Value → Shared → Prop} (q : Scok b s X) (hh : s.c.hot = false) (tk : L2N.Takes (X.tr pn xe) W) (po : PassesOwn (model X.prog X.w) X.A X.env xe) : Scok (b.wW W) s.body (X.tr pn xe) where
  k := ⟨q.k.P, q.k.w, q.k.n, q.k.nd, q.k.sc, q.k.fn, let ⟨n, r, f⟩ := q.k.room; ⟨n, ⟨r.c, fun h => absurd (hh.symm.trans h) Bool.false_ne_true⟩, f⟩, fun h => Bool.noConfusion h, q.k.bl, fun σ => L2N.passAt tk σ, fun h => Bool.noConfusion h⟩
  po := fun _ => po
  ex := fun _ h => by cases h
  tr := fun h => Bool.noConfusion h
theorem Scok.suite {a : Addr} {pn : List (Addr × Obj)} (q : Scok b s X) {n : Nat} (r : Room n X.A) (f : ∀ e ∈ s.fnsH, FeOk true X b.C n e) (hot : HotC (L2H.suiteX X a pn)) : Scok (b.wW fun _ _ _ _ => False) s.suite (L2H.suiteX X a pn) where
  k := ⟨q.k.P, q.k.w, q.k.n, q.k.nd, q.k.sc, q.k.fn, ⟨n, ⟨fun h => Bool.noConfusion h, fun _ => ⟨⟨r.dp, r.un⟩, hot⟩⟩, f⟩, fun h => Bool.noConfusion h, q.k.bl, fun σ pins H s e s' I ⟨_, _, _, _, _, _, _, _, _, _, _, _, w⟩ => w.elim, fun h => Bool.noConfusion h⟩
  po := fun h => Bool.noConfusion h
  ex := fun _ h => by cases h
  tr := fun h => Bool.noConfusion h
theorem stepS_ok {f : SCfg → Stmt → Ss} (hk : s.c.sc.kind = .function) (R : TrOk r) (S : ∀ (s : SCfg) (b : Bs) (X : Cx), s.c.sc.kind = .function → Scok b s X → ∀ st, PS X st (tSA b (f s st))) (q : Scok b s X) (st : Stmt) : PS X st (tSA b (stepS r f s st)) := by
  have ss : ∀ l, PSs X l (tSA b (trSs (f s) l)) := ss_ok (S s b X hk q)
  unfold stepS
  split
  · exact asgS_ok hk R q.k _ _ _
  · split
    · rename_i h
      split
      · rename_i z
        simp only [Bool.and_eq_true, decide_eq_true_eq] at z
        obtain ⟨⟨z1, z2⟩, z3⟩ := z
        subst z1
        exact ss_app (q.k.var h) (R.e s.c b X q.k _) rfl (nstar_ok z3) z2
      · exact ss_never
    · exact ss_never
  · split
    · rename_i h
      obtain ⟨h1, h2, h3⟩ := q.k.tg h
      exact ss_aug (by rw [q.k.n]; exact q.k.nd) h1 h2 h3 (R.e s.c b X q.k _)
    · exact ss_never
  · exact ss_if (R.t s.c b X q.k _) (ss _) (ss _)
  · split
    · rename_i h
      split
      · rename_i z
        simp only [Bool.and_eq_true, Bool.not_eq_true'] at z
        exact ss_for (q.po z.2) q.k.mode (R.i s.c b X q.k _) (q.k.tgName h) (ss _) (setB_ok z.1 _)
      · exact ss_never
    · exact ss_never
  · split
    · rename_i z
      exact ss_while (q.po z) (R.t s.c b X q.k _) (ss _)
    · exact ss_never
  · exact ss_ret (R.e s.c b X q.k _)
  · split
    · rename_i z
      simp only [Bool.and_eq_true, Bool.not_eq_true', decide_eq_true_eq] at z
      obtain ⟨z1, z2⟩ := q.ex _ z.1 z.2
      exact ss_raise (q.k.calm z.2).1 z2 z1
    · exact ss_never
  · split
    · rename_i z
      simp only [Bool.and_eq_true, decide_eq_true_eq] at z
      obtain ⟨t0, t1, t2, t3, t4, t5, n, t6, t7⟩ := q.tr z.2
      exact ss_try t1 t2 (t3 _ z.1) t4 t5 (fun W pn xe tk po => ss_ok (S s.body _ _ hk (q.body t0 tk po)) _) (fun a pn hot => ss_ok (S s.suite _ _ hk (q.suite t6 t7 hot)) _)
    · exact ss_never
  · exact ss_never
end
theorem trS_ok {r : Cfg → Tr} (R : TrOk r) : ∀ n, ∀ (s : SCfg) (b : Bs) (X : Cx), s.c.sc.kind = .function → Scok b s X → ∀ st, PS X st (tSA b (trS r n s st))
  | 0 => fun _ _ _ _ _ _ => ss_never
  | n + 1 => fun s b X hk q st => stepS_ok hk R (trS_ok R n) q st
theorem trB_ok {b : Bs} {s : SCfg} {X : Cx} (hk : s.c.sc.kind = .function) (q : Scok b s X) (body : List Stmt) : PSs X body (tSA b (trB s body)) := ss_ok (trS_ok (tr_ok 14) 10 s b X hk q) body
end Wd

/-! A16: a def of the text keeps its promise on data. -/
namespace Wd
open PySem PySem.Spec PyProof.Rows L2 HotX
open L2H (HotC TurnH PIH PIEH RoomH FnH)
open Evl (Ex Ex.refl Ex.trans Ex.new Ex.mut fresh_back)

/-- where the calls of a def look -/
structure Wl where
  P : Program
  w : World
  K : PySem.W.Frag
  mg : Str → Option Value
  base : Heap
  C : Addr
/-- an entry of the table, kept -/
def Kept (W : Wl) (hot : Bool) (e : FE) : Prop := ∃ (f : Addr) (fd : FuncData) (ps : List Str), W.mg e.nm = some (.ref f) ∧ PySem.W.keepIn W.K (.ref f) = true ∧ Binds W.K fd ps [] ∧ FnM hot W.P W.w W.K W.mg W.base e.k f fd ps (spOf W.C e.sp)
/-- what is known of the exception's class -/
structure ExcT (W : Wl) (x : Str) : Prop where
  mgC : W.mg x = some (.ref W.C)
  dbg : (x == ("__debug__" : Str)) = false
  rs : ∀ X : Cx, X.prog = W.P → X.w = W.w → X.K = W.K → X.mg = W.mg → X.base = W.base → (∃ k, Room (k + 2) X.A) → Gl X x → RaiseOk X W.C x
/-- the slots at the start -/
def start0 (n : Nat) (ds : List D) : Gm := ds.map .im ++ List.replicate (n - ds.length) .un
theorem start_ok {b : Bs} {F H : Hp} {N : List Str} {vs : List V} {ds : List D} (hB : BaseOk b F H) (r : Reps F vs ds) (hl : vs.length ≤ N.length) : EnvOk b F H (start0 N.length ds) (L2.start N vs) := by
  have el := r.length
  refine ⟨hB, ?_, fun i s hi => ?_, fun i j l o l' o' h1 _ _ => ?_⟩
  · unfold L2.start start0
    simp [el]
  · unfold start0 at hi
    by_cases h : i < ds.length
    · rw [List.getElem?_append_left (by simpa using h), List.getElem?_map] at hi
      obtain ⟨d, hd, rfl⟩ := Option.map_eq_some_iff.mp hi
      obtain ⟨v, hv, rv⟩ := r.get hd
      refine ⟨v, ?_, rv⟩
      unfold L2.start
      rw [List.getElem?_append_left (by rw [List.length_map]; omega), List.getElem?_map, hv]
      rfl
    · rw [List.getElem?_append_right (by simpa using h), List.getElem?_replicate] at hi
      split at hi
      · cases hi; trivial
      · cases hi
  · exfalso
    unfold start0 at h1
    by_cases h : i < ds.length
    · rw [List.getElem?_append_left (by simpa using h), List.getElem?_map] at h1
      obtain ⟨d, _, e⟩ := Option.map_eq_some_iff.mp h1
      cases e
    · rw [List.getElem?_append_right (by simpa using h), List.getElem?_replicate] at h1
      split at h1 <;> cases h1
/-- what a body must come to -/
def goal (hot : Bool) (Pd : D → Prop) (Px : Prop) : Out → Prop
  | .rt d _ => Pd d
  | .nx _ => Pd .none
  | .ex _ => hot = false ∧ Px
  | _ => False
theorem base_step {b : Bs} {F H F' H' : Hp} (h0 : b.F0 = F) (h1 : b.H0 = H) (h : BaseOk b F' H') : Step F H F' H' := by
  subst h0 h1
  exact ⟨h.f0, h.h0, h.fh, h.new⟩
theorem body_goal {b : Bs} {hot : Bool} {Pd : D → Prop} {Px : Prop} {F H : Hp} {Q : VK} {E : XK} (h0 : b.F0 = F) (h1 : b.H0 = H) (hW : hot = false → b.W = fun cls d _ H => E cls d H)
    (kq : ∀ v d F' H', Pd d → Step F H F' H' → Rep F' v d → Q v H') (kx : ∀ dd F' H', Px → Step F H F' H' → E (.ref b.C) (some dd) H') : KS b F (goal hot Pd Px) { nx := fun _ H' => Q .non H', rt := Q } :=
  ⟨fun G F' H' σ' p x en => kq _ _ F' H' p (base_step h0 h1 en.base) .non, fun G F' H' σ' p x en => False.elim p, fun G F' H' σ' p x en => False.elim p,
    fun d G v F' H' σ' p x en r => kq v d F' H' p (base_step h0 h1 en.base) r, fun G F' H' σ' dd p x en => by rw [hW p.1]; exact kx dd F' H' p.2 (base_step h0 h1 en.base)⟩
section
variable {W : Wl} {hot : Bool}
theorem FeOk_of {X : Cx} (h1 : X.prog = W.P) (h2 : X.w = W.w) (h3 : X.K = W.K) (h4 : X.mg = W.mg) (h5 : X.base = W.base) {k : Nat} {e : FE} (h : Kept W hot e) (hk : e.k ≤ k) : FeOk hot X W.C k e := by
  obtain ⟨f, fd, ps, a, b, c, d⟩ := h
  unfold FeOk
  rw [h1, h2, h3, h4, h5]
  exact ⟨f, fd, ps, a, b, c, d, hk⟩
/-- number_of as it is called in this def -/
def NumK (W : Wl) (hot : Bool) (k : Nat) : Prop := ∀ (b : Bs) (X : Cx), b.P = W.P → b.w = W.w → X.prog = W.P → X.w = W.w → X.K = W.K → X.mg = W.mg → X.base = W.base → RoomM hot X k → NumOk b X
structure DefOk (W : Wl) (s : SCfg) (hot : Bool) (k : Nat) (st : Stmt) (ps : List Str) : Prop where
  S : FnScope s.c.N ps (defScope st)
  sc : s.c.sc = defScope st
  fn : s.c.fn = fun _ => true
  ht : s.c.hot = hot
  l2 : s.c.l2 = true → hot = false
  fns : ∀ e ∈ s.c.fns, Kept W hot e ∧ e.k ≤ k
  bl : ∀ x, s.c.bl.contains x = true → W.mg x = none
  num : s.c.num = true → NumK W hot k
  exc : ∀ x, s.exc = some x → ExcT W x ∧ glB s.c x = true ∧ 2 ≤ k
  tr : s.tr = true → s.c.hot = false ∧ (∀ e ∈ s.fnsH, Kept W true e ∧ e.k ≤ k) ∧ PySem.W.exmOne W.K (.ref W.C) (.ref W.C) = some true
theorem gl_of {s : SCfg} {x : Str} {sc : Scope} (h : glB s.c x = true) (e : s.c.sc = sc) : sc.names.lookup x = some .globalImplicit := by
  unfold glB at h
  rw [← e]
  split at h
  · assumption
  · cases h
theorem scokC {s : SCfg} {k : Nat} {st : Stmt} {ps : List Str} {qual : Str} {f : Addr} {cdv : Value} {A : Around} {outer : List Env} {s0 : Shared} {H : Hp} {E : XK} {b : Bs} (d : DefOk W s hot k st ps) (hh : hot = false) (bP : b.P = W.P) (bw : b.w = W.w) (bC : b.C = W.C)
    (tk : L2N.Takes (cxOf (CXn W.P W.w) W.P W.w W.K W.mg W.base s.c.N qual (defScope st) f cdv A outer s0 H E) b.W) (hr : Room k (A.deeper (envOfC qual (defScope st) s0.heap.objs.size f cdv))) :
    Scok b s (cxOf (CXn W.P W.w) W.P W.w W.K W.mg W.base s.c.N qual (defScope st) f cdv A outer s0 H E) where
  k := ⟨bP, bw, rfl, d.S.nd, d.sc.symm, d.fn.symm, ⟨k, ⟨fun _ => ⟨hr, rfl⟩, fun z => (by rw [d.ht, hh] at z; cases z)⟩, fun e he => by rw [d.ht, bC]; exact FeOk_of rfl rfl rfl rfl rfl (d.fns e he).1 (d.fns e he).2⟩, fun _ => rfl, d.bl, fun σ => L2N.passAt tk σ,
    fun z => ⟨fun b' h1 h2 h3 h4 => d.num z b' _ (h1.trans bP) (h2.trans bw) rfl rfl rfl rfl rfl ⟨fun _ => ⟨hr, rfl⟩, fun z => (by rw [hh] at z; cases z)⟩, d.num z b _ bP bw rfl rfl rfl rfl rfl ⟨fun _ => ⟨hr, rfl⟩, fun z => (by rw [hh] at z; cases z)⟩⟩⟩
  po := fun _ => passes_of rfl
  ex := fun x hx _ => ⟨by rw [bC]; exact (d.exc x hx).1.rs _ rfl rfl rfl rfl rfl ⟨k - 2, by have z := (d.exc x hx).2.2; rw [show k - 2 + 2 = k by omega]; exact hr⟩ (gl_of (d.exc x hx).2.1 d.sc), tk⟩
  tr := fun z => ⟨(d.tr z).1, rfl, rfl, fun x hx => ⟨gl_of (d.exc x hx).2.1 d.sc, (d.exc x hx).1.dbg, .inl (by rw [bC]; exact (d.exc x hx).1.mgC)⟩, L2H.passesAt_of rfl, by rw [bC]; exact (d.tr z).2.2, k, hr, fun e he => by rw [bC]; exact FeOk_of rfl rfl rfl rfl rfl ((d.tr z).2.1 e he).1 ((d.tr z).2.1 e he).2⟩
theorem scokH {s : SCfg} {k : Nat} {st : Stmt} {ps : List Str} {qual : Str} {f : Addr} {cdv : Value} {A : Around} {outer : List Env} {s0 : Shared} {H : Hp} {E : XK} {p : Addr × Obj} {b : Bs} (d : DefOk W s hot k st ps) (hh : hot = true) (bP : b.P = W.P) (bw : b.w = W.w) (bC : b.C = W.C)
    (tk : ∀ c d σ H, ¬ b.W c d σ H) (hot1 : L2H.Hot1 A p) (hr : RoomH k (A.deeper (envOfC qual (defScope st) s0.heap.objs.size f cdv))) :
    Scok b s (L2H.cxH (CXn W.P W.w) W.P W.w W.K W.mg W.base s.c.N qual (defScope st) f cdv A outer s0 H E p) := by
  have hc : HotC (L2H.cxH (CXn W.P W.w) W.P W.w W.K W.mg W.base s.c.N qual (defScope st) f cdv A outer s0 H E p) := ⟨p, hot1, List.mem_singleton.mpr rfl⟩
  exact
    { k := ⟨bP, bw, rfl, d.S.nd, d.sc.symm, d.fn.symm, ⟨k, ⟨fun z => (by rw [d.ht, hh] at z; cases z), fun _ => ⟨hr, hc⟩⟩, fun e he => by rw [d.ht, bC]; exact FeOk_of rfl rfl rfl rfl rfl (d.fns e he).1 (d.fns e he).2⟩, fun z => (by have z := d.l2 z; rw [hh] at z; cases z), d.bl,
        fun σ pins H s e s' I ⟨_, _, _, _, _, _, _, _, _, _, _, _, w⟩ => (tk _ _ _ _ w).elim,
        fun z => ⟨fun b' h1 h2 h3 h4 => d.num z b' _ (h1.trans bP) (h2.trans bw) rfl rfl rfl rfl rfl ⟨fun z => (by rw [hh] at z; cases z), fun _ => ⟨hr, hc⟩⟩, d.num z b _ bP bw rfl rfl rfl rfl rfl ⟨fun z => (by rw [hh] at z; cases z), fun _ => ⟨hr, hc⟩⟩⟩⟩
      po := fun _ => passes_of rfl
      ex := fun x hx z => by rw [d.ht, hh] at z; cases z
      tr := fun z => by have z := (d.tr z).1; rw [d.ht, hh] at z; cases z }
/-- a def's promise, by the reading of its body on data -/
theorem def_ok {s : SCfg} {k : Nat} {st : Stmt} {ps : List Str} {x qual : Str} {f : Addr} {fd : FuncData} {sp : FSp} (F : L2.Fun W.K x qual st f fd) (d : DefOk W s hot k st ps) (len : ∀ ds Pd Px, sp ds Pd Px → ds.length = ps.length)
    (vc : ∀ ds Pd Px, sp ds Pd Px → trB s (defBody st) (start0 s.c.N.length ds) (goal hot Pd Px)) : FnM hot W.P W.w W.K W.mg W.base (k + 1) f fd ps (spOf W.C sp) := by
  obtain ⟨oc, od, kV, doc, pm, an, cdv, ct, osl, rfl, lk, hcd⟩ := F.ex
  have hN : ps.length ≤ s.c.N.length := by have := congrArg List.length d.S.pre; rw [List.length_take] at this; omega
  have hl : ∀ vs H Q E, spOf W.C sp vs H Q E → vs.length = ps.length := fun vs H Q E ⟨ds, F, Pd, Px, h, _, r, _⟩ => by rw [r.length]; exact len ds Pd Px h
  have hk : s.c.sc.kind = .function := by rw [d.sc]; exact d.S.kind
  constructor
  · intro hh
    refine fn_of lk hcd d.S hl fun A outer s0 H vs Q E hr ⟨ds, F, Pd, Px, h, e, r, kq, kx⟩ => ?_
    let b : Bs := ⟨W.P, W.w, F, H, fun cls dd _ H' => E cls dd H', W.C⟩
    refine ⟨tSA b (trB s (defBody st)), trB_ok hk (scokC d hh rfl rfl rfl (L2N.takes_of rfl rfl rfl rfl) hr) _, ?_⟩
    exact ⟨_, _, F, vc ds Pd Px h, start_ok ⟨Ex.refl _, e, Ex.refl _, fun a h1 h2 => absurd h1 h2⟩ r (by rw [hl vs H Q E ⟨ds, F, Pd, Px, h, e, r, kq, kx⟩]; exact hN), body_goal rfl rfl (fun _ => rfl) kq kx⟩
  · intro hh
    refine L2H.fn_ofH lk hcd d.S hl fun A outer s0 H vs Q E p hot1 hr ⟨ds, F, Pd, Px, h, e, r, kq, kx⟩ => ?_
    let b : Bs := ⟨W.P, W.w, F, H, fun _ _ _ _ => False, W.C⟩
    refine ⟨tSA b (trB s (defBody st)), trB_ok hk (scokH d hh rfl rfl rfl (fun _ _ _ _ z => z) hot1 hr) _, ?_⟩
    exact ⟨_, _, F, vc ds Pd Px h, start_ok ⟨Ex.refl _, e, Ex.refl _, fun a h1 h2 => absurd h1 h2⟩ r (by rw [hl vs H Q E ⟨ds, F, Pd, Px, h, e, r, kq, kx⟩]; exact hN), body_goal rfl rfl (fun z => by rw [hh] at z; cases z) kq kx⟩
end
end Wd

/-! A17: number_of, which writes to what its caller owns; the exception's class. -/
namespace Wd
open PySem PySem.Spec PyProof.Rows L2 HotX
open L2H (HotC TurnH PIH PIEH RoomH FnH)
open Evl (Ex Ex.refl Ex.trans Ex.new Ex.mut fresh_back)

/-- what number_of answers, and leaves of the list and the dict -/
def numV (ds : List D) (kvs : Kvs) (k : NestedKey) : D := match dlook kvs k with
  | some v => v
  | none => .int ds.length
def numL (ds : List D) (kvs : Kvs) (k : NestedKey) (x : D) : List D := match dlook kvs k with
  | some _ => ds
  | none => ds ++ [x]
def numD (ds : List D) (kvs : Kvs) (k : NestedKey) : Kvs := match dlook kvs k with
  | some _ => kvs
  | none => dput kvs k (.int ds.length)
def spNum (P : Program) (w : World) : Sp := fun vs H Q _ => ∃ (b : Bs) (v : V) (x : D) (l : Addr) (ds : List D) (m : Addr) (kvs : Kvs) (k : NestedKey) (F : Hp), b.P = P ∧ b.w = w ∧ vs = [v, .ref l, .ref m] ∧ l ≠ m ∧ Ex F H ∧ F l = none ∧ F m = none ∧ Rep F v x ∧ keyOf true x = some k ∧
  ds.length ≤ 1000000 ∧ kvs.length ≤ 1000000 ∧ OwnOk b F H l (.lst ds) ∧ OwnOk b F H m (.dct true kvs) ∧
  ∀ u F' H', Ex F F' → Ex F' H' → (∀ a o, a ≠ l → a ≠ m → H a = some o → H' a = some o) → (∀ a, F a = none → F' a ≠ none → a ≠ l ∧ a ≠ m ∧ H a = none) →
    OwnOk b F' H' l (.lst (numL ds kvs k x)) → OwnOk b F' H' m (.dct true (numD ds kvs k)) → Rep F' u (numV ds kvs k) → Q u H'
theorem setSame {G : Gm} {i : Nat} {s : Slot} (h : G[i]? = some s) : G.set i s = G := by
  obtain ⟨h1, h2⟩ := List.getElem?_eq_some_iff.mp h
  subst h2
  exact List.set_getElem_self h1
section
variable {b : Bs} {F H F' H' : Hp} {G : Gm} {σ : L2.St} {i j : Nat} {l m : Addr} {o1 o2 o1' o2' : Own}
theorem EnvOk.two (h : EnvOk b F H G σ) (hi : G[i]? = some (.ow l o1)) (hj : G[j]? = some (.ow m o2)) (hij : i ≠ j) (e : Ex F F') (fh : Ex F' H') (st : ∀ a o, a ≠ l → a ≠ m → H a = some o → H' a = some o) (nw : ∀ a, F a = none → F' a ≠ none → a ≠ l ∧ a ≠ m ∧ H a = none)
    (k1 : OwnOk b F' H' l o1') (k2 : OwnOk b F' H' m o2') : EnvOk b F' H' ((G.set i (.ow l o1')).set j (.ow m o2')) σ := by
  have li := h.slot i _ hi
  have lj := h.slot j _ hj
  have F'l : F' l = none := by
    cases z : F' l with
    | none => rfl
    | some u => exact absurd rfl (nw l li.2.1 (by rw [z]; exact fun z => nomatch z)).1
  have F'm : F' m = none := by
    cases z : F' m with
    | none => rfl
    | some u => exact absurd rfl (nw m lj.2.1 (by rw [z]; exact fun z => nomatch z)).2.1
  refine ⟨⟨h.base.f0.trans e, fh, fun a o q => ?_, fun a p q => ?_⟩, by rw [List.length_set, List.length_set, h.len], fun n s hn => ?_, fun n n' l1 p1 l2 p2 h1 h2 ne => ?_⟩
  · exact st a o (fun z => by rw [z, li.2.2.1] at q; cases q) (fun z => by rw [z, lj.2.2.1] at q; cases q) (h.base.h0 a o q)
  · by_cases z : F a = none
    · exact fresh_back h.base.h0 (nw a z q).2.2
    · exact h.base.new a p z
  · rcases getSet hn with ⟨rfl, rfl⟩ | ⟨ne, hn⟩
    · exact ⟨lj.1, F'm, lj.2.2.1, k2⟩
    · rcases getSet hn with ⟨rfl, rfl⟩ | ⟨ne2, hn⟩
      · exact ⟨li.1, F'l, li.2.2.1, k1⟩
      · have q := h.slot n s hn
        cases s with
        | un => trivial
        | im d => obtain ⟨v, e1, r⟩ := q; exact ⟨v, e1, r.mono e⟩
        | ow l' o =>
          obtain ⟨e1, e2, e3, e4⟩ := q
          have nl : l' ≠ l := h.ap n i l' o l o1 hn hi ne2
          have nm : l' ≠ m := h.ap n j l' o m o2 hn hj ne
          refine ⟨e1, ?_, e3, e4.mono e fun u z => st _ _ nl nm z⟩
          cases z : F' l' with
          | none => rfl
          | some u =>
            obtain ⟨u', hu⟩ := e4.there
            have := (nw l' e2 (by rw [z]; exact fun z => nomatch z)).2.2
            rw [hu] at this; cases this
  · have old : ∀ {n : Nat} {l1 : Addr} {p1 : Own}, ((G.set i (.ow l o1')).set j (.ow m o2'))[n]? = some (.ow l1 p1) → ∃ p, G[n]? = some (.ow l1 p) := fun {n l1 p1} hn => by
      rcases getSet hn with ⟨rfl, q⟩ | ⟨_, hn⟩
      · cases q; exact ⟨_, hj⟩
      · rcases getSet hn with ⟨rfl, q⟩ | ⟨_, hn⟩
        · cases q; exact ⟨_, hi⟩
        · exact ⟨_, hn⟩
    obtain ⟨q1, z1⟩ := old h1
    obtain ⟨q2, z2⟩ := old h2
    exact h.ap n n' l1 q1 l2 q2 z1 z2 ne
theorem num_imp {E : L2.St → XK} {ma : Sm} {H : Hp} {Q : VK} (hij : i ≠ j) (q : tA b (eNum ma i j) σ H Q) : tCallS (spNum b.P b.w) E (tCons (tA b ma) (tCons (tVar i) (tCons (tVar j) tNil))) σ H Q := by
  obtain ⟨G, P, E, F, h, env, k, ke⟩ := q
  refine ⟨G, _, E, F, h, env, fun v x G1 F1 H1 h1 e1 env1 r1 => ?_, ke⟩
  dsimp only at h1
  split at h1
  · rename_i l ds m kvs hi hj
    split at h1
    · rename_i kk hk
      have li := env1.slot i _ hi
      have lj := env1.slot j _ hj
      have main : ds.length ≤ 1000000 ∧ kvs.length ≤ 1000000 → P (numV ds kvs kk) ((G1.set i (.ow l (.lst (numL ds kvs kk x)))).set j (.ow m (.dct true (numD ds kvs kk)))) → (tCons (tVar i) (tCons (tVar j) tNil)) σ H1 fun vs H1 => spNum b.P b.w (v :: vs) H1 Q (fun _ _ _ => True) := fun hz hp => by
        refine ⟨_, li.1, _, lj.1, b, v, x, l, ds, m, kvs, kk, F1, rfl, rfl, rfl, env1.ap i j _ _ _ _ hi hj hij, env1.base.fh, li.2.1, lj.2.1, r1, hk, hz.1, hz.2, li.2.2.2, lj.2.2.2, fun u F' H' f1 f2 f3 f4 k1 k2 ru => ?_⟩
        exact k u _ _ F' H' hp (e1.trans f1) (env1.two hi hj hij f1 f2 f3 f4 k1 k2) ru
      split at h1
      · rename_i d hd
        have hp : P (numV ds kvs kk) ((G1.set i (.ow l (.lst (numL ds kvs kk x)))).set j (.ow m (.dct true (numD ds kvs kk)))) := by
          unfold numV numL numD
          rw [hd]
          dsimp only
          rw [setSame hi, setSame hj]
          exact h1.2
        exact main h1.1 hp
      · rename_i hd
        have hp : P (numV ds kvs kk) ((G1.set i (.ow l (.lst (numL ds kvs kk x)))).set j (.ow m (.dct true (numD ds kvs kk)))) := by
          unfold numV numL numD
          rw [hd]
          exact h1.2
        exact main h1.1 hp
    · exact h1.elim
  · exact h1.elim
end
section
variable {W : Wl} {hot : Bool}
theorem numK_of {f : Addr} {fd : FuncData} {ps : List Str} {j k : Nat} (hm : W.mg "number_of" = some (.ref f)) (hk : PySem.W.keepIn W.K (.ref f) = true) (hb : Binds W.K fd ps []) (F : FnM hot W.P W.w W.K W.mg W.base j f fd ps (spNum W.P W.w)) (hj : j ≤ k) : NumK W hot k := by
  intro b X bP bw h1 h2 h3 h4 h5 rm a x y p p1 p2 pos m i i2 ha hx hy hs hne hg
  have sp : ∀ {σ : L2.St} {H : Hp} {Q : VK}, tA b (eNum m i i2) σ H Q → tCallS (spNum X.prog X.w) (fun _ _ _ _ => False) (tCons (tA b m) (tCons (tVar i) (tCons (tVar i2) tNil))) σ H Q := fun {σ H Q} q => by
    have z := num_imp (E := fun _ _ _ _ => False) hne q
    rw [bP, bw, ← h1, ← h2] at z
    exact z
  have px : ∀ σ, PassesAt (CXn X.prog X.w) X σ (fun _ _ _ => False) := fun σ pins H s e s' I ⟨_, _, _, _, _, _, _, _, _, _, _, _, w⟩ => w.elim
  have pa : PA X [a, .Name x p1, .Name y p2] (tCons (tA b m) (tCons (tVar i) (tCons (tVar i2) tNil))) := pa_cons ha (pa_cons hx (pa_cons hy pa_nil)) (nstar_ok hs _ _)
  rw [← h1, ← h2, ← h3, ← h4, ← h5] at F
  rw [← h3] at hk hb
  rw [← h4] at hm
  cases hot with
  | false => exact (pe_callS (E := fun _ => fun _ _ _ => False) (F.c rfl) ((rm.c rfl).1.mono hj) hg hm hk hb px pa (by decide) (nstar_ok hs _ _) (plain_star rfl)).imp fun σ H Q q => sp q
  | true => exact (L2H.pe_callH (E := fun _ => fun _ _ _ => False) (F.h rfl) ((rm.h rfl).1.mono hj) (rm.h rfl).2 hg hm hk hb px pa (by decide) (nstar_ok hs _ _) (plain_star rfl)).imp fun σ H Q q => sp q
/-- what number_of's body must come to -/
def goalN (l : Addr) (ds : List D) (m : Addr) (kvs : Kvs) (k : NestedKey) (x : D) : Out → Prop
  | .rt d G => d = numV ds kvs k ∧ G[1]? = some (.ow l (.lst (numL ds kvs k x))) ∧ G[2]? = some (.ow m (.dct true (numD ds kvs k)))
  | _ => False
abbrev numN : List Str := ["pair", "pairs", "numbers"]
def without (H : Hp) (l m : Addr) : Hp := fun a => if a = l ∨ a = m then none else H a
theorem numB {P : Program} {w : World} {C : Addr} {F H : Hp} {vs : List V} {Q : VK} {E : XK} (h : spNum P w vs H Q E) :
    ∃ (b : Bs) (x : D) (l : Addr) (ds : List D) (m : Addr) (kvs : Kvs) (k : NestedKey) (F : Hp), b.P = P ∧ b.w = w ∧ b.C = C ∧ (∀ c d σ H, ¬ b.W c d σ H) ∧ keyOf true x = some k ∧ ds.length ≤ 1000000 ∧ kvs.length ≤ 1000000 ∧
      EnvOk b F H [.im x, .ow l (.lst ds), .ow m (.dct true kvs)] (L2.start numN vs) ∧ KS b F (goalN l ds m kvs k x) { nx := fun _ H' => Q .non H', rt := Q } := by
  obtain ⟨b0, v, x, l, ds, m, kvs, k, F, bP, bw, rfl, hlm, e, fl, fm, rv, hk, z1, z2, o1, o2, kq⟩ := h
  let b : Bs := ⟨P, w, F, without H l m, fun _ _ _ _ => False, C⟩
  have wl : without H l m l = none := if_pos (.inl rfl)
  have wm : without H l m m = none := if_pos (.inr rfl)
  have wo : ∀ {a}, a ≠ l → a ≠ m → without H l m a = H a := fun {a} h1 h2 => if_neg (fun z => z.elim h1 h2)
  have hB : BaseOk b F H := ⟨Ex.refl _, e, fun a o q => by
    by_cases h1 : a = l
    · rw [h1] at q; exact absurd (wl.symm.trans q) (fun z => nomatch z)
    · by_cases h2 : a = m
      · rw [h2] at q; exact absurd (wm.symm.trans q) (fun z => nomatch z)
      · exact (wo h1 h2).symm.trans q, fun a h1 h2 => absurd h1 h2⟩
  refine ⟨b, x, l, ds, m, kvs, k, F, rfl, rfl, rfl, fun _ _ _ _ z => z, hk, z1, z2, ⟨hB, rfl, fun i s hi => ?_, fun i j l1 p1 l2 p2 h1 h2 ne => ?_⟩, ?_⟩
  · match i, hi with
    | 0, hi => cases hi; exact ⟨v, rfl, rv⟩
    | 1, hi => cases hi; exact ⟨rfl, fl, wl, o1.cast (by rw [bP]) (by rw [bw])⟩
    | 2, hi => cases hi; exact ⟨rfl, fm, wm, o2.cast (by rw [bP]) (by rw [bw])⟩
    | n + 3, hi => cases hi
  · match i, j, h1, h2 with
    | 1, 2, h1, h2 => cases h1; cases h2; exact hlm
    | 2, 1, h1, h2 => cases h1; cases h2; exact Ne.symm hlm
    | 1, 1, h1, h2 => exact absurd rfl ne
    | 2, 2, h1, h2 => exact absurd rfl ne
    | 0, _, h1, _ => cases h1
    | _, 0, _, h2 => cases h2
    | n + 3, _, h1, _ => cases h1
    | _, n + 3, _, h2 => cases h2
  · refine ⟨fun G F' H' σ' p x en => False.elim p, fun G F' H' σ' p x en => False.elim p, fun G F' H' σ' p x en => False.elim p, fun d G v F' H' σ' p x en r => ?_, fun G F' H' σ' dd p x en => False.elim p⟩
    obtain ⟨rfl, g1, g2⟩ := p
    obtain ⟨_, _, _, q1⟩ := en.slot 1 _ g1
    obtain ⟨_, _, _, q2⟩ := en.slot 2 _ g2
    have f1 := (en.slot 1 _ g1).2.1
    have f2 := (en.slot 2 _ g2).2.1
    refine kq v F' H' x en.base.fh (fun a o h1 h2 z => en.base.h0 a o ((wo h1 h2).trans z)) (fun a h1 h2 => ?_) (q1.cast (by rw [bP]) (by rw [bw])) (q2.cast (by rw [bP]) (by rw [bw])) r
    have h3 : a ≠ l := fun z => h2 (by rw [z]; exact f1)
    have h4 : a ≠ m := fun z => h2 (by rw [z]; exact f2)
    exact ⟨h3, h4, (wo h3 h4).symm.trans (en.base.new a h1 h2)⟩
theorem num_ok {s : SCfg} {k : Nat} {st : Stmt} {x qual : Str} {f : Addr} {fd : FuncData} (F : L2.Fun W.K x qual st f fd) (d : DefOk W s hot k st numN) (hN : s.c.N = numN)
    (vc : ∀ (x : D) (l : Addr) (ds : List D) (m : Addr) (kvs : Kvs) (k : NestedKey), keyOf true x = some k → ds.length ≤ 1000000 → kvs.length ≤ 1000000 → trB s (defBody st) [.im x, .ow l (.lst ds), .ow m (.dct true kvs)] (goalN l ds m kvs k x)) :
    FnM hot W.P W.w W.K W.mg W.base (k + 1) f fd numN (spNum W.P W.w) := by
  obtain ⟨oc, od, kV, doc, pm, an, cdv, ct, osl, rfl, lk, hcd⟩ := F.ex
  have hl : ∀ vs H Q E, spNum W.P W.w vs H Q E → vs.length = numN.length := fun vs H Q E ⟨_, _, _, _, _, _, _, _, _, _, _, e, _⟩ => by rw [e]; rfl
  have hk : s.c.sc.kind = .function := by rw [d.sc]; exact d.S.kind
  constructor
  · intro hh
    refine fn_of lk hcd d.S hl fun A outer s0 H vs Q E hr h => ?_
    obtain ⟨b, x, l, ds, m, kvs, kk, F, b1, b2, b3, b4, h1, h2, h3, en, ks⟩ := numB (C := W.C) (F := H) h
    rw [hN]
    refine ⟨tSA b (trB s (defBody st)), trB_ok hk (by rw [← hN]; exact scokC d hh b1 b2 b3 (fun u s' ⟨_, _, _, _, _, _, _, _, _, _, _, _, _, _, _, _, w⟩ => (b4 _ _ _ _ w).elim) hr) _, ?_⟩
    exact ⟨_, _, F, vc x l ds m kvs kk h1 h2 h3, en, ks⟩
  · intro hh
    refine L2H.fn_ofH lk hcd d.S hl fun A outer s0 H vs Q E p hot1 hr h => ?_
    obtain ⟨b, x, l, ds, m, kvs, kk, F, b1, b2, b3, b4, h1, h2, h3, en, ks⟩ := numB (C := W.C) (F := H) h
    rw [hN]
    refine ⟨tSA b (trB s (defBody st)), trB_ok hk (by rw [← hN]; exact scokH d hh b1 b2 b3 b4 hot1 hr) _, ?_⟩
    exact ⟨_, _, F, vc x l ds m kvs kk h1 h2 h3, en, ks⟩
end
end Wd

/-! B1: the defs of the text as combinators (printed by gen.py). -/
namespace Wd
open PySem PySem.Spec PyProof.Rows L2 HotX
def top (i : Nat) : Stmt := PySem.Challenge.pw_wardens_k47_whole_monitor_is_the_judge.main.body.getD i (.Pass ⟨0, 0, 0, 0⟩)
def blts : List Str := ["len", "tuple", "list", "range", "sum", "max", "min", "int", "abs", "str", "sorted", "isinstance", "bool"]

abbrev s_combined : Stmt := top 4
def n_combined : List Str := ["kind", "left", "right"]
def a_combined : List Str := ["kind", "left", "right"]
def ir_combined : Ss := (sSeq (sIf (tCmp .Eq (eVar 0) (eC (.str "add"))) (sRet (eBin .Add (eVar 1) (eVar 2))) sNop) (sSeq (sIf (tCmp .Eq (eVar 0) (eC (.str "sub"))) (sRet (eBin .Sub (eVar 1) (eVar 2))) sNop) (sSeq (sIf (tCmp .Eq (eVar 0) (eC (.str "mul"))) (sRet (eBin .Mult (eVar 1) (eVar 2))) sNop) (sSeq (sIf (tCmp .Eq (eVar 0) (eC (.str "min"))) (sRet (eMin2 (eVar 1) (eVar 2))) sNop) (sRet (eMax2 (eVar 1) (eVar 2)))))))
def cf_combined (fns fnsH : List FE) : SCfg := { c := { N := n_combined, sc := defScope s_combined, fn := fun _ => true, hot := false, l2 := true, num := false, bl := blts, fns := fns }, exc := none, loops := true, tr := false, fnsH := fnsH }
theorem tr_combined : trB (cf_combined [] []) (defBody s_combined) = ir_combined  := by kernel_rfl

abbrev s_value_of : Stmt := top 5
def n_value_of : List Str := ["term", "values", "kind"]
def a_value_of : List Str := ["term", "values"]
def ir_value_of (pcombined pvalue_of : FSp) : Ss := (sSeq (sAsg 2 (eIxN 0 (eC (.int 0)))) (sSeq (sIf (tCmp .Eq (eVar 2) (eC (.str "num"))) (sRet (eIxN 0 (eC (.int 1)))) sNop) (sSeq (sIf (tCmp .Eq (eVar 2) (eC (.str "var"))) (sRet (eIxN 1 (eIxN 0 (eC (.int 1))))) sNop) (sSeq (sIf (tCmp .Eq (eVar 2) (eC (.str "neg"))) (sRet (eNeg (eCall pvalue_of (aCons (eIxN 0 (eC (.int 1))) (aCons (eVar 1) aNil))))) sNop) (sRet (eCall pcombined (aCons (eVar 2) (aCons (eCall pvalue_of (aCons (eIxN 0 (eC (.int 1))) (aCons (eVar 1) aNil))) (aCons (eCall pvalue_of (aCons (eIxN 0 (eC (.int 2))) (aCons (eVar 1) aNil))) aNil)))))))))
def cf_value_of (fns fnsH : List FE) : SCfg := { c := { N := n_value_of, sc := defScope s_value_of, fn := fun _ => true, hot := false, l2 := true, num := false, bl := blts, fns := fns }, exc := none, loops := true, tr := false, fnsH := fnsH }
theorem tr_value_of (kcombined kvalue_of : Nat) (pcombined pvalue_of : FSp) : trB (cf_value_of [⟨"combined", kcombined, pcombined⟩, ⟨"value_of", kvalue_of, pvalue_of⟩] []) (defBody s_value_of) = ir_value_of pcombined pvalue_of := by kernel_rfl

def irH_value_of (pcombined pvalue_of : FSp) : Ss := (sSeq (sAsg 2 (eIxN 0 (eC (.int 0)))) (sSeq (sIf (tCmp .Eq (eVar 2) (eC (.str "num"))) (sRet (eIxN 0 (eC (.int 1)))) sNop) (sSeq (sIf (tCmp .Eq (eVar 2) (eC (.str "var"))) (sRet (eIxN 1 (eIxN 0 (eC (.int 1))))) sNop) (sSeq (sIf (tCmp .Eq (eVar 2) (eC (.str "neg"))) (sRet (eNeg (eCall pvalue_of (aCons (eIxN 0 (eC (.int 1))) (aCons (eVar 1) aNil))))) sNop) (sRet (eCall pcombined (aCons (eVar 2) (aCons (eCall pvalue_of (aCons (eIxN 0 (eC (.int 1))) (aCons (eVar 1) aNil))) (aCons (eCall pvalue_of (aCons (eIxN 0 (eC (.int 2))) (aCons (eVar 1) aNil))) aNil)))))))))
def cfH_value_of (fns fnsH : List FE) : SCfg := { c := { N := n_value_of, sc := defScope s_value_of, fn := fun _ => true, hot := true, l2 := false, num := false, bl := blts, fns := fns }, exc := none, loops := true, tr := false, fnsH := fnsH }
theorem trH_value_of (kcombined kvalue_of : Nat) (pcombined pvalue_of : FSp) : trB (cfH_value_of [⟨"combined", kcombined, pcombined⟩, ⟨"value_of", kvalue_of, pvalue_of⟩] []) (defBody s_value_of) = irH_value_of pcombined pvalue_of := by kernel_rfl

abbrev s_is_true : Stmt := top 6
def n_is_true : List Str := ["condition", "values", "kind", "left", "right"]
def a_is_true : List Str := ["condition", "values"]
def ir_is_true (pvalue_of pis_true : FSp) : Ss := (sSeq (sAsg 2 (eIxN 0 (eC (.int 0)))) (sSeq (sIf (tOrM (tCmp .Eq (eVar 2) (eC (.str "true"))) (tCmp .Eq (eVar 2) (eC (.str "false")))) (sRet (eT (tCmp .Eq (eVar 2) (eC (.str "true"))))) sNop) (sSeq (sIf (tCmp .Eq (eVar 2) (eC (.str "not"))) (sRet (eNot (eCall pis_true (aCons (eIxN 0 (eC (.int 1))) (aCons (eVar 1) aNil))))) sNop) (sSeq (sIf (tCmp .Eq (eVar 2) (eC (.str "and"))) (sRet (eAnd (eCall pis_true (aCons (eIxN 0 (eC (.int 1))) (aCons (eVar 1) aNil))) (eCall pis_true (aCons (eIxN 0 (eC (.int 2))) (aCons (eVar 1) aNil))))) sNop) (sSeq (sIf (tCmp .Eq (eVar 2) (eC (.str "or"))) (sRet (eOr (eCall pis_true (aCons (eIxN 0 (eC (.int 1))) (aCons (eVar 1) aNil))) (eCall pis_true (aCons (eIxN 0 (eC (.int 2))) (aCons (eVar 1) aNil))))) sNop) (sSeq (sAsg 3 (eCall pvalue_of (aCons (eIxN 0 (eC (.int 1))) (aCons (eVar 1) aNil)))) (sSeq (sAsg 4 (eCall pvalue_of (aCons (eIxN 0 (eC (.int 2))) (aCons (eVar 1) aNil)))) (sSeq (sIf (tCmp .Eq (eVar 2) (eC (.str "less"))) (sRet (eT (tCmp .Lt (eVar 3) (eVar 4)))) sNop) (sRet (eT (tCmp .Eq (eVar 3) (eVar 4))))))))))))
def cf_is_true (fns fnsH : List FE) : SCfg := { c := { N := n_is_true, sc := defScope s_is_true, fn := fun _ => true, hot := false, l2 := true, num := false, bl := blts, fns := fns }, exc := none, loops := true, tr := false, fnsH := fnsH }
theorem tr_is_true (kvalue_of kis_true : Nat) (pvalue_of pis_true : FSp) : trB (cf_is_true [⟨"value_of", kvalue_of, pvalue_of⟩, ⟨"is_true", kis_true, pis_true⟩] []) (defBody s_is_true) = ir_is_true pvalue_of pis_true := by kernel_rfl

def irH_is_true (pvalue_of pis_true : FSp) : Ss := (sSeq (sAsg 2 (eIxN 0 (eC (.int 0)))) (sSeq (sIf (tOrM (tCmp .Eq (eVar 2) (eC (.str "true"))) (tCmp .Eq (eVar 2) (eC (.str "false")))) (sRet (eT (tCmp .Eq (eVar 2) (eC (.str "true"))))) sNop) (sSeq (sIf (tCmp .Eq (eVar 2) (eC (.str "not"))) (sRet (eNot (eCall pis_true (aCons (eIxN 0 (eC (.int 1))) (aCons (eVar 1) aNil))))) sNop) (sSeq (sIf (tCmp .Eq (eVar 2) (eC (.str "and"))) (sRet (eAnd (eCall pis_true (aCons (eIxN 0 (eC (.int 1))) (aCons (eVar 1) aNil))) (eCall pis_true (aCons (eIxN 0 (eC (.int 2))) (aCons (eVar 1) aNil))))) sNop) (sSeq (sIf (tCmp .Eq (eVar 2) (eC (.str "or"))) (sRet (eOr (eCall pis_true (aCons (eIxN 0 (eC (.int 1))) (aCons (eVar 1) aNil))) (eCall pis_true (aCons (eIxN 0 (eC (.int 2))) (aCons (eVar 1) aNil))))) sNop) (sSeq (sAsg 3 (eCall pvalue_of (aCons (eIxN 0 (eC (.int 1))) (aCons (eVar 1) aNil)))) (sSeq (sAsg 4 (eCall pvalue_of (aCons (eIxN 0 (eC (.int 2))) (aCons (eVar 1) aNil)))) (sSeq (sIf (tCmp .Eq (eVar 2) (eC (.str "less"))) (sRet (eT (tCmp .Lt (eVar 3) (eVar 4)))) sNop) (sRet (eT (tCmp .Eq (eVar 3) (eVar 4))))))))))))
def cfH_is_true (fns fnsH : List FE) : SCfg := { c := { N := n_is_true, sc := defScope s_is_true, fn := fun _ => true, hot := true, l2 := false, num := false, bl := blts, fns := fns }, exc := none, loops := true, tr := false, fnsH := fnsH }
theorem trH_is_true (kvalue_of kis_true : Nat) (pvalue_of pis_true : FSp) : trB (cfH_is_true [⟨"value_of", kvalue_of, pvalue_of⟩, ⟨"is_true", kis_true, pis_true⟩] []) (defBody s_is_true) = irH_is_true pvalue_of pis_true := by kernel_rfl

abbrev s_can_show : Stmt := top 8
def n_can_show : List Str := ["plant", "values", "reading", "k", "sensor"]
def a_can_show : List Str := ["plant", "values", "reading"]
def ir_can_show (pvalue_of : FSp) : Ss := (sSeq (sIf (tCmp .NotEq (eLenN 2) (eLen (eIxN 0 (eC (.int 2))))) (sRet (eC (.bool false))) sNop) (sSeq (sFor 3 (iR1 (eLenN 2)) (sSeq (sAsg 4 (eIx (eIxN 0 (eC (.int 2))) (eVar 3))) (sIf (tCmp .Is (eIxN 2 (eVar 3)) (eC .none)) (sIf (tNotM (tV (eIxN 4 (eC (.int 3))))) (sRet (eC (.bool false))) sNop) (sIf (tCmp .Gt (eAbs (eBin .Sub (eIxN 2 (eVar 3)) (eCall pvalue_of (aCons (eIxN 4 (eC (.int 1))) (aCons (eVar 1) aNil))))) (eIxN 4 (eC (.int 2)))) (sRet (eC (.bool false))) sNop)))) (sRet (eC (.bool true)))))
def cf_can_show (fns fnsH : List FE) : SCfg := { c := { N := n_can_show, sc := defScope s_can_show, fn := fun _ => true, hot := false, l2 := true, num := false, bl := blts, fns := fns }, exc := none, loops := true, tr := false, fnsH := fnsH }
theorem tr_can_show (kvalue_of : Nat) (pvalue_of : FSp) : trB (cf_can_show [⟨"value_of", kvalue_of, pvalue_of⟩] []) (defBody s_can_show) = ir_can_show pvalue_of := by kernel_rfl

abbrev s_options_of : Stmt := top 9
def n_options_of : List Str := ["sensor", "values", "value", "shown"]
def a_options_of : List Str := ["sensor", "values"]
def ir_options_of (pvalue_of : FSp) : Ss := (sSeq (sAsg 2 (eCall pvalue_of (aCons (eIxN 0 (eC (.int 1))) (aCons (eVar 1) aNil)))) (sSeq (sAsgL 3 (eListR (eBin .Sub (eVar 2) (eIxN 0 (eC (.int 2)))) (eBin .Add (eBin .Add (eVar 2) (eIxN 0 (eC (.int 2)))) (eC (.int 1))))) (sSeq (sIf (tV (eIxN 0 (eC (.int 3)))) (sApp 3 (eC .none)) sNop) (sRet (eVar 3)))))
def cf_options_of (fns fnsH : List FE) : SCfg := { c := { N := n_options_of, sc := defScope s_options_of, fn := fun _ => true, hot := false, l2 := true, num := false, bl := blts, fns := fns }, exc := none, loops := true, tr := false, fnsH := fnsH }
theorem tr_options_of (kvalue_of : Nat) (pvalue_of : FSp) : trB (cf_options_of [⟨"value_of", kvalue_of, pvalue_of⟩] []) (defBody s_options_of) = ir_options_of pvalue_of := by kernel_rfl

abbrev s_count_readings : Stmt := top 10
def n_count_readings : List Str := ["plant", "values", "most", "many", "sensor"]
def a_count_readings : List Str := ["plant", "values", "most"]
def ir_count_readings : Ss := (sSeq (sAsg 3 (eC (.int 1))) (sSeq (sFor 4 (iOver (eIxN 0 (eC (.int 2)))) (sAsg 3 (eMin2 (eBin .Mult (eVar 3) (eBin .Add (eBin .Add (eBin .Mult (eC (.int 2)) (eIxN 4 (eC (.int 2)))) (eC (.int 1))) (eInt (eIxN 4 (eC (.int 3)))))) (eBin .Add (eVar 2) (eC (.int 1)))))) (sRet (eVar 3))))
def cf_count_readings (fns fnsH : List FE) : SCfg := { c := { N := n_count_readings, sc := defScope s_count_readings, fn := fun _ => true, hot := false, l2 := true, num := false, bl := blts, fns := fns }, exc := none, loops := true, tr := false, fnsH := fnsH }
theorem tr_count_readings : trB (cf_count_readings [] []) (defBody s_count_readings) = ir_count_readings  := by kernel_rfl

abbrev s_readings_at : Stmt := top 11
def n_readings_at : List Str := ["plant", "values", "rows", "sensor", "options", "row", "shown"]
def a_readings_at : List Str := ["plant", "values"]
def ir_readings_at (poptions_of : FSp) : Ss := (sSeq (sAsgL 2 (eLst (aCons (eTup aNil) aNil))) (sSeq (sFor 3 (iOver (eIxN 0 (eC (.int 2)))) (sSeq (sAsg 4 (eCall poptions_of (aCons (eVar 3) (aCons (eVar 1) aNil)))) (sAsg 2 (eLc2 (eBin .Add (eVar 5) (eTup (aCons (eVar 6) aNil))) 5 (iName 2) 6 (iName 4) [5, 6])))) (sRet (eVar 2))))
def cf_readings_at (fns fnsH : List FE) : SCfg := { c := { N := n_readings_at, sc := defScope s_readings_at, fn := fun _ => true, hot := false, l2 := true, num := false, bl := blts, fns := fns }, exc := none, loops := true, tr := false, fnsH := fnsH }
theorem tr_readings_at (koptions_of : Nat) (poptions_of : FSp) : trB (cf_readings_at [⟨"options_of", koptions_of, poptions_of⟩] []) (defBody s_readings_at) = ir_readings_at poptions_of := by kernel_rfl

abbrev s_possible_readings : Stmt := top 12
def n_possible_readings : List Str := ["plant", "machine", "most", "found", "known", "values", "reading"]
def a_possible_readings : List Str := ["plant", "machine", "most"]
def ir_possible_readings (pcount_readings preadings_at : FSp) : Ss := (sSeq (sAsgL 3 (eLst aNil)) (sSeq (sNewD 4) (sSeq (sFor 5 (iOver (eIxN 1 (eC (.int 0)))) (sSeq (sIf (tCmp .Gt (eCall pcount_readings (aCons (eVar 0) (aCons (eVar 5) (aCons (eVar 2) aNil)))) (eVar 2)) sRaise sNop) (sSeq (sFor 6 (iOver (eCall preadings_at (aCons (eVar 0) (aCons (eVar 5) aNil)))) (sIf (tNin (eVar 6) 4) (sSeq (sPut 4 (eVar 6) (eC (.bool true))) (sApp 3 (eVar 6))) sNop)) (sIf (tCmp .Gt (eLenN 3) (eVar 2)) sRaise sNop)))) (sRet (eVar 3)))))
def cf_possible_readings (fns fnsH : List FE) : SCfg := { c := { N := n_possible_readings, sc := defScope s_possible_readings, fn := fun _ => true, hot := false, l2 := true, num := false, bl := blts, fns := fns }, exc := some "TooMany", loops := true, tr := false, fnsH := fnsH }
theorem tr_possible_readings (kcount_readings kreadings_at : Nat) (pcount_readings preadings_at : FSp) : trB (cf_possible_readings [⟨"count_readings", kcount_readings, pcount_readings⟩, ⟨"readings_at", kreadings_at, preadings_at⟩] []) (defBody s_possible_readings) = ir_possible_readings pcount_readings preadings_at := by kernel_rfl

abbrev s_set_after : Stmt := top 14
def n_set_after : List Str := ["plant", "tracked", "members", "reading", "candidates", "fitting", "candidate", "member", "later"]
def a_set_after : List Str := ["plant", "tracked", "members", "reading"]
def ir_set_after (pcan_show : FSp) : Ss := (sSeq (sIf (tCmp .Is (eVar 2) (eC .none)) (sAsgL 4 (eList (eIxN 1 (eC (.int 1))))) (sAsg 4 (eLc2 (eVar 8) 7 (iName 2) 8 (iOver (eIx (eIxN 1 (eC (.int 2))) (eVar 7))) [7, 8]))) (sSeq (sNewD 5) (sSeq (sFor 6 (iName 4) (sIf (tAndM (tNin (eVar 6) 5) (tV (eCall pcan_show (aCons (eVar 0) (aCons (eIx (eIx (eIxN 1 (eC (.int 0))) (eVar 6)) (eC (.int 0))) (aCons (eVar 3) aNil)))))) (sPut 5 (eVar 6) (eC (.bool true))) sNop)) (sRet (eSorted (eKeysN 5))))))
def cf_set_after (fns fnsH : List FE) : SCfg := { c := { N := n_set_after, sc := defScope s_set_after, fn := fun _ => true, hot := false, l2 := true, num := false, bl := blts, fns := fns }, exc := none, loops := true, tr := false, fnsH := fnsH }
theorem tr_set_after (kcan_show : Nat) (pcan_show : FSp) : trB (cf_set_after [⟨"can_show", kcan_show, pcan_show⟩] []) (defBody s_set_after) = ir_set_after pcan_show := by kernel_rfl

abbrev s_verdict_of : Stmt := top 15
def n_verdict_of : List Str := ["tracked", "members", "many", "member"]
def a_verdict_of : List Str := ["tracked", "members"]
def ir_verdict_of : Ss := (sSeq (sIf (tOrM (tCmp .Is (eVar 1) (eC .none)) (tCmp .Eq (eLenN 1) (eC (.int 0)))) (sRet (eC (.str "impossible"))) sNop) (sSeq (sAsg 2 (eSum (eLc (eInt (eIx (eIxN 0 (eC (.int 3))) (eVar 3))) (.one 3) (iName 1) tTrue [3]))) (sSeq (sIf (tCmp .Eq (eVar 2) (eLenN 1)) (sRet (eC (.str "sure"))) sNop) (sSeq (sIf (tCmp .Eq (eVar 2) (eC (.int 0))) (sRet (eC (.str "never"))) sNop) (sRet (eC (.str "unknown")))))))
def cf_verdict_of (fns fnsH : List FE) : SCfg := { c := { N := n_verdict_of, sc := defScope s_verdict_of, fn := fun _ => true, hot := false, l2 := true, num := false, bl := blts, fns := fns }, exc := none, loops := true, tr := false, fnsH := fnsH }
theorem tr_verdict_of : trB (cf_verdict_of [] []) (defBody s_verdict_of) = ir_verdict_of  := by kernel_rfl

abbrev s_judge : Stmt := top 16
def n_judge : List Str := ["plant", "tracked", "row", "members", "reading"]
def a_judge : List Str := ["plant", "tracked", "row"]
def ir_judge (pset_after pverdict_of : FSp) : Ss := (sSeq (sAsg 3 (eC .none)) (sSeq (sFor 4 (iName 2) (sAsg 3 (eCall pset_after (aCons (eVar 0) (aCons (eVar 1) (aCons (eVar 3) (aCons (eVar 4) aNil))))))) (sRet (eCall pverdict_of (aCons (eVar 1) (aCons (eVar 3) aNil))))))
def cf_judge (fns fnsH : List FE) : SCfg := { c := { N := n_judge, sc := defScope s_judge, fn := fun _ => true, hot := false, l2 := true, num := false, bl := blts, fns := fns }, exc := none, loops := true, tr := false, fnsH := fnsH }
theorem tr_judge (kset_after kverdict_of : Nat) (pset_after pverdict_of : FSp) : trB (cf_judge [⟨"set_after", kset_after, pset_after⟩, ⟨"verdict_of", kverdict_of, pverdict_of⟩] []) (defBody s_judge) = ir_judge pset_after pverdict_of := by kernel_rfl

abbrev s_reached_nodes : Stmt := top 18
def n_reached_nodes : List Str := ["monitor", "nodes", "known", "place", "later"]
def a_reached_nodes : List Str := ["monitor"]
def ir_reached_nodes : Ss := (sSeq (sAsgL 1 (eLst (aCons (eIxN 0 (eC (.int 1))) aNil))) (sSeq (sNewD1 2 (eIxN 0 (eC (.int 1))) (eC (.bool true))) (sSeq (sAsg 3 (eC (.int 0))) (sSeq (sWhile (tCmp .Lt (eVar 3) (eLenN 1)) (sSeq (sFor 4 (iOver (eIx (eIxN 0 (eC (.int 3))) (eIxN 1 (eVar 3)))) (sIf (tNin (eVar 4) 2) (sSeq (sPut 2 (eVar 4) (eC (.bool true))) (sApp 1 (eVar 4))) sNop)) (sAug 3 (eC (.int 1))))) (sRet (eVar 1))))))
def cf_reached_nodes (fns fnsH : List FE) : SCfg := { c := { N := n_reached_nodes, sc := defScope s_reached_nodes, fn := fun _ => true, hot := false, l2 := true, num := false, bl := blts, fns := fns }, exc := none, loops := true, tr := false, fnsH := fnsH }
theorem tr_reached_nodes : trB (cf_reached_nodes [] []) (defBody s_reached_nodes) = ir_reached_nodes  := by kernel_rfl

abbrev s_grouped : Stmt := top 19
def n_grouped : List Str := ["keys", "numbers", "groups", "key"]
def a_grouped : List Str := ["keys"]
def ir_grouped : Ss := (sSeq (sNewD 1) (sSeq (sAsgL 2 (eLst aNil)) (sSeq (sFor 3 (iName 0) (sSeq (sIf (tNin (eVar 3) 1) (sPut 1 (eVar 3) (eLenN 1)) sNop) (sApp 2 (eIxN 1 (eVar 3))))) (sRet (eVar 2)))))
def cf_grouped (fns fnsH : List FE) : SCfg := { c := { N := n_grouped, sc := defScope s_grouped, fn := fun _ => true, hot := false, l2 := true, num := false, bl := blts, fns := fns }, exc := none, loops := true, tr := false, fnsH := fnsH }
theorem tr_grouped : trB (cf_grouped [] []) (defBody s_grouped) = ir_grouped  := by kernel_rfl

abbrev s_classes_of : Stmt := top 20
def n_classes_of : List Str := ["verdicts", "edges", "groups", "keys", "node", "finer", "later"]
def a_classes_of : List Str := ["verdicts", "edges"]
def ir_classes_of (pgrouped : FSp) : Ss := (sSeq (sAsg 2 (eCall pgrouped (aCons (eVar 0) aNil))) (sWhile (tV (eC (.bool true))) (sSeq (sAsgL 3 (eLst aNil)) (sSeq (sFor 4 (iR1 (eLenN 1)) (sApp 3 (eTup (aCons (eIxN 2 (eVar 4)) (aCons (eTuple (eLc (eIxN 2 (eVar 6)) (.one 6) (iOver (eIxN 1 (eVar 4))) tTrue [6])) aNil))))) (sSeq (sAsg 5 (eCall pgrouped (aCons (eVar 3) aNil))) (sSeq (sIf (tCmp .Eq (eMaxD (eVar 5)) (eMaxD (eVar 2))) (sRet (eVar 2)) sNop) (sAsg 2 (eVar 5))))))))
def cf_classes_of (fns fnsH : List FE) : SCfg := { c := { N := n_classes_of, sc := defScope s_classes_of, fn := fun _ => true, hot := false, l2 := true, num := false, bl := blts, fns := fns }, exc := none, loops := true, tr := false, fnsH := fnsH }
theorem tr_classes_of (kgrouped : Nat) (pgrouped : FSp) : trB (cf_classes_of [⟨"grouped", kgrouped, pgrouped⟩] []) (defBody s_classes_of) = ir_classes_of pgrouped := by kernel_rfl

abbrev s_reduce : Stmt := top 21
def n_reduce : List Str := ["monitor", "nodes", "places", "k", "edges", "groups", "members", "verdicts", "reduced", "later", "node"]
def a_reduce : List Str := ["monitor"]
def ir_reduce (preached_nodes pclasses_of : FSp) : Ss := (sSeq (sAsg 1 (eCall preached_nodes (aCons (eVar 0) aNil))) (sSeq (sNewD 2) (sSeq (sFor 3 (iR1 (eLenN 1)) (sPut 2 (eIxN 1 (eVar 3)) (eVar 3))) (sSeq (sAsg 4 (eLc (eTuple (eLc (eIxN 2 (eVar 9)) (.one 9) (iOver (eIx (eIxN 0 (eC (.int 3))) (eVar 10))) tTrue [9])) (.one 10) (iName 1) tTrue [10])) (sSeq (sAsg 5 (eCall pclasses_of (aCons (eLc (eIx (eIxN 0 (eC (.int 2))) (eVar 10)) (.one 10) (iName 1) tTrue [10]) (aCons (eVar 4) aNil)))) (sSeq (sAsgL 6 (eLst aNil)) (sSeq (sFor 3 (iR1 (eLenN 1)) (sIf (tCmp .Eq (eIxN 5 (eVar 3)) (eLenN 6)) (sApp 6 (eVar 3)) sNop)) (sSeq (sAsg 7 (eTuple (eLc (eIx (eIxN 0 (eC (.int 2))) (eIxN 1 (eVar 3))) (.one 3) (iName 6) tTrue [3]))) (sSeq (sAsg 8 (eTuple (eLc (eTuple (eLc (eIxN 5 (eVar 9)) (.one 9) (iOver (eIxN 4 (eVar 3))) tTrue [9])) (.one 3) (iName 6) tTrue [3]))) (sRet (eTup (aCons (eTuple (eIxN 0 (eC (.int 0)))) (aCons (eC (.int 0)) (aCons (eVar 7) (aCons (eVar 8) aNil)))))))))))))))
def cf_reduce (fns fnsH : List FE) : SCfg := { c := { N := n_reduce, sc := defScope s_reduce, fn := fun _ => true, hot := false, l2 := true, num := false, bl := blts, fns := fns }, exc := none, loops := true, tr := false, fnsH := fnsH }
theorem tr_reduce (kreached_nodes kclasses_of : Nat) (preached_nodes pclasses_of : FSp) : trB (cf_reduce [⟨"reached_nodes", kreached_nodes, preached_nodes⟩, ⟨"classes_of", kclasses_of, pclasses_of⟩] []) (defBody s_reduce) = ir_reduce preached_nodes pclasses_of := by kernel_rfl

abbrev s_build : Stmt := top 23
def n_build : List Str := ["plant", "tracked", "readings", "most", "sets", "numbers", "edges", "members", "row", "reading", "later", "verdicts"]
def a_build : List Str := ["plant", "tracked", "readings", "most"]
def ir_build (pset_after pverdict_of preduce : FSp) : Ss := (sSeq (sAsgL 4 (eLst (aCons (eC .none) aNil))) (sSeq (sNewD 5) (sSeq (sAsgL 6 (eLst aNil)) (sSeq (sWhile (tAndM (tCmp .Lt (eLenN 6) (eLenN 4)) (tCmp .LtE (eLenN 4) (eVar 3))) (sSeq (sAsg 7 (eIxN 4 (eLenN 6))) (sSeq (sAsgL 8 (eLst aNil)) (sSeq (sFor 9 (iName 2) (sSeq (sAsg 10 (eCall pset_after (aCons (eVar 0) (aCons (eVar 1) (aCons (eVar 7) (aCons (eVar 9) aNil)))))) (sSeq (sIf (tNin (eTupleN 10) 5) (sSeq (sPut 5 (eTupleN 10) (eLenN 4)) (sApp 4 (eVar 10))) sNop) (sApp 8 (eIxN 5 (eTupleN 10)))))) (sApp 6 (eTupleN 8)))))) (sSeq (sIf (tCmp .Gt (eLenN 4) (eVar 3)) sRaise sNop) (sSeq (sAsg 11 (eTuple (eLc (eCall pverdict_of (aCons (eVar 1) (aCons (eVar 7) aNil))) (.one 7) (iName 4) tTrue [7]))) (sRet (eCall preduce (aCons (eTup (aCons (eTupleN 2) (aCons (eC (.int 0)) (aCons (eVar 11) (aCons (eTupleN 6) aNil))))) aNil)))))))))
def cf_build (fns fnsH : List FE) : SCfg := { c := { N := n_build, sc := defScope s_build, fn := fun _ => true, hot := false, l2 := true, num := false, bl := blts, fns := fns }, exc := some "TooMany", loops := true, tr := false, fnsH := fnsH }
theorem tr_build (kset_after kverdict_of kreduce : Nat) (pset_after pverdict_of preduce : FSp) : trB (cf_build [⟨"set_after", kset_after, pset_after⟩, ⟨"verdict_of", kverdict_of, pverdict_of⟩, ⟨"reduce", kreduce, preduce⟩] []) (defBody s_build) = ir_build pset_after pverdict_of preduce := by kernel_rfl

abbrev s_says : Stmt := top 24
def n_says : List Str := ["monitor", "row", "numbers", "k", "node", "reading"]
def a_says : List Str := ["monitor", "row"]
def ir_says : Ss := (sSeq (sNewD 2) (sSeq (sFor 3 (iR1 (eLen (eIxN 0 (eC (.int 0))))) (sPut 2 (eIx (eIxN 0 (eC (.int 0))) (eVar 3)) (eVar 3))) (sSeq (sAsg 4 (eIxN 0 (eC (.int 1)))) (sSeq (sFor 5 (iName 1) (sSeq (sIf (tNin (eVar 5) 2) (sRet (eC (.str "impossible"))) sNop) (sAsg 4 (eIx (eIx (eIxN 0 (eC (.int 3))) (eVar 4)) (eIxN 2 (eVar 5)))))) (sRet (eIx (eIxN 0 (eC (.int 2))) (eVar 4)))))))
def cf_says (fns fnsH : List FE) : SCfg := { c := { N := n_says, sc := defScope s_says, fn := fun _ => true, hot := false, l2 := true, num := false, bl := blts, fns := fns }, exc := none, loops := true, tr := false, fnsH := fnsH }
theorem tr_says : trB (cf_says [] []) (defBody s_says) = ir_says  := by kernel_rfl

abbrev s_joined : Stmt := top 26
def n_joined : List Str := ["kind", "left", "right", "k"]
def a_joined : List Str := ["kind", "left", "right"]
def ir_joined : Ss := (sSeq (sIf (tCmp .Eq (eVar 0) (eC (.str "and"))) (sRet (eLc (eAnd (eIxN 1 (eVar 3)) (eIxN 2 (eVar 3))) (.one 3) (iR1 (eLenN 1)) tTrue [3])) sNop) (sRet (eLc (eOr (eIxN 1 (eVar 3)) (eIxN 2 (eVar 3))) (.one 3) (iR1 (eLenN 1)) tTrue [3])))
def cf_joined (fns fnsH : List FE) : SCfg := { c := { N := n_joined, sc := defScope s_joined, fn := fun _ => true, hot := false, l2 := true, num := false, bl := blts, fns := fns }, exc := none, loops := true, tr := false, fnsH := fnsH }
theorem tr_joined : trB (cf_joined [] []) (defBody s_joined) = ir_joined  := by kernel_rfl

abbrev s_some_next : Stmt := top 27
def n_some_next : List Str := ["machine", "state", "marks", "later"]
def a_some_next : List Str := ["machine", "state", "marks"]
def ir_some_next : Ss := (sSeq (sFor 3 (iOver (eIx (eIxN 0 (eC (.int 2))) (eVar 1))) (sIf (tV (eIxN 2 (eVar 3))) (sRet (eC (.bool true))) sNop)) (sRet (eC (.bool false))))
def cf_some_next (fns fnsH : List FE) : SCfg := { c := { N := n_some_next, sc := defScope s_some_next, fn := fun _ => true, hot := false, l2 := true, num := false, bl := blts, fns := fns }, exc := none, loops := true, tr := false, fnsH := fnsH }
theorem tr_some_next : trB (cf_some_next [] []) (defBody s_some_next) = ir_some_next  := by kernel_rfl

abbrev s_each_next : Stmt := top 28
def n_each_next : List Str := ["machine", "state", "marks", "later"]
def a_each_next : List Str := ["machine", "state", "marks"]
def ir_each_next : Ss := (sSeq (sFor 3 (iOver (eIx (eIxN 0 (eC (.int 2))) (eVar 1))) (sIf (tNotM (tV (eIxN 2 (eVar 3)))) (sRet (eC (.bool false))) sNop)) (sRet (eT (tCmp .Gt (eLen (eIx (eIxN 0 (eC (.int 2))) (eVar 1))) (eC (.int 0))))))
def cf_each_next (fns fnsH : List FE) : SCfg := { c := { N := n_each_next, sc := defScope s_each_next, fn := fun _ => true, hot := false, l2 := true, num := false, bl := blts, fns := fns }, exc := none, loops := true, tr := false, fnsH := fnsH }
theorem tr_each_next : trB (cf_each_next [] []) (defBody s_each_next) = ir_each_next  := by kernel_rfl

abbrev s_grown : Stmt := top 29
def n_grown : List Str := ["machine", "kind", "marks", "rounds", "_", "wider", "state"]
def a_grown : List Str := ["machine", "kind", "marks", "rounds"]
def ir_grown (psome_next peach_next : FSp) : Ss := (sSeq (sFor 4 (iR1 (eVar 3)) (sSeq (sAsgL 5 (eLst aNil)) (sSeq (sFor 6 (iR1 (eLenN 2)) (sIf (tCmp .Eq (eVar 1) (eC (.str "can"))) (sApp 5 (eOr (eIxN 2 (eVar 6)) (eCall psome_next (aCons (eVar 0) (aCons (eVar 6) (aCons (eVar 2) aNil)))))) (sApp 5 (eOr (eIxN 2 (eVar 6)) (eCall peach_next (aCons (eVar 0) (aCons (eVar 6) (aCons (eVar 2) aNil)))))))) (sSeq (sIf (tCmp .Eq (eVar 5) (eVar 2)) (sRet (eVar 2)) sNop) (sAsg 2 (eVar 5)))))) (sRet (eVar 2)))
def cf_grown (fns fnsH : List FE) : SCfg := { c := { N := n_grown, sc := defScope s_grown, fn := fun _ => true, hot := false, l2 := true, num := false, bl := blts, fns := fns }, exc := none, loops := true, tr := false, fnsH := fnsH }
theorem tr_grown (ksome_next keach_next : Nat) (psome_next peach_next : FSp) : trB (cf_grown [⟨"some_next", ksome_next, psome_next⟩, ⟨"each_next", keach_next, peach_next⟩] []) (defBody s_grown) = ir_grown psome_next peach_next := by kernel_rfl

abbrev s_label : Stmt := top 30
def n_label : List Str := ["machine", "fact", "kind", "marks", "values", "mark", "state"]
def a_label : List Str := ["machine", "fact"]
def ir_label (pis_true pjoined psome_next pgrown plabel : FSp) : Ss := (sSeq (sAsg 2 (eIxN 1 (eC (.int 0)))) (sSeq (sIf (tCmp .Eq (eVar 2) (eC (.str "holds"))) (sRet (eLc (eCall pis_true (aCons (eIxN 1 (eC (.int 1))) (aCons (eVar 4) aNil))) (.one 4) (iOver (eIxN 0 (eC (.int 0)))) tTrue [4])) sNop) (sSeq (sIf (tCmp .Eq (eVar 2) (eC (.str "not"))) (sRet (eLc (eNot (eVar 5)) (.one 5) (iOver (eCall plabel (aCons (eVar 0) (aCons (eIxN 1 (eC (.int 1))) aNil)))) tTrue [5])) sNop) (sSeq (sIf (tOrM (tCmp .Eq (eVar 2) (eC (.str "and"))) (tCmp .Eq (eVar 2) (eC (.str "or")))) (sRet (eCall pjoined (aCons (eVar 2) (aCons (eCall plabel (aCons (eVar 0) (aCons (eIxN 1 (eC (.int 1))) aNil))) (aCons (eCall plabel (aCons (eVar 0) (aCons (eIxN 1 (eC (.int 2))) aNil))) aNil))))) sNop) (sSeq (sAsg 3 (eCall plabel (aCons (eVar 0) (aCons (eIxN 1 (eNeg (eC (.int 1)))) aNil)))) (sSeq (sIf (tCmp .Eq (eVar 2) (eC (.str "next"))) (sRet (eLc (eCall psome_next (aCons (eVar 0) (aCons (eVar 6) (aCons (eVar 3) aNil)))) (.one 6) (iR1 (eLenN 3)) tTrue [6])) sNop) (sSeq (sIf (tOrM (tCmp .Eq (eVar 2) (eC (.str "can"))) (tCmp .Eq (eVar 2) (eC (.str "must")))) (sRet (eCall pgrown (aCons (eVar 0) (aCons (eVar 2) (aCons (eVar 3) (aCons (eLenN 3) aNil)))))) sNop) (sRet (eCall pgrown (aCons (eVar 0) (aCons (eSl (eVar 2) oNone (oSome (eNeg (eC (.int 2))))) (aCons (eVar 3) (aCons (eMin2 (eIxN 1 (eC (.int 1))) (eLenN 3)) aNil)))))))))))))
def cf_label (fns fnsH : List FE) : SCfg := { c := { N := n_label, sc := defScope s_label, fn := fun _ => true, hot := false, l2 := true, num := false, bl := blts, fns := fns }, exc := none, loops := true, tr := false, fnsH := fnsH }
theorem tr_label (kis_true kjoined ksome_next kgrown klabel : Nat) (pis_true pjoined psome_next pgrown plabel : FSp) : trB (cf_label [⟨"is_true", kis_true, pis_true⟩, ⟨"joined", kjoined, pjoined⟩, ⟨"some_next", ksome_next, psome_next⟩, ⟨"grown", kgrown, pgrown⟩, ⟨"label", klabel, plabel⟩] []) (defBody s_label) = ir_label pis_true pjoined psome_next pgrown plabel := by kernel_rfl

def irH_label (pis_true pjoined psome_next pgrown plabel : FSp) : Ss := (sSeq (sAsg 2 (eIxN 1 (eC (.int 0)))) (sSeq (sIf (tCmp .Eq (eVar 2) (eC (.str "holds"))) (sRet (eLc (eCall pis_true (aCons (eIxN 1 (eC (.int 1))) (aCons (eVar 4) aNil))) (.one 4) (iOver (eIxN 0 (eC (.int 0)))) tTrue [4])) sNop) (sSeq (sIf (tCmp .Eq (eVar 2) (eC (.str "not"))) (sRet (eLc (eNot (eVar 5)) (.one 5) (iOver (eCall plabel (aCons (eVar 0) (aCons (eIxN 1 (eC (.int 1))) aNil)))) tTrue [5])) sNop) (sSeq (sIf (tOrM (tCmp .Eq (eVar 2) (eC (.str "and"))) (tCmp .Eq (eVar 2) (eC (.str "or")))) (sRet (eCall pjoined (aCons (eVar 2) (aCons (eCall plabel (aCons (eVar 0) (aCons (eIxN 1 (eC (.int 1))) aNil))) (aCons (eCall plabel (aCons (eVar 0) (aCons (eIxN 1 (eC (.int 2))) aNil))) aNil))))) sNop) (sSeq (sAsg 3 (eCall plabel (aCons (eVar 0) (aCons (eIxN 1 (eNeg (eC (.int 1)))) aNil)))) (sSeq (sIf (tCmp .Eq (eVar 2) (eC (.str "next"))) (sRet (eLc (eCall psome_next (aCons (eVar 0) (aCons (eVar 6) (aCons (eVar 3) aNil)))) (.one 6) (iR1 (eLenN 3)) tTrue [6])) sNop) (sSeq (sIf (tOrM (tCmp .Eq (eVar 2) (eC (.str "can"))) (tCmp .Eq (eVar 2) (eC (.str "must")))) (sRet (eCall pgrown (aCons (eVar 0) (aCons (eVar 2) (aCons (eVar 3) (aCons (eLenN 3) aNil)))))) sNop) (sRet (eCall pgrown (aCons (eVar 0) (aCons (eSl (eVar 2) oNone (oSome (eNeg (eC (.int 2))))) (aCons (eVar 3) (aCons eNever aNil)))))))))))))
def cfH_label (fns fnsH : List FE) : SCfg := { c := { N := n_label, sc := defScope s_label, fn := fun _ => true, hot := true, l2 := false, num := false, bl := blts, fns := fns }, exc := none, loops := true, tr := false, fnsH := fnsH }
theorem trH_label (kis_true kjoined ksome_next kgrown klabel : Nat) (pis_true pjoined psome_next pgrown plabel : FSp) : trB (cfH_label [⟨"is_true", kis_true, pis_true⟩, ⟨"joined", kjoined, pjoined⟩, ⟨"some_next", ksome_next, psome_next⟩, ⟨"grown", kgrown, pgrown⟩, ⟨"label", klabel, plabel⟩] []) (defBody s_label) = irH_label pis_true pjoined psome_next pgrown plabel := by kernel_rfl

abbrev s_facts_in : Stmt := top 32
def n_facts_in : List Str := ["requirement", "kind"]
def a_facts_in : List Str := ["requirement"]
def ir_facts_in (pfacts_in : FSp) : Ss := (sSeq (sAsg 1 (eIxN 0 (eC (.int 0)))) (sSeq (sIf (tCmp .Eq (eVar 1) (eC (.str "fact"))) (sRet (eLst (aCons (eIxN 0 (eC (.int 1))) aNil))) sNop) (sSeq (sIf (tOrM (tCmp .Eq (eVar 1) (eC (.str "and"))) (tOrM (tCmp .Eq (eVar 1) (eC (.str "or"))) (tCmp .Eq (eVar 1) (eC (.str "since"))))) (sRet (eBin .Add (eCall pfacts_in (aCons (eIxN 0 (eC (.int 1))) aNil)) (eCall pfacts_in (aCons (eIxN 0 (eC (.int 2))) aNil)))) sNop) (sRet (eCall pfacts_in (aCons (eIxN 0 (eNeg (eC (.int 1)))) aNil))))))
def cf_facts_in (fns fnsH : List FE) : SCfg := { c := { N := n_facts_in, sc := defScope s_facts_in, fn := fun _ => true, hot := false, l2 := true, num := false, bl := blts, fns := fns }, exc := none, loops := true, tr := false, fnsH := fnsH }
theorem tr_facts_in (kfacts_in : Nat) (pfacts_in : FSp) : trB (cf_facts_in [⟨"facts_in", kfacts_in, pfacts_in⟩] []) (defBody s_facts_in) = ir_facts_in pfacts_in := by kernel_rfl

def irH_facts_in (pfacts_in : FSp) : Ss := (sSeq (sAsg 1 (eIxN 0 (eC (.int 0)))) (sSeq (sIf (tCmp .Eq (eVar 1) (eC (.str "fact"))) (sRet (eLst (aCons (eIxN 0 (eC (.int 1))) aNil))) sNop) (sSeq (sIf (tOrM (tCmp .Eq (eVar 1) (eC (.str "and"))) (tOrM (tCmp .Eq (eVar 1) (eC (.str "or"))) (tCmp .Eq (eVar 1) (eC (.str "since"))))) (sRet (eBin .Add (eCall pfacts_in (aCons (eIxN 0 (eC (.int 1))) aNil)) (eCall pfacts_in (aCons (eIxN 0 (eC (.int 2))) aNil)))) sNop) (sRet (eCall pfacts_in (aCons (eIxN 0 (eNeg (eC (.int 1)))) aNil))))))
def cfH_facts_in (fns fnsH : List FE) : SCfg := { c := { N := n_facts_in, sc := defScope s_facts_in, fn := fun _ => true, hot := true, l2 := false, num := false, bl := blts, fns := fns }, exc := none, loops := true, tr := false, fnsH := fnsH }
theorem trH_facts_in (kfacts_in : Nat) (pfacts_in : FSp) : trB (cfH_facts_in [⟨"facts_in", kfacts_in, pfacts_in⟩] []) (defBody s_facts_in) = irH_facts_in pfacts_in := by kernel_rfl

abbrev s_size_of : Stmt := top 33
def n_size_of : List Str := ["requirement", "kind"]
def a_size_of : List Str := ["requirement"]
def ir_size_of (psize_of : FSp) : Ss := (sSeq (sAsg 1 (eIxN 0 (eC (.int 0)))) (sSeq (sIf (tCmp .Eq (eVar 1) (eC (.str "fact"))) (sRet (eC (.int 1))) sNop) (sSeq (sIf (tCmp .Eq (eVar 1) (eC (.str "not"))) (sRet (eCall psize_of (aCons (eIxN 0 (eC (.int 1))) aNil))) sNop) (sSeq (sIf (tOrM (tCmp .Eq (eVar 1) (eC (.str "and"))) (tCmp .Eq (eVar 1) (eC (.str "or")))) (sRet (eBin .Add (eCall psize_of (aCons (eIxN 0 (eC (.int 1))) aNil)) (eCall psize_of (aCons (eIxN 0 (eC (.int 2))) aNil)))) sNop) (sSeq (sIf (tCmp .Eq (eVar 1) (eC (.str "since"))) (sRet (eBin .Add (eBin .Add (eC (.int 1)) (eCall psize_of (aCons (eIxN 0 (eC (.int 1))) aNil))) (eCall psize_of (aCons (eIxN 0 (eC (.int 2))) aNil)))) sNop) (sRet (eBin .Add (eC (.int 1)) (eCall psize_of (aCons (eIxN 0 (eNeg (eC (.int 1)))) aNil)))))))))
def cf_size_of (fns fnsH : List FE) : SCfg := { c := { N := n_size_of, sc := defScope s_size_of, fn := fun _ => true, hot := false, l2 := true, num := false, bl := blts, fns := fns }, exc := none, loops := true, tr := false, fnsH := fnsH }
theorem tr_size_of (ksize_of : Nat) (psize_of : FSp) : trB (cf_size_of [⟨"size_of", ksize_of, psize_of⟩] []) (defBody s_size_of) = ir_size_of psize_of := by kernel_rfl

abbrev s_meets : Stmt := top 34
def n_meets : List Str := ["requirement", "memory", "kind", "size", "left", "right"]
def a_meets : List Str := ["requirement", "memory"]
def ir_meets (psize_of pmeets : FSp) : Ss := (sSeq (sAsg 2 (eIxN 0 (eC (.int 0)))) (sSeq (sIf (tCmp .Eq (eVar 2) (eC (.str "not"))) (sRet (eNot (eCall pmeets (aCons (eIxN 0 (eC (.int 1))) (aCons (eVar 1) aNil))))) sNop) (sSeq (sIf (tOrM (tCmp .Eq (eVar 2) (eC (.str "and"))) (tCmp .Eq (eVar 2) (eC (.str "or")))) (sSeq (sAsg 3 (eCall psize_of (aCons (eIxN 0 (eC (.int 1))) aNil))) (sSeq (sAsg 4 (eCall pmeets (aCons (eIxN 0 (eC (.int 1))) (aCons (eSl (eVar 1) oNone (oSome (eVar 3))) aNil)))) (sSeq (sAsg 5 (eCall pmeets (aCons (eIxN 0 (eC (.int 2))) (aCons (eSl (eVar 1) (oSome (eVar 3)) oNone) aNil)))) (sSeq (sIf (tCmp .Eq (eVar 2) (eC (.str "and"))) (sRet (eAnd (eVar 4) (eVar 5))) sNop) (sRet (eOr (eVar 4) (eVar 5))))))) sNop) (sSeq (sIf (tCmp .Eq (eVar 2) (eC (.str "oncein"))) (sRet (eT (tCmp .LtE (eIxN 1 (eC (.int 0))) (eIxN 0 (eC (.int 1)))))) sNop) (sRet (eIxN 1 (eC (.int 0))))))))
def cf_meets (fns fnsH : List FE) : SCfg := { c := { N := n_meets, sc := defScope s_meets, fn := fun _ => true, hot := false, l2 := true, num := false, bl := blts, fns := fns }, exc := none, loops := true, tr := false, fnsH := fnsH }
theorem tr_meets (ksize_of kmeets : Nat) (psize_of pmeets : FSp) : trB (cf_meets [⟨"size_of", ksize_of, psize_of⟩, ⟨"meets", kmeets, pmeets⟩] []) (defBody s_meets) = ir_meets psize_of pmeets := by kernel_rfl

def irH_meets (psize_of pmeets : FSp) : Ss := (sSeq (sAsg 2 (eIxN 0 (eC (.int 0)))) (sSeq (sIf (tCmp .Eq (eVar 2) (eC (.str "not"))) (sRet (eNot (eCall pmeets (aCons (eIxN 0 (eC (.int 1))) (aCons (eVar 1) aNil))))) sNop) (sSeq (sIf (tOrM (tCmp .Eq (eVar 2) (eC (.str "and"))) (tCmp .Eq (eVar 2) (eC (.str "or")))) (sSeq (sAsg 3 (eCall psize_of (aCons (eIxN 0 (eC (.int 1))) aNil))) (sSeq (sAsg 4 (eCall pmeets (aCons (eIxN 0 (eC (.int 1))) (aCons (eSl (eVar 1) oNone (oSome (eVar 3))) aNil)))) (sSeq (sAsg 5 (eCall pmeets (aCons (eIxN 0 (eC (.int 2))) (aCons (eSl (eVar 1) (oSome (eVar 3)) oNone) aNil)))) (sSeq (sIf (tCmp .Eq (eVar 2) (eC (.str "and"))) (sRet (eAnd (eVar 4) (eVar 5))) sNop) (sRet (eOr (eVar 4) (eVar 5))))))) sNop) (sSeq (sIf (tCmp .Eq (eVar 2) (eC (.str "oncein"))) (sRet (eT (tCmp .LtE (eIxN 1 (eC (.int 0))) (eIxN 0 (eC (.int 1)))))) sNop) (sRet (eIxN 1 (eC (.int 0))))))))
def cfH_meets (fns fnsH : List FE) : SCfg := { c := { N := n_meets, sc := defScope s_meets, fn := fun _ => true, hot := true, l2 := false, num := false, bl := blts, fns := fns }, exc := none, loops := true, tr := false, fnsH := fnsH }
theorem trH_meets (ksize_of kmeets : Nat) (psize_of pmeets : FSp) : trB (cfH_meets [⟨"size_of", ksize_of, psize_of⟩, ⟨"meets", kmeets, pmeets⟩] []) (defBody s_meets) = irH_meets psize_of pmeets := by kernel_rfl

abbrev s_first_memory : Stmt := top 35
def n_first_memory : List Str := ["requirement", "holds", "kind", "count", "left", "right", "inner", "now"]
def a_first_memory : List Str := ["requirement", "holds"]
def ir_first_memory (pfacts_in pmeets pfirst_memory : FSp) : Ss := (sSeq (sAsg 2 (eIxN 0 (eC (.int 0)))) (sSeq (sIf (tCmp .Eq (eVar 2) (eC (.str "fact"))) (sRet (eTup (aCons (eIxN 1 (eC (.int 0))) aNil))) sNop) (sSeq (sIf (tOrM (tCmp .Eq (eVar 2) (eC (.str "and"))) (tOrM (tCmp .Eq (eVar 2) (eC (.str "or"))) (tCmp .Eq (eVar 2) (eC (.str "since"))))) (sSeq (sAsg 3 (eLen (eCall pfacts_in (aCons (eIxN 0 (eC (.int 1))) aNil)))) (sSeq (sAsg 4 (eCall pfirst_memory (aCons (eIxN 0 (eC (.int 1))) (aCons (eSl (eVar 1) oNone (oSome (eVar 3))) aNil)))) (sSeq (sAsg 5 (eCall pfirst_memory (aCons (eIxN 0 (eC (.int 2))) (aCons (eSl (eVar 1) (oSome (eVar 3)) oNone) aNil)))) (sSeq (sIf (tCmp .Eq (eVar 2) (eC (.str "since"))) (sRet (eBin .Add (eBin .Add (eTup (aCons (eCall pmeets (aCons (eIxN 0 (eC (.int 2))) (aCons (eVar 5) aNil))) aNil)) (eVar 4)) (eVar 5))) sNop) (sRet (eBin .Add (eVar 4) (eVar 5))))))) sNop) (sSeq (sAsg 6 (eCall pfirst_memory (aCons (eIxN 0 (eNeg (eC (.int 1)))) (aCons (eVar 1) aNil)))) (sSeq (sIf (tCmp .Eq (eVar 2) (eC (.str "not"))) (sRet (eVar 6)) sNop) (sSeq (sIf (tCmp .Eq (eVar 2) (eC (.str "before"))) (sRet (eBin .Add (eTup (aCons (eC (.bool false)) aNil)) (eVar 6))) sNop) (sSeq (sAsg 7 (eCall pmeets (aCons (eIxN 0 (eNeg (eC (.int 1)))) (aCons (eVar 6) aNil)))) (sSeq (sIf (tCmp .Eq (eVar 2) (eC (.str "once"))) (sRet (eBin .Add (eTup (aCons (eVar 7) aNil)) (eVar 6))) sNop) (sRet (eBin .Add (eTup (aCons (eIf (tV (eVar 7)) (eC (.int 0)) (eBin .Add (eIxN 0 (eC (.int 1))) (eC (.int 1)))) aNil)) (eVar 6)))))))))))
def cf_first_memory (fns fnsH : List FE) : SCfg := { c := { N := n_first_memory, sc := defScope s_first_memory, fn := fun _ => true, hot := false, l2 := true, num := false, bl := blts, fns := fns }, exc := none, loops := true, tr := false, fnsH := fnsH }
theorem tr_first_memory (kfacts_in kmeets kfirst_memory : Nat) (pfacts_in pmeets pfirst_memory : FSp) : trB (cf_first_memory [⟨"facts_in", kfacts_in, pfacts_in⟩, ⟨"meets", kmeets, pmeets⟩, ⟨"first_memory", kfirst_memory, pfirst_memory⟩] []) (defBody s_first_memory) = ir_first_memory pfacts_in pmeets pfirst_memory := by kernel_rfl

def irH_first_memory (pfacts_in pmeets pfirst_memory : FSp) : Ss := (sSeq (sAsg 2 (eIxN 0 (eC (.int 0)))) (sSeq (sIf (tCmp .Eq (eVar 2) (eC (.str "fact"))) (sRet (eTup (aCons (eIxN 1 (eC (.int 0))) aNil))) sNop) (sSeq (sIf (tOrM (tCmp .Eq (eVar 2) (eC (.str "and"))) (tOrM (tCmp .Eq (eVar 2) (eC (.str "or"))) (tCmp .Eq (eVar 2) (eC (.str "since"))))) (sSeq (sAsg 3 (eLen (eCall pfacts_in (aCons (eIxN 0 (eC (.int 1))) aNil)))) (sSeq (sAsg 4 (eCall pfirst_memory (aCons (eIxN 0 (eC (.int 1))) (aCons (eSl (eVar 1) oNone (oSome (eVar 3))) aNil)))) (sSeq (sAsg 5 (eCall pfirst_memory (aCons (eIxN 0 (eC (.int 2))) (aCons (eSl (eVar 1) (oSome (eVar 3)) oNone) aNil)))) (sSeq (sIf (tCmp .Eq (eVar 2) (eC (.str "since"))) (sRet (eBin .Add (eBin .Add (eTup (aCons (eCall pmeets (aCons (eIxN 0 (eC (.int 2))) (aCons (eVar 5) aNil))) aNil)) (eVar 4)) (eVar 5))) sNop) (sRet (eBin .Add (eVar 4) (eVar 5))))))) sNop) (sSeq (sAsg 6 (eCall pfirst_memory (aCons (eIxN 0 (eNeg (eC (.int 1)))) (aCons (eVar 1) aNil)))) (sSeq (sIf (tCmp .Eq (eVar 2) (eC (.str "not"))) (sRet (eVar 6)) sNop) (sSeq (sIf (tCmp .Eq (eVar 2) (eC (.str "before"))) (sRet (eBin .Add (eTup (aCons (eC (.bool false)) aNil)) (eVar 6))) sNop) (sSeq (sAsg 7 (eCall pmeets (aCons (eIxN 0 (eNeg (eC (.int 1)))) (aCons (eVar 6) aNil)))) (sSeq (sIf (tCmp .Eq (eVar 2) (eC (.str "once"))) (sRet (eBin .Add (eTup (aCons (eVar 7) aNil)) (eVar 6))) sNop) (sRet (eBin .Add (eTup (aCons (eIf (tV (eVar 7)) (eC (.int 0)) (eBin .Add (eIxN 0 (eC (.int 1))) (eC (.int 1)))) aNil)) (eVar 6)))))))))))
def cfH_first_memory (fns fnsH : List FE) : SCfg := { c := { N := n_first_memory, sc := defScope s_first_memory, fn := fun _ => true, hot := true, l2 := false, num := false, bl := blts, fns := fns }, exc := none, loops := true, tr := false, fnsH := fnsH }
theorem trH_first_memory (kfacts_in kmeets kfirst_memory : Nat) (pfacts_in pmeets pfirst_memory : FSp) : trB (cfH_first_memory [⟨"facts_in", kfacts_in, pfacts_in⟩, ⟨"meets", kmeets, pmeets⟩, ⟨"first_memory", kfirst_memory, pfirst_memory⟩] []) (defBody s_first_memory) = irH_first_memory pfacts_in pmeets pfirst_memory := by kernel_rfl

abbrev s_next_memory : Stmt := top 36
def n_next_memory : List Str := ["requirement", "memory", "holds", "kind", "inner", "now"]
def a_next_memory : List Str := ["requirement", "memory", "holds"]
def ir_next_memory (pmeets pnext_memory pnext_pair : FSp) : Ss := (sSeq (sAsg 3 (eIxN 0 (eC (.int 0)))) (sSeq (sIf (tCmp .Eq (eVar 3) (eC (.str "fact"))) (sRet (eTup (aCons (eIxN 2 (eC (.int 0))) aNil))) sNop) (sSeq (sIf (tOrM (tCmp .Eq (eVar 3) (eC (.str "and"))) (tOrM (tCmp .Eq (eVar 3) (eC (.str "or"))) (tCmp .Eq (eVar 3) (eC (.str "since"))))) (sRet (eCall pnext_pair (aCons (eVar 0) (aCons (eVar 1) (aCons (eVar 2) aNil))))) sNop) (sSeq (sIf (tCmp .Eq (eVar 3) (eC (.str "not"))) (sRet (eCall pnext_memory (aCons (eIxN 0 (eC (.int 1))) (aCons (eVar 1) (aCons (eVar 2) aNil))))) sNop) (sSeq (sAsg 4 (eCall pnext_memory (aCons (eIxN 0 (eNeg (eC (.int 1)))) (aCons (eSl (eVar 1) (oSome (eC (.int 1))) oNone) (aCons (eVar 2) aNil))))) (sSeq (sIf (tCmp .Eq (eVar 3) (eC (.str "before"))) (sRet (eBin .Add (eTup (aCons (eCall pmeets (aCons (eIxN 0 (eC (.int 1))) (aCons (eSl (eVar 1) (oSome (eC (.int 1))) oNone) aNil))) aNil)) (eVar 4))) sNop) (sSeq (sAsg 5 (eCall pmeets (aCons (eIxN 0 (eNeg (eC (.int 1)))) (aCons (eVar 4) aNil)))) (sSeq (sIf (tCmp .Eq (eVar 3) (eC (.str "once"))) (sRet (eBin .Add (eTup (aCons (eOr (eVar 5) (eIxN 1 (eC (.int 0)))) aNil)) (eVar 4))) sNop) (sRet (eBin .Add (eTup (aCons (eIf (tV (eVar 5)) (eC (.int 0)) (eMin2 (eBin .Add (eIxN 1 (eC (.int 0))) (eC (.int 1))) (eBin .Add (eIxN 0 (eC (.int 1))) (eC (.int 1))))) aNil)) (eVar 4)))))))))))
def cf_next_memory (fns fnsH : List FE) : SCfg := { c := { N := n_next_memory, sc := defScope s_next_memory, fn := fun _ => true, hot := false, l2 := true, num := false, bl := blts, fns := fns }, exc := none, loops := true, tr := false, fnsH := fnsH }
theorem tr_next_memory (kmeets knext_memory knext_pair : Nat) (pmeets pnext_memory pnext_pair : FSp) : trB (cf_next_memory [⟨"meets", kmeets, pmeets⟩, ⟨"next_memory", knext_memory, pnext_memory⟩, ⟨"next_pair", knext_pair, pnext_pair⟩] []) (defBody s_next_memory) = ir_next_memory pmeets pnext_memory pnext_pair := by kernel_rfl

def irH_next_memory (pmeets pnext_memory pnext_pair : FSp) : Ss := (sSeq (sAsg 3 (eIxN 0 (eC (.int 0)))) (sSeq (sIf (tCmp .Eq (eVar 3) (eC (.str "fact"))) (sRet (eTup (aCons (eIxN 2 (eC (.int 0))) aNil))) sNop) (sSeq (sIf (tOrM (tCmp .Eq (eVar 3) (eC (.str "and"))) (tOrM (tCmp .Eq (eVar 3) (eC (.str "or"))) (tCmp .Eq (eVar 3) (eC (.str "since"))))) (sRet (eCall pnext_pair (aCons (eVar 0) (aCons (eVar 1) (aCons (eVar 2) aNil))))) sNop) (sSeq (sIf (tCmp .Eq (eVar 3) (eC (.str "not"))) (sRet (eCall pnext_memory (aCons (eIxN 0 (eC (.int 1))) (aCons (eVar 1) (aCons (eVar 2) aNil))))) sNop) (sSeq (sAsg 4 (eCall pnext_memory (aCons (eIxN 0 (eNeg (eC (.int 1)))) (aCons (eSl (eVar 1) (oSome (eC (.int 1))) oNone) (aCons (eVar 2) aNil))))) (sSeq (sIf (tCmp .Eq (eVar 3) (eC (.str "before"))) (sRet (eBin .Add (eTup (aCons (eCall pmeets (aCons (eIxN 0 (eC (.int 1))) (aCons (eSl (eVar 1) (oSome (eC (.int 1))) oNone) aNil))) aNil)) (eVar 4))) sNop) (sSeq (sAsg 5 (eCall pmeets (aCons (eIxN 0 (eNeg (eC (.int 1)))) (aCons (eVar 4) aNil)))) (sSeq (sIf (tCmp .Eq (eVar 3) (eC (.str "once"))) (sRet (eBin .Add (eTup (aCons (eOr (eVar 5) (eIxN 1 (eC (.int 0)))) aNil)) (eVar 4))) sNop) (sRet (eBin .Add (eTup (aCons (eIf (tV (eVar 5)) (eC (.int 0)) eNever) aNil)) (eVar 4)))))))))))
def cfH_next_memory (fns fnsH : List FE) : SCfg := { c := { N := n_next_memory, sc := defScope s_next_memory, fn := fun _ => true, hot := true, l2 := false, num := false, bl := blts, fns := fns }, exc := none, loops := true, tr := false, fnsH := fnsH }
theorem trH_next_memory (kmeets knext_memory knext_pair : Nat) (pmeets pnext_memory pnext_pair : FSp) : trB (cfH_next_memory [⟨"meets", kmeets, pmeets⟩, ⟨"next_memory", knext_memory, pnext_memory⟩, ⟨"next_pair", knext_pair, pnext_pair⟩] []) (defBody s_next_memory) = irH_next_memory pmeets pnext_memory pnext_pair := by kernel_rfl

abbrev s_next_pair : Stmt := top 37
def n_next_pair : List Str := ["requirement", "memory", "holds", "kind", "rest", "size", "count", "left", "right", "now"]
def a_next_pair : List Str := ["requirement", "memory", "holds"]
def ir_next_pair (pfacts_in psize_of pmeets pnext_memory : FSp) : Ss := (sSeq (sAsg 3 (eIxN 0 (eC (.int 0)))) (sSeq (sAsg 4 (eIf (tCmp .Eq (eVar 3) (eC (.str "since"))) (eSl (eVar 1) (oSome (eC (.int 1))) oNone) (eVar 1))) (sSeq (sAsg 5 (eCall psize_of (aCons (eIxN 0 (eC (.int 1))) aNil))) (sSeq (sAsg 6 (eLen (eCall pfacts_in (aCons (eIxN 0 (eC (.int 1))) aNil)))) (sSeq (sAsg 7 (eCall pnext_memory (aCons (eIxN 0 (eC (.int 1))) (aCons (eSl (eVar 4) oNone (oSome (eVar 5))) (aCons (eSl (eVar 2) oNone (oSome (eVar 6))) aNil))))) (sSeq (sAsg 8 (eCall pnext_memory (aCons (eIxN 0 (eC (.int 2))) (aCons (eSl (eVar 4) (oSome (eVar 5)) oNone) (aCons (eSl (eVar 2) (oSome (eVar 6)) oNone) aNil))))) (sSeq (sIf (tCmp .NotEq (eVar 3) (eC (.str "since"))) (sRet (eBin .Add (eVar 7) (eVar 8))) sNop) (sSeq (sAsg 9 (eOr (eCall pmeets (aCons (eIxN 0 (eC (.int 2))) (aCons (eVar 8) aNil))) (eAnd (eIxN 1 (eC (.int 0))) (eCall pmeets (aCons (eIxN 0 (eC (.int 1))) (aCons (eVar 7) aNil)))))) (sRet (eBin .Add (eBin .Add (eTup (aCons (eVar 9) aNil)) (eVar 7)) (eVar 8)))))))))))
def cf_next_pair (fns fnsH : List FE) : SCfg := { c := { N := n_next_pair, sc := defScope s_next_pair, fn := fun _ => true, hot := false, l2 := true, num := false, bl := blts, fns := fns }, exc := none, loops := true, tr := false, fnsH := fnsH }
theorem tr_next_pair (kfacts_in ksize_of kmeets knext_memory : Nat) (pfacts_in psize_of pmeets pnext_memory : FSp) : trB (cf_next_pair [⟨"facts_in", kfacts_in, pfacts_in⟩, ⟨"size_of", ksize_of, psize_of⟩, ⟨"meets", kmeets, pmeets⟩, ⟨"next_memory", knext_memory, pnext_memory⟩] []) (defBody s_next_pair) = ir_next_pair pfacts_in psize_of pmeets pnext_memory := by kernel_rfl

abbrev s_labels_of : Stmt := top 39
def n_labels_of : List Str := ["machine", "requirement", "rows", "fact", "row", "state"]
def a_labels_of : List Str := ["machine", "requirement"]
def ir_labels_of (plabel pfacts_in : FSp) : Ss := (sSeq (sAsg 2 (eLc (eCall plabel (aCons (eVar 0) (aCons (eVar 3) aNil))) (.one 3) (iOver (eCall pfacts_in (aCons (eVar 1) aNil))) tTrue [3])) (sRet (eLc (eLc (eIxN 4 (eVar 5)) (.one 4) (iName 2) tTrue [4]) (.one 5) (iR1 (eLen (eIxN 0 (eC (.int 0))))) tTrue [5])))
def cf_labels_of (fns fnsH : List FE) : SCfg := { c := { N := n_labels_of, sc := defScope s_labels_of, fn := fun _ => true, hot := false, l2 := true, num := false, bl := blts, fns := fns }, exc := none, loops := true, tr := false, fnsH := fnsH }
theorem tr_labels_of (klabel kfacts_in : Nat) (plabel pfacts_in : FSp) : trB (cf_labels_of [⟨"label", klabel, plabel⟩, ⟨"facts_in", kfacts_in, pfacts_in⟩] []) (defBody s_labels_of) = ir_labels_of plabel pfacts_in := by kernel_rfl

def irH_labels_of (plabel pfacts_in : FSp) : Ss := (sSeq (sAsg 2 (eLc (eCall plabel (aCons (eVar 0) (aCons (eVar 3) aNil))) (.one 3) (iOver (eCall pfacts_in (aCons (eVar 1) aNil))) tTrue [3])) (sRet (eLc (eLc (eIxN 4 (eVar 5)) (.one 4) (iName 2) tTrue [4]) (.one 5) (iR1 (eLen (eIxN 0 (eC (.int 0))))) tTrue [5])))
def cfH_labels_of (fns fnsH : List FE) : SCfg := { c := { N := n_labels_of, sc := defScope s_labels_of, fn := fun _ => true, hot := true, l2 := false, num := false, bl := blts, fns := fns }, exc := none, loops := true, tr := false, fnsH := fnsH }
theorem trH_labels_of (klabel kfacts_in : Nat) (plabel pfacts_in : FSp) : trB (cfH_labels_of [⟨"label", klabel, plabel⟩, ⟨"facts_in", kfacts_in, pfacts_in⟩] []) (defBody s_labels_of) = irH_labels_of plabel pfacts_in := by kernel_rfl

abbrev s_number_of : Stmt := top 40
def n_number_of : List Str := ["pair", "pairs", "numbers"]
def a_number_of : List Str := ["pair", "pairs", "numbers"]
def ir_number_of : Ss := (sSeq (sIf (tNin (eVar 0) 2) (sSeq (sPut 2 (eVar 0) (eLenN 1)) (sApp 1 (eVar 0))) sNop) (sRet (eIxN 2 (eVar 0))))
def cf_number_of (fns fnsH : List FE) : SCfg := { c := { N := n_number_of, sc := defScope s_number_of, fn := fun _ => true, hot := false, l2 := true, num := false, bl := blts, fns := fns }, exc := none, loops := true, tr := false, fnsH := fnsH }
theorem tr_number_of : trB (cf_number_of [] []) (defBody s_number_of) = ir_number_of  := by kernel_rfl

def irH_number_of : Ss := (sSeq (sIf (tNin (eVar 0) 2) (sSeq (sPut 2 (eVar 0) (eLenN 1)) (sApp 1 (eVar 0))) sNop) (sRet (eIxN 2 (eVar 0))))
def cfH_number_of (fns fnsH : List FE) : SCfg := { c := { N := n_number_of, sc := defScope s_number_of, fn := fun _ => true, hot := true, l2 := false, num := false, bl := blts, fns := fns }, exc := none, loops := true, tr := false, fnsH := fnsH }
theorem trH_number_of : trB (cfH_number_of [] []) (defBody s_number_of) = irH_number_of  := by kernel_rfl

abbrev s_track : Stmt := top 41
def n_track : List Str := ["machine", "requirement", "most", "holds", "pairs", "numbers", "starts", "state", "steps", "memory", "row", "later", "pair", "marks", "reached"]
def a_track : List Str := ["machine", "requirement", "most"]
def ir_track (pmeets pfirst_memory pnext_memory plabels_of : FSp) : Ss := (sSeq (sAsg 3 (eCall plabels_of (aCons (eVar 0) (aCons (eVar 1) aNil)))) (sSeq (sAsgL 4 (eLst aNil)) (sSeq (sNewD 5) (sSeq (sAsgL 6 (eLst aNil)) (sSeq (sFor 7 (iOver (eIxN 0 (eC (.int 1)))) (sApp 6 (eNum (eTup (aCons (eVar 7) (aCons (eCall pfirst_memory (aCons (eVar 1) (aCons (eIxN 3 (eVar 7)) aNil))) aNil))) 4 5))) (sSeq (sAsgL 8 (eLst aNil)) (sSeq (sWhile (tAndM (tCmp .Lt (eLenN 8) (eLenN 4)) (tCmp .LtE (eLenN 4) (eVar 2))) (sSeq (sUnp [7, 9] (eIxN 4 (eLenN 8))) (sSeq (sAsgL 10 (eLst aNil)) (sSeq (sFor 11 (iOver (eIx (eIxN 0 (eC (.int 2))) (eVar 7))) (sSeq (sAsg 12 (eTup (aCons (eVar 11) (aCons (eCall pnext_memory (aCons (eVar 1) (aCons (eVar 9) (aCons (eIxN 3 (eVar 11)) aNil)))) aNil)))) (sApp 10 (eNum (eVar 12) 4 5)))) (sApp 8 (eTupleN 10)))))) (sSeq (sIf (tCmp .Gt (eLenN 4) (eVar 2)) sRaise sNop) (sSeq (sAsg 13 (eLc (eTup (aCons (eIx (eIxN 0 (eC (.int 0))) (eVar 7)) (aCons (eVar 9) aNil))) (.many [7, 9]) (iName 4) tTrue [7, 9])) (sSeq (sAsg 14 (eLc (eCall pmeets (aCons (eVar 1) (aCons (eVar 9) aNil))) (.many [7, 9]) (iName 4) tTrue [7, 9])) (sRet (eTup (aCons (eTupleN 13) (aCons (eTupleN 6) (aCons (eTupleN 8) (aCons (eTupleN 14) aNil))))))))))))))))
def irR_track (r : Ss) (pmeets pfirst_memory pnext_memory plabels_of : FSp) : Ss := (sSeq (sAsg 3 (eCall plabels_of (aCons (eVar 0) (aCons (eVar 1) aNil)))) (sSeq (sAsgL 4 (eLst aNil)) (sSeq (sNewD 5) (sSeq (sAsgL 6 (eLst aNil)) (sSeq (sFor 7 (iOver (eIxN 0 (eC (.int 1)))) (sApp 6 (eNum (eTup (aCons (eVar 7) (aCons (eCall pfirst_memory (aCons (eVar 1) (aCons (eIxN 3 (eVar 7)) aNil))) aNil))) 4 5))) (sSeq (sAsgL 8 (eLst aNil)) (sSeq (sWhile (tAndM (tCmp .Lt (eLenN 8) (eLenN 4)) (tCmp .LtE (eLenN 4) (eVar 2))) (sSeq (sUnp [7, 9] (eIxN 4 (eLenN 8))) (sSeq (sAsgL 10 (eLst aNil)) (sSeq (sFor 11 (iOver (eIx (eIxN 0 (eC (.int 2))) (eVar 7))) (sSeq (sAsg 12 (eTup (aCons (eVar 11) (aCons (eCall pnext_memory (aCons (eVar 1) (aCons (eVar 9) (aCons (eIxN 3 (eVar 11)) aNil)))) aNil)))) (sApp 10 (eNum (eVar 12) 4 5)))) (sApp 8 (eTupleN 10)))))) (sSeq (sIf (tCmp .Gt (eLenN 4) (eVar 2)) r sNop) (sSeq (sAsg 13 (eLc (eTup (aCons (eIx (eIxN 0 (eC (.int 0))) (eVar 7)) (aCons (eVar 9) aNil))) (.many [7, 9]) (iName 4) tTrue [7, 9])) (sSeq (sAsg 14 (eLc (eCall pmeets (aCons (eVar 1) (aCons (eVar 9) aNil))) (.many [7, 9]) (iName 4) tTrue [7, 9])) (sRet (eTup (aCons (eTupleN 13) (aCons (eTupleN 6) (aCons (eTupleN 8) (aCons (eTupleN 14) aNil))))))))))))))))
def cf_track (fns fnsH : List FE) : SCfg := { c := { N := n_track, sc := defScope s_track, fn := fun _ => true, hot := false, l2 := true, num := true, bl := blts, fns := fns }, exc := some "TooMany", loops := true, tr := false, fnsH := fnsH }
theorem tr_track (kmeets kfirst_memory knext_memory klabels_of : Nat) (pmeets pfirst_memory pnext_memory plabels_of : FSp) : trB (cf_track [⟨"meets", kmeets, pmeets⟩, ⟨"first_memory", kfirst_memory, pfirst_memory⟩, ⟨"next_memory", knext_memory, pnext_memory⟩, ⟨"labels_of", klabels_of, plabels_of⟩] []) (defBody s_track) = ir_track pmeets pfirst_memory pnext_memory plabels_of := by kernel_rfl

def irH_track (pmeets pfirst_memory pnext_memory plabels_of : FSp) : Ss := (sSeq (sAsg 3 (eCall plabels_of (aCons (eVar 0) (aCons (eVar 1) aNil)))) (sSeq (sAsgL 4 (eLst aNil)) (sSeq (sNewD 5) (sSeq (sAsgL 6 (eLst aNil)) (sSeq (sFor 7 (iOver (eIxN 0 (eC (.int 1)))) (sApp 6 (eNum (eTup (aCons (eVar 7) (aCons (eCall pfirst_memory (aCons (eVar 1) (aCons (eIxN 3 (eVar 7)) aNil))) aNil))) 4 5))) (sSeq (sAsgL 8 (eLst aNil)) (sSeq (sWhile (tAndM (tCmp .Lt (eLenN 8) (eLenN 4)) (tCmp .LtE (eLenN 4) (eVar 2))) (sSeq (sUnp [7, 9] (eIxN 4 (eLenN 8))) (sSeq (sAsgL 10 (eLst aNil)) (sSeq (sFor 11 (iOver (eIx (eIxN 0 (eC (.int 2))) (eVar 7))) (sSeq (sAsg 12 (eTup (aCons (eVar 11) (aCons (eCall pnext_memory (aCons (eVar 1) (aCons (eVar 9) (aCons (eIxN 3 (eVar 11)) aNil)))) aNil)))) (sApp 10 (eNum (eVar 12) 4 5)))) (sApp 8 (eTupleN 10)))))) (sSeq (sIf (tCmp .Gt (eLenN 4) (eVar 2)) sNever sNop) (sSeq (sAsg 13 (eLc (eTup (aCons (eIx (eIxN 0 (eC (.int 0))) (eVar 7)) (aCons (eVar 9) aNil))) (.many [7, 9]) (iName 4) tTrue [7, 9])) (sSeq (sAsg 14 (eLc (eCall pmeets (aCons (eVar 1) (aCons (eVar 9) aNil))) (.many [7, 9]) (iName 4) tTrue [7, 9])) (sRet (eTup (aCons (eTupleN 13) (aCons (eTupleN 6) (aCons (eTupleN 8) (aCons (eTupleN 14) aNil))))))))))))))))
def cfH_track (fns fnsH : List FE) : SCfg := { c := { N := n_track, sc := defScope s_track, fn := fun _ => true, hot := true, l2 := false, num := true, bl := blts, fns := fns }, exc := none, loops := true, tr := false, fnsH := fnsH }
theorem trH_track (kmeets kfirst_memory knext_memory klabels_of : Nat) (pmeets pfirst_memory pnext_memory plabels_of : FSp) : trB (cfH_track [⟨"meets", kmeets, pmeets⟩, ⟨"first_memory", kfirst_memory, pfirst_memory⟩, ⟨"next_memory", knext_memory, pnext_memory⟩, ⟨"labels_of", klabels_of, plabels_of⟩] []) (defBody s_track) = irH_track pmeets pfirst_memory pnext_memory plabels_of := by kernel_rfl

abbrev s_law_cell : Stmt := top 43
def n_law_cell : List Str := ["_law_script", "_law_k"]
def a_law_cell : List Str := ["_law_script", "_law_k"]
def ir_law_cell : Ss := (sSeq (sIf (tCmp .Lt (eVar 1) (eLenN 0)) (sRet (eIxN 0 (eVar 1))) sNop) (sRet (eC (.int 0))))
def cf_law_cell (fns fnsH : List FE) : SCfg := { c := { N := n_law_cell, sc := defScope s_law_cell, fn := fun _ => true, hot := false, l2 := true, num := false, bl := blts, fns := fns }, exc := none, loops := true, tr := false, fnsH := fnsH }
theorem tr_law_cell : trB (cf_law_cell [] []) (defBody s_law_cell) = ir_law_cell  := by kernel_rfl

abbrev s_law_draw : Stmt := top 44
def n_law_draw : List Str := ["_law_script", "_law_k", "_law_sizes", "_law_cell_here", "_law_drawn", "_law_size", "_law_mixed", "_law_j"]
def a_law_draw : List Str := ["_law_script", "_law_k", "_law_sizes"]
def ir_law_draw (plaw_cell : FSp) : Ss := (sSeq (sAsg 3 (eCall plaw_cell (aCons (eVar 0) (aCons (eVar 1) aNil)))) (sSeq (sIf (tCmp .Lt (eVar 3) (eC (.int 0))) (sAsg 3 (eNeg (eVar 3))) sNop) (sSeq (sAsgL 4 (eLst aNil)) (sSeq (sIf (tCmp .GtE (eVar 3) (eBin .Pow (eC (.int 10)) (eC (.int 18)))) (sSeq (sAsg 3 (eBin .Sub (eVar 3) (eBin .Pow (eC (.int 10)) (eC (.int 18))))) (sSeq (sFor 5 (iName 2) (sSeq (sApp 4 (eBin .Mod (eVar 3) (eVar 5))) (sAsg 3 (eBin .FloorDiv (eVar 3) (eVar 5))))) (sRet (eVar 4)))) sNop) (sSeq (sAsg 6 (eBin .Mod (eBin .Add (eBin .Add (eVar 3) (eC (.int 1))) (eBin .Mult (eC (.int 31)) (eVar 1))) (eC (.int 2147483647)))) (sSeq (sFor 7 (iR1 (eLenN 2)) (sSeq (sAsg 6 (eBin .Mod (eBin .Add (eBin .Add (eBin .Mult (eVar 6) (eC (.int 48271))) (eC (.int 11))) (eVar 7)) (eC (.int 2147483647)))) (sSeq (sAsg 6 (eBin .Mod (eBin .Add (eBin .Mult (eVar 6) (eC (.int 69621))) (eC (.int 3))) (eC (.int 2147483647)))) (sApp 4 (eBin .Mod (eBin .FloorDiv (eVar 6) (eC (.int 7))) (eIxN 2 (eVar 7))))))) (sRet (eVar 4))))))))
def cf_law_draw (fns fnsH : List FE) : SCfg := { c := { N := n_law_draw, sc := defScope s_law_draw, fn := fun _ => true, hot := false, l2 := true, num := false, bl := blts, fns := fns }, exc := none, loops := true, tr := false, fnsH := fnsH }
theorem tr_law_draw (klaw_cell : Nat) (plaw_cell : FSp) : trB (cf_law_draw [⟨"_law_cell", klaw_cell, plaw_cell⟩] []) (defBody s_law_draw) = ir_law_draw plaw_cell := by kernel_rfl

abbrev s_law_term : Stmt := top 45
def n_law_term : List Str := ["_law_digits", "_law_at", "_law_many", "_law_kind", "_law_var", "_law_num"]
def a_law_term : List Str := ["_law_digits", "_law_at", "_law_many"]
def ir_law_term : Ss := (sSeq (sAsg 3 (eBin .Mod (eIxN 0 (eVar 1)) (eC (.int 9)))) (sSeq (sAsg 4 (eTup (aCons (eC (.str "var")) (aCons (eBin .Mod (eIxN 0 (eBin .Add (eVar 1) (eC (.int 1)))) (eVar 2)) aNil)))) (sSeq (sAsg 5 (eTup (aCons (eC (.str "num")) (aCons (eBin .Sub (eBin .Mod (eIxN 0 (eBin .Add (eVar 1) (eC (.int 2)))) (eC (.int 4))) (eC (.int 1))) aNil)))) (sSeq (sIf (tCmp .Eq (eVar 3) (eC (.int 0))) (sRet (eVar 5)) sNop) (sSeq (sIf (tCmp .Eq (eVar 3) (eC (.int 1))) (sRet (eTup (aCons (eC (.str "add")) (aCons (eVar 4) (aCons (eVar 5) aNil))))) sNop) (sSeq (sIf (tCmp .Eq (eVar 3) (eC (.int 2))) (sRet (eTup (aCons (eC (.str "sub")) (aCons (eVar 5) (aCons (eVar 4) aNil))))) sNop) (sSeq (sIf (tCmp .Eq (eVar 3) (eC (.int 3))) (sRet (eTup (aCons (eC (.str "min")) (aCons (eTup (aCons (eC (.str "add")) (aCons (eVar 4) (aCons (eTup (aCons (eC (.str "num")) (aCons (eC (.int 1)) aNil))) aNil)))) (aCons (eVar 5) aNil))))) sNop) (sSeq (sIf (tCmp .Eq (eVar 3) (eC (.int 4))) (sRet (eTup (aCons (eC (.str "max")) (aCons (eVar 4) (aCons (eVar 5) aNil))))) sNop) (sSeq (sIf (tCmp .Eq (eVar 3) (eC (.int 5))) (sRet (eTup (aCons (eC (.str "mul")) (aCons (eVar 5) (aCons (eVar 4) aNil))))) sNop) (sSeq (sIf (tCmp .Eq (eVar 3) (eC (.int 6))) (sRet (eTup (aCons (eC (.str "neg")) (aCons (eTup (aCons (eC (.str "var")) (aCons (eBin .Mod (eIxN 0 (eBin .Add (eVar 1) (eC (.int 2)))) (eVar 2)) aNil))) aNil)))) sNop) (sSeq (sIf (tCmp .Eq (eVar 3) (eC (.int 7))) (sRet (eTup (aCons (eC (.str "sub")) (aCons (eVar 4) (aCons (eTup (aCons (eC (.str "var")) (aCons (eBin .Mod (eIxN 0 (eBin .Add (eVar 1) (eC (.int 2)))) (eVar 2)) aNil))) aNil))))) sNop) (sRet (eVar 4)))))))))))))
def cf_law_term (fns fnsH : List FE) : SCfg := { c := { N := n_law_term, sc := defScope s_law_term, fn := fun _ => true, hot := false, l2 := true, num := false, bl := blts, fns := fns }, exc := none, loops := true, tr := false, fnsH := fnsH }
theorem tr_law_term : trB (cf_law_term [] []) (defBody s_law_term) = ir_law_term  := by kernel_rfl

abbrev s_law_condition : Stmt := top 46
def n_law_condition : List Str := ["_law_digits", "_law_at", "_law_many", "_law_kind", "_law_left", "_law_right"]
def a_law_condition : List Str := ["_law_digits", "_law_at", "_law_many"]
def ir_law_condition (plaw_term : FSp) : Ss := (sSeq (sAsg 3 (eBin .Mod (eIxN 0 (eVar 1)) (eC (.int 7)))) (sSeq (sAsg 4 (eTup (aCons (eC (.str "less")) (aCons (eCall plaw_term (aCons (eVar 0) (aCons (eBin .Add (eVar 1) (eC (.int 1))) (aCons (eVar 2) aNil)))) (aCons (eCall plaw_term (aCons (eVar 0) (aCons (eBin .Add (eVar 1) (eC (.int 4))) (aCons (eVar 2) aNil)))) aNil))))) (sSeq (sAsg 5 (eTup (aCons (eC (.str "same")) (aCons (eTup (aCons (eC (.str "var")) (aCons (eBin .Mod (eIxN 0 (eBin .Add (eVar 1) (eC (.int 5)))) (eVar 2)) aNil))) (aCons (eTup (aCons (eC (.str "num")) (aCons (eBin .Sub (eBin .Mod (eIxN 0 (eBin .Add (eVar 1) (eC (.int 6)))) (eC (.int 3))) (eC (.int 1))) aNil))) aNil))))) (sSeq (sIf (tOrM (tCmp .Eq (eVar 3) (eC (.int 0))) (tCmp .Eq (eVar 3) (eC (.int 1)))) (sRet (eTup (aCons (eC (.str "true")) aNil))) sNop) (sSeq (sIf (tCmp .Eq (eVar 3) (eC (.int 2))) (sRet (eVar 4)) sNop) (sSeq (sIf (tCmp .Eq (eVar 3) (eC (.int 3))) (sRet (eVar 5)) sNop) (sSeq (sIf (tCmp .Eq (eVar 3) (eC (.int 4))) (sRet (eTup (aCons (eC (.str "not")) (aCons (eVar 4) aNil)))) sNop) (sSeq (sIf (tCmp .Eq (eVar 3) (eC (.int 5))) (sRet (eTup (aCons (eC (.str "or")) (aCons (eVar 4) (aCons (eVar 5) aNil))))) sNop) (sRet (eTup (aCons (eC (.str "and")) (aCons (eTup (aCons (eC (.str "not")) (aCons (eVar 5) aNil))) (aCons (eTup (aCons (eC (.str "or")) (aCons (eVar 4) (aCons (eTup (aCons (eC (.str "false")) aNil)) aNil)))) aNil)))))))))))))
def cf_law_condition (fns fnsH : List FE) : SCfg := { c := { N := n_law_condition, sc := defScope s_law_condition, fn := fun _ => true, hot := false, l2 := true, num := false, bl := blts, fns := fns }, exc := none, loops := true, tr := false, fnsH := fnsH }
theorem tr_law_condition (klaw_term : Nat) (plaw_term : FSp) : trB (cf_law_condition [⟨"_law_term", klaw_term, plaw_term⟩] []) (defBody s_law_condition) = ir_law_condition plaw_term := by kernel_rfl

abbrev s_law_move : Stmt := top 47
def n_law_move : List Str := ["_law_script", "_law_k", "_law_at", "_law_first_here", "_law_count", "_law_many", "_law_digits", "_law_settings", "_law_j", "_law_low", "_law_high"]
def a_law_move : List Str := ["_law_script", "_law_k", "_law_at", "_law_first_here", "_law_count", "_law_many"]
def ir_law_move (plaw_draw plaw_term plaw_condition : FSp) : Ss := (sSeq (sAsg 6 (eCall plaw_draw (aCons (eVar 0) (aCons (eVar 1) (aCons (eBin .Mult (eLst (aCons (eC (.int 9)) aNil)) (eC (.int 24))) aNil))))) (sSeq (sAsgL 7 (eLst aNil)) (sSeq (sFor 8 (iR1 (eVar 4)) (sIf (tCmp .NotEq (eBin .Mod (eIxN 6 (eBin .Add (eC (.int 7)) (eVar 8))) (eC (.int 3))) (eC (.int 0))) (sSeq (sAsg 9 (eCall plaw_term (aCons (eVar 6) (aCons (eBin .Add (eC (.int 9)) (eBin .Mult (eC (.int 6)) (eVar 8))) (aCons (eVar 5) aNil))))) (sSeq (sAsg 10 (eVar 9)) (sSeq (sIf (tCmp .Eq (eBin .Mod (eIxN 6 (eBin .Add (eC (.int 7)) (eVar 8))) (eC (.int 3))) (eC (.int 2))) (sAsg 10 (eTup (aCons (eC (.str "add")) (aCons (eVar 9) (aCons (eTup (aCons (eC (.str "num")) (aCons (eBin .Mod (eIxN 6 (eBin .Add (eC (.int 12)) (eBin .Mult (eC (.int 6)) (eVar 8)))) (eC (.int 3))) aNil))) aNil))))) sNop) (sApp 7 (eTup (aCons (eBin .Add (eVar 3) (eVar 8)) (aCons (eVar 9) (aCons (eVar 10) aNil)))))))) sNop)) (sSeq (sIf (tCmp .Eq (eBin .Mod (eIxN 6 (eC (.int 22))) (eC (.int 2))) (eC (.int 1))) (sAsg 7 (eRev (eVar 7))) sNop) (sRet (eTup (aCons (eBin .Add (eC (.str "m")) (eStrI (eVar 2))) (aCons (eCall plaw_condition (aCons (eVar 6) (aCons (eC (.int 0)) (aCons (eVar 5) aNil)))) (aCons (eTupleN 7) aNil)))))))))
def cf_law_move (fns fnsH : List FE) : SCfg := { c := { N := n_law_move, sc := defScope s_law_move, fn := fun _ => true, hot := false, l2 := true, num := false, bl := blts, fns := fns }, exc := none, loops := true, tr := false, fnsH := fnsH }
theorem tr_law_move (klaw_draw klaw_term klaw_condition : Nat) (plaw_draw plaw_term plaw_condition : FSp) : trB (cf_law_move [⟨"_law_draw", klaw_draw, plaw_draw⟩, ⟨"_law_term", klaw_term, plaw_term⟩, ⟨"_law_condition", klaw_condition, plaw_condition⟩] []) (defBody s_law_move) = ir_law_move plaw_draw plaw_term plaw_condition := by kernel_rfl

abbrev s_law_plant : Stmt := top 48
def n_law_plant : List Str := ["_law_script", "_law_head", "_law_counts", "_law_many", "_law_variables", "_law_parts", "_law_at", "_law_p", "_law_first_here", "_law_j", "_law_size", "_law_least", "_law_low", "_law_high", "_law_moves"]
def a_law_plant : List Str := ["_law_script"]
def ir_law_plant (plaw_draw plaw_move plaw_sensors : FSp) : Ss := (sSeq (sAsg 1 (eCall plaw_draw (aCons (eVar 0) (aCons (eC (.int 0)) (aCons (eLst (aCons (eC (.int 3)) (aCons (eC (.int 2)) (aCons (eC (.int 2)) (aCons (eC (.int 2)) (aCons (eC (.int 4)) (aCons (eC (.int 4)) (aCons (eC (.int 4)) (aCons (eC (.int 3)) aNil))))))))) aNil))))) (sSeq (sAsgL 2 (eSlL (eLst (aCons (eBin .Add (eC (.int 1)) (eIxN 1 (eC (.int 1)))) (aCons (eBin .Add (eC (.int 1)) (eIxN 1 (eC (.int 2)))) (aCons (eC (.int 1)) aNil)))) oNone (oSome (eBin .Add (eC (.int 1)) (eMax2 (eC (.int 0)) (eBin .Sub (eIxN 1 (eC (.int 0))) (eIxN 1 (eC (.int 3))))))))) (sSeq (sAsg 3 (eSum (eVar 2))) (sSeq (sAsgL 4 (eLst aNil)) (sSeq (sAsgL 5 (eLst aNil)) (sSeq (sAsg 6 (eC (.int 1))) (sSeq (sFor 7 (iR1 (eLenN 2)) (sSeq (sAsg 8 (eLenN 4)) (sSeq (sFor 9 (iR1 (eIxN 2 (eVar 7))) (sSeq (sAsg 10 (eCall plaw_draw (aCons (eVar 0) (aCons (eVar 6) (aCons (eLst (aCons (eC (.int 3)) (aCons (eC (.int 3)) (aCons (eC (.int 3)) (aCons (eC (.int 3)) aNil))))) aNil))))) (sSeq (sAsg 11 (eBin .Sub (eIxN 10 (eC (.int 0))) (eC (.int 1)))) (sSeq (sAsg 12 (eBin .Add (eVar 11) (eBin .Mod (eIxN 10 (eC (.int 2))) (eBin .Add (eIxN 10 (eC (.int 1))) (eC (.int 1)))))) (sSeq (sAsg 13 (eBin .Add (eVar 12) (eBin .Mod (eIxN 10 (eC (.int 3))) (eBin .Add (eBin .Sub (eBin .Add (eVar 11) (eIxN 10 (eC (.int 1)))) (eVar 12)) (eC (.int 1)))))) (sSeq (sApp 4 (eTup (aCons (eBin .Add (eBin .Add (eBin .Add (eC (.str "p")) (eStrI (eVar 7))) (eC (.str ".v"))) (eStrI (eVar 9))) (aCons (eVar 11) (aCons (eBin .Add (eVar 11) (eIxN 10 (eC (.int 1)))) (aCons (eVar 12) (aCons (eVar 13) aNil))))))) (sAsg 6 (eBin .Add (eVar 6) (eC (.int 1)))))))))) (sSeq (sAsgL 14 (eLst aNil)) (sSeq (sFor 9 (iR1 (eBin .Add (eC (.int 1)) (eBin .Mod (eIxN 1 (eBin .Add (eC (.int 4)) (eBin .Mod (eVar 7) (eC (.int 3))))) (eC (.int 4))))) (sSeq (sApp 14 (eCall plaw_move (aCons (eVar 0) (aCons (eVar 6) (aCons (eVar 9) (aCons (eVar 8) (aCons (eIxN 2 (eVar 7)) (aCons (eVar 3) aNil)))))))) (sAsg 6 (eBin .Add (eVar 6) (eC (.int 1)))))) (sApp 5 (eTup (aCons (eBin .Add (eC (.str "p")) (eStrI (eVar 7))) (aCons (eVar 8) (aCons (eIxN 2 (eVar 7)) (aCons (eTupleN 14) aNil))))))))))) (sRet (eTup (aCons (eTupleN 4) (aCons (eTupleN 5) (aCons (eTuple (eCall plaw_sensors (aCons (eVar 0) (aCons (eVar 3) aNil)))) aNil))))))))))))
def cf_law_plant (fns fnsH : List FE) : SCfg := { c := { N := n_law_plant, sc := defScope s_law_plant, fn := fun _ => true, hot := false, l2 := true, num := false, bl := blts, fns := fns }, exc := none, loops := true, tr := false, fnsH := fnsH }
theorem tr_law_plant (klaw_draw klaw_move klaw_sensors : Nat) (plaw_draw plaw_move plaw_sensors : FSp) : trB (cf_law_plant [⟨"_law_draw", klaw_draw, plaw_draw⟩, ⟨"_law_move", klaw_move, plaw_move⟩, ⟨"_law_sensors", klaw_sensors, plaw_sensors⟩] []) (defBody s_law_plant) = ir_law_plant plaw_draw plaw_move plaw_sensors := by kernel_rfl

abbrev s_law_sensors : Stmt := top 49
def n_law_sensors : List Str := ["_law_script", "_law_many", "_law_sensors_here", "_law_head", "_law_j", "_law_digits"]
def a_law_sensors : List Str := ["_law_script", "_law_many"]
def ir_law_sensors (plaw_draw plaw_term : FSp) : Ss := (sSeq (sAsgL 2 (eLst aNil)) (sSeq (sAsg 3 (eCall plaw_draw (aCons (eVar 0) (aCons (eC (.int 20)) (aCons (eLst (aCons (eC (.int 4)) aNil)) aNil))))) (sSeq (sFor 4 (iR1 (eIx (eLst (aCons (eC (.int 1)) (aCons (eC (.int 0)) (aCons (eC (.int 2)) (aCons (eC (.int 1)) aNil))))) (eIxN 3 (eC (.int 0))))) (sSeq (sAsg 5 (eCall plaw_draw (aCons (eVar 0) (aCons (eBin .Add (eC (.int 21)) (eVar 4)) (aCons (eLst (aCons (eC (.int 9)) (aCons (eC (.int 9)) (aCons (eC (.int 9)) (aCons (eC (.int 3)) (aCons (eC (.int 3)) aNil)))))) aNil))))) (sApp 2 (eTup (aCons (eBin .Add (eC (.str "s")) (eStrI (eVar 4))) (aCons (eCall plaw_term (aCons (eVar 5) (aCons (eC (.int 0)) (aCons (eVar 1) aNil)))) (aCons (eIxN 5 (eC (.int 3))) (aCons (eT (tCmp .Eq (eIxN 5 (eC (.int 4))) (eC (.int 1)))) aNil)))))))) (sRet (eVar 2)))))
def cf_law_sensors (fns fnsH : List FE) : SCfg := { c := { N := n_law_sensors, sc := defScope s_law_sensors, fn := fun _ => true, hot := false, l2 := true, num := false, bl := blts, fns := fns }, exc := none, loops := true, tr := false, fnsH := fnsH }
theorem tr_law_sensors (klaw_draw klaw_term : Nat) (plaw_draw plaw_term : FSp) : trB (cf_law_sensors [⟨"_law_draw", klaw_draw, plaw_draw⟩, ⟨"_law_term", klaw_term, plaw_term⟩] []) (defBody s_law_sensors) = ir_law_sensors plaw_draw plaw_term := by kernel_rfl

abbrev s_law_value : Stmt := top 50
def n_law_value : List Str := ["_law_term_here", "_law_values", "_law_kind", "_law_left", "_law_right"]
def a_law_value : List Str := ["_law_term_here", "_law_values"]
def ir_law_value (plaw_value : FSp) : Ss := (sSeq (sAsg 2 (eIxN 0 (eC (.int 0)))) (sSeq (sIf (tCmp .Eq (eVar 2) (eC (.str "num"))) (sRet (eIxN 0 (eC (.int 1)))) sNop) (sSeq (sIf (tCmp .Eq (eVar 2) (eC (.str "var"))) (sRet (eIxN 1 (eIxN 0 (eC (.int 1))))) sNop) (sSeq (sIf (tCmp .Eq (eVar 2) (eC (.str "neg"))) (sRet (eBin .Sub (eC (.int 0)) (eCall plaw_value (aCons (eIxN 0 (eC (.int 1))) (aCons (eVar 1) aNil))))) sNop) (sSeq (sAsg 3 (eCall plaw_value (aCons (eIxN 0 (eC (.int 1))) (aCons (eVar 1) aNil)))) (sSeq (sAsg 4 (eCall plaw_value (aCons (eIxN 0 (eC (.int 2))) (aCons (eVar 1) aNil)))) (sSeq (sIf (tCmp .Eq (eVar 2) (eC (.str "add"))) (sRet (eBin .Add (eVar 3) (eVar 4))) sNop) (sSeq (sIf (tCmp .Eq (eVar 2) (eC (.str "sub"))) (sRet (eBin .Sub (eVar 3) (eVar 4))) sNop) (sSeq (sIf (tCmp .Eq (eVar 2) (eC (.str "mul"))) (sRet (eBin .Mult (eVar 3) (eVar 4))) sNop) (sSeq (sIf (tCmp .Eq (eT (tCmp .Eq (eVar 2) (eC (.str "min")))) (eT (tCmp .Lt (eVar 3) (eVar 4)))) (sRet (eVar 3)) sNop) (sRet (eVar 4))))))))))))
def cf_law_value (fns fnsH : List FE) : SCfg := { c := { N := n_law_value, sc := defScope s_law_value, fn := fun _ => true, hot := false, l2 := true, num := false, bl := blts, fns := fns }, exc := none, loops := true, tr := false, fnsH := fnsH }
theorem tr_law_value (klaw_value : Nat) (plaw_value : FSp) : trB (cf_law_value [⟨"_law_value", klaw_value, plaw_value⟩] []) (defBody s_law_value) = ir_law_value plaw_value := by kernel_rfl

abbrev s_law_true : Stmt := top 51
def n_law_true : List Str := ["_law_condition_here", "_law_values", "_law_kind"]
def a_law_true : List Str := ["_law_condition_here", "_law_values"]
def ir_law_true (plaw_value plaw_true : FSp) : Ss := (sSeq (sAsg 2 (eIxN 0 (eC (.int 0)))) (sSeq (sIf (tCmp .Eq (eVar 2) (eC (.str "true"))) (sRet (eC (.bool true))) sNop) (sSeq (sIf (tCmp .Eq (eVar 2) (eC (.str "false"))) (sRet (eC (.bool false))) sNop) (sSeq (sIf (tCmp .Eq (eVar 2) (eC (.str "not"))) (sRet (eNot (eCall plaw_true (aCons (eIxN 0 (eC (.int 1))) (aCons (eVar 1) aNil))))) sNop) (sSeq (sIf (tCmp .Eq (eVar 2) (eC (.str "and"))) (sRet (eAnd (eCall plaw_true (aCons (eIxN 0 (eC (.int 1))) (aCons (eVar 1) aNil))) (eCall plaw_true (aCons (eIxN 0 (eC (.int 2))) (aCons (eVar 1) aNil))))) sNop) (sSeq (sIf (tCmp .Eq (eVar 2) (eC (.str "or"))) (sRet (eOr (eCall plaw_true (aCons (eIxN 0 (eC (.int 1))) (aCons (eVar 1) aNil))) (eCall plaw_true (aCons (eIxN 0 (eC (.int 2))) (aCons (eVar 1) aNil))))) sNop) (sSeq (sIf (tCmp .Eq (eVar 2) (eC (.str "less"))) (sRet (eT (tCmp .Lt (eCall plaw_value (aCons (eIxN 0 (eC (.int 1))) (aCons (eVar 1) aNil))) (eCall plaw_value (aCons (eIxN 0 (eC (.int 2))) (aCons (eVar 1) aNil)))))) sNop) (sRet (eT (tCmp .Eq (eCall plaw_value (aCons (eIxN 0 (eC (.int 1))) (aCons (eVar 1) aNil))) (eCall plaw_value (aCons (eIxN 0 (eC (.int 2))) (aCons (eVar 1) aNil)))))))))))))
def cf_law_true (fns fnsH : List FE) : SCfg := { c := { N := n_law_true, sc := defScope s_law_true, fn := fun _ => true, hot := false, l2 := true, num := false, bl := blts, fns := fns }, exc := none, loops := true, tr := false, fnsH := fnsH }
theorem tr_law_true (klaw_value klaw_true : Nat) (plaw_value plaw_true : FSp) : trB (cf_law_true [⟨"_law_value", klaw_value, plaw_value⟩, ⟨"_law_true", klaw_true, plaw_true⟩] []) (defBody s_law_true) = ir_law_true plaw_value plaw_true := by kernel_rfl

abbrev s_law_box : Stmt := top 52
def n_law_box : List Str := ["_law_rows", "_law_choices", "_law_out", "_law_row_here", "_law_choice"]
def a_law_box : List Str := ["_law_rows", "_law_choices"]
def ir_law_box : Ss := (sSeq (sAsgL 2 (eLst aNil)) (sSeq (sFor 3 (iName 0) (sFor 4 (iName 1) (sApp 2 (eBin .Add (eVar 3) (eTup (aCons (eVar 4) aNil)))))) (sRet (eVar 2))))
def cf_law_box (fns fnsH : List FE) : SCfg := { c := { N := n_law_box, sc := defScope s_law_box, fn := fun _ => true, hot := false, l2 := true, num := false, bl := blts, fns := fns }, exc := none, loops := true, tr := false, fnsH := fnsH }
theorem tr_law_box : trB (cf_law_box [] []) (defBody s_law_box) = ir_law_box  := by kernel_rfl

abbrev s_law_part_next : Stmt := top 53
def n_law_part_next : List Str := ["_law_plant_here", "_law_part", "_law_values", "_law_found", "_law_move_here", "_law_rows", "_law_number", "_law_choices", "_law_setting_here", "_law_low", "_law_high", "_law_least", "_law_row_here", "_law_x"]
def a_law_part_next : List Str := ["_law_plant_here", "_law_part", "_law_values"]
def ir_law_part_next (plaw_value plaw_true plaw_box : FSp) : Ss := (sSeq (sAsgL 3 (eLst aNil)) (sSeq (sFor 4 (iOver (eIxN 1 (eC (.int 3)))) (sSeq (sAsgL 5 (eLst (aCons (eTup aNil) aNil))) (sSeq (sIf (tNotM (tV (eCall plaw_true (aCons (eIxN 4 (eC (.int 1))) (aCons (eVar 2) aNil))))) (sAsgL 5 (eLst aNil)) sNop) (sSeq (sFor 6 (iR2 (eIxN 1 (eC (.int 1))) (eBin .Add (eIxN 1 (eC (.int 1))) (eIxN 1 (eC (.int 2))))) (sSeq (sAsgL 7 (eLst (aCons (eIxN 2 (eVar 6)) aNil))) (sSeq (sFor 8 (iOver (eIxN 4 (eC (.int 2)))) (sIf (tCmp .Eq (eIxN 8 (eC (.int 0))) (eVar 6)) (sSeq (sAsg 9 (eCall plaw_value (aCons (eIxN 8 (eC (.int 1))) (aCons (eVar 2) aNil)))) (sSeq (sAsg 10 (eCall plaw_value (aCons (eIxN 8 (eC (.int 2))) (aCons (eVar 2) aNil)))) (sSeq (sAsg 11 (eIx (eIx (eIxN 0 (eC (.int 0))) (eVar 6)) (eC (.int 1)))) (sAsg 7 (eLc (eVar 13) (.one 13) (iR2 (eVar 11) (eBin .Add (eIx (eIx (eIxN 0 (eC (.int 0))) (eVar 6)) (eC (.int 2))) (eC (.int 1)))) (tAndM (tCmp .LtE (eVar 9) (eVar 13)) (tCmp .LtE (eVar 13) (eVar 10))) [13]))))) sNop)) (sAsg 5 (eCall plaw_box (aCons (eVar 5) (aCons (eVar 7) aNil))))))) (sFor 12 (iName 5) (sIf (tNin (eVar 12) 3) (sApp 3 (eVar 12)) sNop)))))) (sRet (eVar 3))))
def cf_law_part_next (fns fnsH : List FE) : SCfg := { c := { N := n_law_part_next, sc := defScope s_law_part_next, fn := fun _ => true, hot := false, l2 := true, num := false, bl := blts, fns := fns }, exc := none, loops := true, tr := false, fnsH := fnsH }
theorem tr_law_part_next (klaw_value klaw_true klaw_box : Nat) (plaw_value plaw_true plaw_box : FSp) : trB (cf_law_part_next [⟨"_law_value", klaw_value, plaw_value⟩, ⟨"_law_true", klaw_true, plaw_true⟩, ⟨"_law_box", klaw_box, plaw_box⟩] []) (defBody s_law_part_next) = ir_law_part_next plaw_value plaw_true plaw_box := by kernel_rfl

abbrev s_law_next : Stmt := top 54
def n_law_next : List Str := ["_law_plant_here", "_law_values", "_law_rows", "_law_part", "_law_options", "_law_wider", "_law_row_here", "_law_option"]
def a_law_next : List Str := ["_law_plant_here", "_law_values"]
def ir_law_next (plaw_part_next : FSp) : Ss := (sSeq (sAsgL 2 (eLst (aCons (eTup aNil) aNil))) (sSeq (sFor 3 (iOver (eIxN 0 (eC (.int 1)))) (sSeq (sAsg 4 (eCall plaw_part_next (aCons (eVar 0) (aCons (eVar 3) (aCons (eVar 1) aNil))))) (sSeq (sAsgL 5 (eLst aNil)) (sSeq (sFor 6 (iName 2) (sFor 7 (iName 4) (sApp 5 (eBin .Add (eVar 6) (eVar 7))))) (sAsg 2 (eVar 5)))))) (sRet (eVar 2))))
def cf_law_next (fns fnsH : List FE) : SCfg := { c := { N := n_law_next, sc := defScope s_law_next, fn := fun _ => true, hot := false, l2 := true, num := false, bl := blts, fns := fns }, exc := none, loops := true, tr := false, fnsH := fnsH }
theorem tr_law_next (klaw_part_next : Nat) (plaw_part_next : FSp) : trB (cf_law_next [⟨"_law_part_next", klaw_part_next, plaw_part_next⟩] []) (defBody s_law_next) = ir_law_next plaw_part_next := by kernel_rfl

abbrev s_law_first : Stmt := top 55
def n_law_first : List Str := ["_law_plant_here", "_law_rows", "_law_variable"]
def a_law_first : List Str := ["_law_plant_here"]
def ir_law_first (plaw_box : FSp) : Ss := (sSeq (sAsgL 1 (eLst (aCons (eTup aNil) aNil))) (sSeq (sFor 2 (iOver (eIxN 0 (eC (.int 0)))) (sAsg 1 (eCall plaw_box (aCons (eVar 1) (aCons (eListR (eIxN 2 (eC (.int 3))) (eBin .Add (eIxN 2 (eC (.int 4))) (eC (.int 1)))) aNil))))) (sRet (eVar 1))))
def cf_law_first (fns fnsH : List FE) : SCfg := { c := { N := n_law_first, sc := defScope s_law_first, fn := fun _ => true, hot := false, l2 := true, num := false, bl := blts, fns := fns }, exc := none, loops := true, tr := false, fnsH := fnsH }
theorem tr_law_first (klaw_box : Nat) (plaw_box : FSp) : trB (cf_law_first [⟨"_law_box", klaw_box, plaw_box⟩] []) (defBody s_law_first) = ir_law_first plaw_box := by kernel_rfl

abbrev s_law_fact : Stmt := top 56
def n_law_fact : List Str := ["_law_digits", "_law_at", "_law_depth", "_law_many", "_law_kind", "_law_condition_here", "_law_inner"]
def a_law_fact : List Str := ["_law_digits", "_law_at", "_law_depth", "_law_many"]
def ir_law_fact (plaw_fact : FSp) : Ss := (sSeq (sAsg 4 (eBin .Mod (eIxN 0 (eBin .Mod (eVar 1) (eLenN 0))) (eC (.int 9)))) (sSeq (sIf (tOrM (tCmp .Eq (eVar 2) (eC (.int 0))) (tCmp .Lt (eVar 4) (eC (.int 3)))) (sSeq (sAsg 5 (eTup (aCons (eC (.str "same")) (aCons (eTup (aCons (eC (.str "var")) (aCons (eBin .Mod (eIxN 0 (eBin .Mod (eBin .Add (eVar 1) (eC (.int 1))) (eLenN 0))) (eVar 3)) aNil))) (aCons (eTup (aCons (eC (.str "num")) (aCons (eBin .Sub (eBin .Mod (eIxN 0 (eBin .Mod (eBin .Add (eVar 1) (eC (.int 2))) (eLenN 0))) (eC (.int 3))) (eC (.int 1))) aNil))) aNil))))) (sSeq (sIf (tCmp .Eq (eVar 4) (eC (.int 1))) (sAsg 5 (eTup (aCons (eC (.str "less")) (aCons (eTup (aCons (eC (.str "var")) (aCons (eBin .Mod (eIxN 0 (eBin .Mod (eBin .Add (eVar 1) (eC (.int 1))) (eLenN 0))) (eVar 3)) aNil))) (aCons (eTup (aCons (eC (.str "num")) (aCons (eBin .Mod (eIxN 0 (eBin .Mod (eBin .Add (eVar 1) (eC (.int 2))) (eLenN 0))) (eC (.int 3))) aNil))) aNil))))) sNop) (sRet (eTup (aCons (eC (.str "holds")) (aCons (eVar 5) aNil)))))) sNop) (sSeq (sAsg 6 (eCall plaw_fact (aCons (eVar 0) (aCons (eBin .Add (eVar 1) (eC (.int 3))) (aCons (eBin .Sub (eVar 2) (eC (.int 1))) (aCons (eVar 3) aNil)))))) (sSeq (sIf (tCmp .Eq (eVar 4) (eC (.int 3))) (sRet (eTup (aCons (eC (.str "not")) (aCons (eVar 6) aNil)))) sNop) (sSeq (sIf (tCmp .Eq (eVar 4) (eC (.int 4))) (sRet (eTup (aCons (eC (.str "next")) (aCons (eVar 6) aNil)))) sNop) (sSeq (sIf (tCmp .Eq (eVar 4) (eC (.int 5))) (sRet (eTup (aCons (eC (.str "can")) (aCons (eVar 6) aNil)))) sNop) (sSeq (sIf (tCmp .Eq (eVar 4) (eC (.int 6))) (sRet (eTup (aCons (eC (.str "must")) (aCons (eVar 6) aNil)))) sNop) (sSeq (sIf (tCmp .Eq (eVar 4) (eC (.int 7))) (sRet (eTup (aCons (eC (.str "mustin")) (aCons (eBin .Mod (eIxN 0 (eBin .Mod (eBin .Add (eVar 1) (eC (.int 1))) (eLenN 0))) (eC (.int 4))) (aCons (eVar 6) aNil))))) sNop) (sRet (eTup (aCons (eC (.str "and")) (aCons (eVar 6) (aCons (eTup (aCons (eC (.str "canin")) (aCons (eBin .Mod (eIxN 0 (eBin .Mod (eBin .Add (eVar 1) (eC (.int 2))) (eLenN 0))) (eC (.int 3))) (aCons (eCall plaw_fact (aCons (eVar 0) (aCons (eBin .Add (eVar 1) (eC (.int 5))) (aCons (eBin .Sub (eVar 2) (eC (.int 1))) (aCons (eVar 3) aNil))))) aNil)))) aNil)))))))))))))
def cf_law_fact (fns fnsH : List FE) : SCfg := { c := { N := n_law_fact, sc := defScope s_law_fact, fn := fun _ => true, hot := false, l2 := true, num := false, bl := blts, fns := fns }, exc := none, loops := true, tr := false, fnsH := fnsH }
theorem tr_law_fact (klaw_fact : Nat) (plaw_fact : FSp) : trB (cf_law_fact [⟨"_law_fact", klaw_fact, plaw_fact⟩] []) (defBody s_law_fact) = ir_law_fact plaw_fact := by kernel_rfl

abbrev s_law_wish : Stmt := top 57
def n_law_wish : List Str := ["_law_digits", "_law_at", "_law_depth", "_law_many", "_law_kind", "_law_inner", "_law_other"]
def a_law_wish : List Str := ["_law_digits", "_law_at", "_law_depth", "_law_many"]
def ir_law_wish (plaw_fact plaw_wish : FSp) : Ss := (sSeq (sAsg 4 (eBin .Mod (eIxN 0 (eBin .Mod (eVar 1) (eLenN 0))) (eC (.int 9)))) (sSeq (sIf (tOrM (tCmp .Eq (eVar 2) (eC (.int 0))) (tCmp .Eq (eVar 4) (eC (.int 0)))) (sRet (eTup (aCons (eC (.str "fact")) (aCons (eCall plaw_fact (aCons (eVar 0) (aCons (eBin .Add (eVar 1) (eC (.int 1))) (aCons (eC (.int 1)) (aCons (eVar 3) aNil))))) aNil)))) sNop) (sSeq (sAsg 5 (eCall plaw_wish (aCons (eVar 0) (aCons (eBin .Add (eVar 1) (eC (.int 1))) (aCons (eBin .Sub (eVar 2) (eC (.int 1))) (aCons (eVar 3) aNil)))))) (sSeq (sIf (tCmp .Eq (eVar 4) (eC (.int 1))) (sRet (eTup (aCons (eC (.str "not")) (aCons (eVar 5) aNil)))) sNop) (sSeq (sIf (tOrM (tCmp .Eq (eVar 4) (eC (.int 2))) (tCmp .Eq (eVar 4) (eC (.int 3)))) (sRet (eTup (aCons (eC (.str "once")) (aCons (eVar 5) aNil)))) sNop) (sSeq (sIf (tCmp .Eq (eVar 4) (eC (.int 4))) (sRet (eTup (aCons (eC (.str "before")) (aCons (eVar 5) aNil)))) sNop) (sSeq (sIf (tCmp .Eq (eVar 4) (eC (.int 5))) (sRet (eTup (aCons (eC (.str "oncein")) (aCons (eBin .Mod (eIxN 0 (eBin .Mod (eBin .Add (eVar 1) (eC (.int 3))) (eLenN 0))) (eC (.int 4))) (aCons (eVar 5) aNil))))) sNop) (sSeq (sAsg 6 (eCall plaw_wish (aCons (eVar 0) (aCons (eBin .Add (eVar 1) (eC (.int 7))) (aCons (eBin .Sub (eVar 2) (eC (.int 1))) (aCons (eVar 3) aNil)))))) (sSeq (sIf (tCmp .Eq (eVar 4) (eC (.int 6))) (sRet (eTup (aCons (eC (.str "and")) (aCons (eVar 5) (aCons (eVar 6) aNil))))) sNop) (sSeq (sIf (tCmp .Eq (eVar 4) (eC (.int 7))) (sRet (eTup (aCons (eC (.str "or")) (aCons (eVar 5) (aCons (eVar 6) aNil))))) sNop) (sRet (eTup (aCons (eC (.str "since")) (aCons (eVar 5) (aCons (eVar 6) aNil)))))))))))))))
def cf_law_wish (fns fnsH : List FE) : SCfg := { c := { N := n_law_wish, sc := defScope s_law_wish, fn := fun _ => true, hot := false, l2 := true, num := false, bl := blts, fns := fns }, exc := none, loops := true, tr := false, fnsH := fnsH }
theorem tr_law_wish (klaw_fact klaw_wish : Nat) (plaw_fact plaw_wish : FSp) : trB (cf_law_wish [⟨"_law_fact", klaw_fact, plaw_fact⟩, ⟨"_law_wish", klaw_wish, plaw_wish⟩] []) (defBody s_law_wish) = ir_law_wish plaw_fact plaw_wish := by kernel_rfl

abbrev s_law_alike : Stmt := top 58
def n_law_alike : List Str := ["_law_actual", "_law_expected", "_law_k"]
def a_law_alike : List Str := ["_law_actual", "_law_expected"]
def ir_law_alike (plaw_alike : FSp) : Ss := (sSeq (sIf (tCmp .Is (eVar 1) (eC .none)) (sRet (eT (tCmp .Is (eVar 0) (eC .none)))) sNop) (sSeq (sIf (tV (eInst (eVar 1) .b)) (sRet (eAnd (eInst (eVar 0) .b) (eT (tCmp .Eq (eVar 0) (eVar 1))))) sNop) (sSeq (sIf (tV (eInst (eVar 1) .i)) (sRet (eAnd (eInst (eVar 0) .i) (eAnd (eNot (eInst (eVar 0) .b)) (eT (tCmp .Eq (eVar 0) (eVar 1)))))) sNop) (sSeq (sIf (tV (eInst (eVar 1) .s)) (sRet (eAnd (eInst (eVar 0) .s) (eT (tCmp .Eq (eVar 0) (eVar 1))))) sNop) (sSeq (sIf (tAndM (tV eNever) (tNotM (tV eNever))) (sRet (eC (.bool false))) sNop) (sSeq (sIf (tAndM (tV eNever) (tNotM (tV eNever))) (sRet (eC (.bool false))) sNop) (sSeq (sIf (tCmp .NotEq (eLenN 0) (eLenN 1)) (sRet (eC (.bool false))) sNop) (sSeq (sFor 2 (iR1 (eLenN 1)) (sIf (tNotM (tV (eCall plaw_alike (aCons (eIxN 0 (eVar 2)) (aCons (eIxN 1 (eVar 2)) aNil))))) (sRet (eC (.bool false))) sNop)) (sRet (eC (.bool true)))))))))))
def cf_law_alike (fns fnsH : List FE) : SCfg := { c := { N := n_law_alike, sc := defScope s_law_alike, fn := fun _ => true, hot := false, l2 := true, num := false, bl := blts, fns := fns }, exc := none, loops := true, tr := false, fnsH := fnsH }
theorem tr_law_alike (klaw_alike : Nat) (plaw_alike : FSp) : trB (cf_law_alike [⟨"_law_alike", klaw_alike, plaw_alike⟩] []) (defBody s_law_alike) = ir_law_alike plaw_alike := by kernel_rfl

abbrev s_law_states : Stmt := top 59
def n_law_states : List Str := ["_law_plant_here", "_law_most", "_law_found", "_law_known", "_law_values", "_law_k", "_law_later"]
def a_law_states : List Str := ["_law_plant_here", "_law_most"]
def ir_law_states (plaw_next plaw_first : FSp) : Ss := (sSeq (sAsgL 2 (eSlL (eCall plaw_first (aCons (eVar 0) aNil)) oNone (oSome (eBin .Add (eVar 1) (eC (.int 1)))))) (sSeq (sNewD 3) (sSeq (sFor 4 (iName 2) (sPut 3 (eVar 4) (eC (.bool true)))) (sSeq (sFor 5 (iR1 (eBin .Add (eVar 1) (eC (.int 1)))) (sIf (tAndM (tCmp .Lt (eVar 5) (eLenN 2)) (tCmp .LtE (eLenN 2) (eVar 1))) (sFor 6 (iOver (eCall plaw_next (aCons (eVar 0) (aCons (eIxN 2 (eVar 5)) aNil)))) (sIf (tNin (eVar 6) 3) (sSeq (sPut 3 (eVar 6) (eC (.bool true))) (sApp 2 (eVar 6))) sNop)) sNop)) (sRet (eVar 2))))))
def cf_law_states (fns fnsH : List FE) : SCfg := { c := { N := n_law_states, sc := defScope s_law_states, fn := fun _ => true, hot := false, l2 := true, num := false, bl := blts, fns := fns }, exc := none, loops := true, tr := false, fnsH := fnsH }
theorem tr_law_states (klaw_next klaw_first : Nat) (plaw_next plaw_first : FSp) : trB (cf_law_states [⟨"_law_next", klaw_next, plaw_next⟩, ⟨"_law_first", klaw_first, plaw_first⟩] []) (defBody s_law_states) = ir_law_states plaw_next plaw_first := by kernel_rfl

abbrev s_law_steps : Stmt := top 60
def n_law_steps : List Str := ["_law_plant_here", "_law_states_here", "_law_places", "_law_k", "_law_steps_here", "_law_values", "_law_later"]
def a_law_steps : List Str := ["_law_plant_here", "_law_states_here"]
def ir_law_steps (plaw_next : FSp) : Ss := (sSeq (sNewD 2) (sSeq (sFor 3 (iR1 (eLenN 1)) (sPut 2 (eIxN 1 (eVar 3)) (eVar 3))) (sSeq (sAsgL 4 (eLst aNil)) (sSeq (sFor 5 (iName 1) (sApp 4 (eTuple (eLc (eIxN 2 (eVar 6)) (.one 6) (iOver (eCall plaw_next (aCons (eVar 0) (aCons (eVar 5) aNil)))) tTrue [6])))) (sRet (eVar 4))))))
def cf_law_steps (fns fnsH : List FE) : SCfg := { c := { N := n_law_steps, sc := defScope s_law_steps, fn := fun _ => true, hot := false, l2 := true, num := false, bl := blts, fns := fns }, exc := none, loops := true, tr := false, fnsH := fnsH }
theorem tr_law_steps (klaw_next : Nat) (plaw_next : FSp) : trB (cf_law_steps [⟨"_law_next", klaw_next, plaw_next⟩] []) (defBody s_law_steps) = ir_law_steps plaw_next := by kernel_rfl

abbrev s_law_machine : Stmt := top 61
def n_law_machine : List Str := ["_law_plant_here", "_law_states_here"]
def a_law_machine : List Str := ["_law_plant_here", "_law_states_here"]
def ir_law_machine (plaw_first plaw_steps : FSp) : Ss := (sRet (eTup (aCons (eTupleN 1) (aCons (eTupR (eLen (eCall plaw_first (aCons (eVar 0) aNil)))) (aCons (eTuple (eCall plaw_steps (aCons (eVar 0) (aCons (eVar 1) aNil)))) aNil)))))
def cf_law_machine (fns fnsH : List FE) : SCfg := { c := { N := n_law_machine, sc := defScope s_law_machine, fn := fun _ => true, hot := false, l2 := true, num := false, bl := blts, fns := fns }, exc := none, loops := true, tr := false, fnsH := fnsH }
theorem tr_law_machine (klaw_first klaw_steps : Nat) (plaw_first plaw_steps : FSp) : trB (cf_law_machine [⟨"_law_first", klaw_first, plaw_first⟩, ⟨"_law_steps", klaw_steps, plaw_steps⟩] []) (defBody s_law_machine) = ir_law_machine plaw_first plaw_steps := by kernel_rfl

abbrev s_law_pick : Stmt := top 62
def n_law_pick : List Str := ["_law_script", "_law_k", "_law_count"]
def a_law_pick : List Str := ["_law_script", "_law_k", "_law_count"]
def ir_law_pick (plaw_draw : FSp) : Ss := (sRet (eIx (eCall plaw_draw (aCons (eVar 0) (aCons (eVar 1) (aCons (eLst (aCons (eMax2 (eC (.int 1)) (eVar 2)) aNil)) aNil)))) (eC (.int 0))))
def cf_law_pick (fns fnsH : List FE) : SCfg := { c := { N := n_law_pick, sc := defScope s_law_pick, fn := fun _ => true, hot := false, l2 := true, num := false, bl := blts, fns := fns }, exc := none, loops := true, tr := false, fnsH := fnsH }
theorem tr_law_pick (klaw_draw : Nat) (plaw_draw : FSp) : trB (cf_law_pick [⟨"_law_draw", klaw_draw, plaw_draw⟩] []) (defBody s_law_pick) = ir_law_pick plaw_draw := by kernel_rfl

abbrev s_law_readings : Stmt := top 63
def n_law_readings : List Str := ["_law_plant_here", "_law_values", "_law_rows", "_law_sensor", "_law_value_here", "_law_options"]
def a_law_readings : List Str := ["_law_plant_here", "_law_values"]
def ir_law_readings (plaw_value plaw_box : FSp) : Ss := (sSeq (sAsgL 2 (eLst (aCons (eTup aNil) aNil))) (sSeq (sFor 3 (iOver (eIxN 0 (eC (.int 2)))) (sSeq (sAsg 4 (eCall plaw_value (aCons (eIxN 3 (eC (.int 1))) (aCons (eVar 1) aNil)))) (sSeq (sAsgL 5 (eListR (eBin .Sub (eVar 4) (eIxN 3 (eC (.int 2)))) (eBin .Add (eBin .Add (eVar 4) (eIxN 3 (eC (.int 2)))) (eC (.int 1))))) (sSeq (sIf (tV (eIxN 3 (eC (.int 3)))) (sAsg 5 (eBin .Add (eVar 5) (eLst (aCons (eC .none) aNil)))) sNop) (sAsg 2 (eCall plaw_box (aCons (eVar 2) (aCons (eVar 5) aNil)))))))) (sRet (eVar 2))))
def cf_law_readings (fns fnsH : List FE) : SCfg := { c := { N := n_law_readings, sc := defScope s_law_readings, fn := fun _ => true, hot := false, l2 := true, num := false, bl := blts, fns := fns }, exc := none, loops := true, tr := false, fnsH := fnsH }
theorem tr_law_readings (klaw_value klaw_box : Nat) (plaw_value plaw_box : FSp) : trB (cf_law_readings [⟨"_law_value", klaw_value, plaw_value⟩, ⟨"_law_box", klaw_box, plaw_box⟩] []) (defBody s_law_readings) = ir_law_readings plaw_value plaw_box := by kernel_rfl

abbrev s_law_row : Stmt := top 64
def n_law_row : List Str := ["_law_plant_here", "_law_script", "_law_k", "_law_count", "_law_row_here", "_law_options", "_law_j", "_law_digits", "_law_values", "_law_shown", "_law_reading", "_law_variable"]
def a_law_row : List Str := ["_law_plant_here", "_law_script", "_law_k", "_law_count"]
def ir_law_row (plaw_draw plaw_next plaw_first plaw_readings : FSp) : Ss := (sSeq (sAsgL 4 (eLst aNil)) (sSeq (sAsg 5 (eCall plaw_first (aCons (eVar 0) aNil))) (sSeq (sFor 6 (iR1 (eVar 3)) (sSeq (sAsg 7 (eCall plaw_draw (aCons (eVar 1) (aCons (eBin .Add (eVar 2) (eVar 6)) (aCons (eLst (aCons (eC (.int 12)) (aCons (eC (.int 97)) (aCons (eC (.int 97)) (aCons (eC (.int 9)) (aCons (eC (.int 7)) aNil)))))) aNil))))) (sSeq (sAsg 8 (eTuple (eLc (eC (.int 0)) (.one 11) (iOver (eIxN 0 (eC (.int 0)))) tTrue [11]))) (sSeq (sIf (tCmp .Gt (eLenN 5) (eC (.int 0))) (sSeq (sAsg 8 (eIxN 5 (eBin .Mod (eIxN 7 (eC (.int 1))) (eLenN 5)))) (sAsg 5 (eCall plaw_next (aCons (eVar 0) (aCons (eVar 8) aNil))))) sNop) (sSeq (sAsg 9 (eCall plaw_readings (aCons (eVar 0) (aCons (eVar 8) aNil)))) (sSeq (sAsgL 10 (eList (eIxN 9 (eBin .Mod (eIxN 7 (eC (.int 2))) (eLenN 9))))) (sSeq (sIf (tAndM (tCmp .Gt (eLenN 10) (eC (.int 0))) (tCmp .Eq (eIxN 7 (eC (.int 0))) (eC (.int 1)))) (sPut 10 (eBin .Mod (eIxN 7 (eC (.int 3))) (eLenN 10)) (eC .none)) sNop) (sSeq (sIf (tAndM (tCmp .Gt (eLenN 10) (eC (.int 0))) (tCmp .Eq (eIxN 7 (eC (.int 0))) (eC (.int 2)))) (sPut 10 (eBin .Mod (eIxN 7 (eC (.int 3))) (eLenN 10)) (eBin .Sub (eIxN 7 (eC (.int 4))) (eC (.int 3)))) sNop) (sSeq (sIf (tCmp .Eq (eIxN 7 (eC (.int 0))) (eC (.int 3))) (sAsgL 10 (eSlL (eBin .Add (eVar 10) (eLst (aCons (eC (.int 0)) aNil))) oNone (oSome (eIxN 7 (eC (.int 3)))))) sNop) (sApp 4 (eTupleN 10))))))))))) (sRet (eVar 4)))))
def cf_law_row (fns fnsH : List FE) : SCfg := { c := { N := n_law_row, sc := defScope s_law_row, fn := fun _ => true, hot := false, l2 := true, num := false, bl := blts, fns := fns }, exc := none, loops := true, tr := false, fnsH := fnsH }
theorem tr_law_row (klaw_draw klaw_next klaw_first klaw_readings : Nat) (plaw_draw plaw_next plaw_first plaw_readings : FSp) : trB (cf_law_row [⟨"_law_draw", klaw_draw, plaw_draw⟩, ⟨"_law_next", klaw_next, plaw_next⟩, ⟨"_law_first", klaw_first, plaw_first⟩, ⟨"_law_readings", klaw_readings, plaw_readings⟩] []) (defBody s_law_row) = ir_law_row plaw_draw plaw_next plaw_first plaw_readings := by kernel_rfl

abbrev s_law_setting : Stmt := top 65
def n_law_setting : List Str := ["_law_script", "_law_most", "_law_plant_here", "_law_states_here", "_law_sensors_here", "_law_moves", "_law_sensor"]
def a_law_setting : List Str := ["_law_script", "_law_most"]
def ir_law_setting (plaw_plant plaw_states : FSp) : Ss := (sSeq (sAsg 2 (eCall plaw_plant (aCons (eVar 0) aNil))) (sSeq (sAsg 3 (eCall plaw_states (aCons (eVar 2) (aCons (eVar 1) aNil)))) (sSeq (sIf (tCmp .LtE (eLenN 3) (eVar 1)) (sRet (eTup (aCons (eVar 2) (aCons (eVar 3) aNil)))) sNop) (sSeq (sAsg 4 (eLc (eVar 6) (.one 6) (iOver (eIxN 2 (eC (.int 2)))) (tCmp .Eq (eIx (eIxN 6 (eC (.int 1))) (eC (.int 0))) (eC (.str "num"))) [6])) (sSeq (sAsg 5 (eTup (aCons (eTup (aCons (eC (.str "m")) (aCons (eTup (aCons (eC (.str "true")) aNil)) (aCons (eTup (aCons (eTup (aCons (eC (.int 0)) (aCons (eTup (aCons (eC (.str "num")) (aCons (eIx (eIx (eIxN 2 (eC (.int 0))) (eC (.int 0))) (eC (.int 1))) aNil))) (aCons (eTup (aCons (eC (.str "num")) (aCons (eIx (eIx (eIxN 2 (eC (.int 0))) (eC (.int 0))) (eC (.int 2))) aNil))) aNil)))) aNil)) aNil)))) (aCons (eTup (aCons (eC (.str "n")) (aCons (eTup (aCons (eC (.str "true")) aNil)) (aCons (eTup aNil) aNil)))) aNil)))) (sSeq (sAsg 2 (eTup (aCons (eSl (eIxN 2 (eC (.int 0))) oNone (oSome (eC (.int 1)))) (aCons (eTup (aCons (eTup (aCons (eC (.str "p0")) (aCons (eC (.int 0)) (aCons (eC (.int 1)) (aCons (eVar 5) aNil))))) aNil)) (aCons (eTupleN 4) aNil))))) (sRet (eTup (aCons (eVar 2) (aCons (eCall plaw_states (aCons (eVar 2) (aCons (eVar 1) aNil))) aNil))))))))))
def cf_law_setting (fns fnsH : List FE) : SCfg := { c := { N := n_law_setting, sc := defScope s_law_setting, fn := fun _ => true, hot := false, l2 := true, num := false, bl := blts, fns := fns }, exc := none, loops := true, tr := false, fnsH := fnsH }
theorem tr_law_setting (klaw_plant klaw_states : Nat) (plaw_plant plaw_states : FSp) : trB (cf_law_setting [⟨"_law_plant", klaw_plant, plaw_plant⟩, ⟨"_law_states", klaw_states, plaw_states⟩] []) (defBody s_law_setting) = ir_law_setting plaw_plant plaw_states := by kernel_rfl

abbrev s_law_depth_wish : Stmt := top 66
def n_law_depth_wish : List Str := ["_law_script", "_law_k", "_law_many", "_law_digits"]
def a_law_depth_wish : List Str := ["_law_script", "_law_k", "_law_many"]
def ir_law_depth_wish (plaw_draw plaw_wish : FSp) : Ss := (sSeq (sAsg 3 (eCall plaw_draw (aCons (eVar 0) (aCons (eVar 1) (aCons (eBin .Mult (eLst (aCons (eC (.int 97)) aNil)) (eC (.int 40))) aNil))))) (sRet (eCall plaw_wish (aCons (eVar 3) (aCons (eC (.int 0)) (aCons (eBin .Add (eC (.int 1)) (eBin .Mod (eIxN 3 (eC (.int 39))) (eC (.int 3)))) (aCons (eVar 2) aNil)))))))
def cf_law_depth_wish (fns fnsH : List FE) : SCfg := { c := { N := n_law_depth_wish, sc := defScope s_law_depth_wish, fn := fun _ => true, hot := false, l2 := true, num := false, bl := blts, fns := fns }, exc := none, loops := true, tr := false, fnsH := fnsH }
theorem tr_law_depth_wish (klaw_draw klaw_wish : Nat) (plaw_draw plaw_wish : FSp) : trB (cf_law_depth_wish [⟨"_law_draw", klaw_draw, plaw_draw⟩, ⟨"_law_wish", klaw_wish, plaw_wish⟩] []) (defBody s_law_depth_wish) = ir_law_depth_wish plaw_draw plaw_wish := by kernel_rfl

abbrev s_law_tracked : Stmt := top 67
def n_law_tracked : List Str := ["_law_script", "_law_k", "_law_most", "_law_plant_here", "_law_states_here", "_law_wish_here", "_law_machine_here", "_law_tracked_here"]
def a_law_tracked : List Str := ["_law_script", "_law_k", "_law_most"]
def ir_law_tracked (ptrack plaw_machine plaw_setting plaw_depth_wish htrack : FSp) : Ss := (sSeq (sUnp [3, 4] (eCall plaw_setting (aCons (eVar 0) (aCons (eC (.int 12)) aNil)))) (sSeq (sAsg 5 (eCall plaw_depth_wish (aCons (eVar 0) (aCons (eVar 1) (aCons (eLen (eIxN 3 (eC (.int 0)))) aNil))))) (sSeq (sAsg 6 (eCall plaw_machine (aCons (eVar 3) (aCons (eVar 4) aNil)))) (sSeq (sAsg 7 (eC .none)) (sSeq (sTry (sAsg 7 (eCall ptrack (aCons (eVar 6) (aCons (eVar 5) (aCons (eVar 2) aNil))))) (sSeq (sAsg 5 (eTup (aCons (eC (.str "fact")) (aCons (eTup (aCons (eC (.str "holds")) (aCons (eTup (aCons (eC (.str "same")) (aCons (eTup (aCons (eC (.str "var")) (aCons (eC (.int 0)) aNil))) (aCons (eTup (aCons (eC (.str "num")) (aCons (eIx (eIx (eIxN 3 (eC (.int 0))) (eC (.int 0))) (eC (.int 2))) aNil))) aNil)))) aNil))) aNil)))) (sAsg 7 (eCall htrack (aCons (eVar 6) (aCons (eVar 5) (aCons (eVar 2) aNil))))))) (sRet (eTup (aCons (eVar 3) (aCons (eVar 6) (aCons (eVar 5) (aCons (eVar 7) aNil)))))))))))
def cf_law_tracked (fns fnsH : List FE) : SCfg := { c := { N := n_law_tracked, sc := defScope s_law_tracked, fn := fun _ => true, hot := false, l2 := true, num := false, bl := blts, fns := fns }, exc := some "TooMany", loops := true, tr := true, fnsH := fnsH }
theorem tr_law_tracked (ktrack klaw_machine klaw_setting klaw_depth_wish ltrack : Nat) (ptrack plaw_machine plaw_setting plaw_depth_wish htrack : FSp) : trB (cf_law_tracked [⟨"track", ktrack, ptrack⟩, ⟨"_law_machine", klaw_machine, plaw_machine⟩, ⟨"_law_setting", klaw_setting, plaw_setting⟩, ⟨"_law_depth_wish", klaw_depth_wish, plaw_depth_wish⟩] [⟨"track", ltrack, htrack⟩]) (defBody s_law_tracked) = ir_law_tracked ptrack plaw_machine plaw_setting plaw_depth_wish htrack := by kernel_rfl

abbrev s_law : Stmt := top 68
def n_law : List Str := ["_law_script", "_law_plant_here", "_law_machine_here", "_law_wish_here", "_law_tracked_here", "_law_row_here", "_law_monitor", "_law_t", "_law_told"]
def a_law : List Str := ["_law_script"]
def ir_law (ppossible_readings pjudge pbuild psays plaw_alike plaw_pick plaw_row plaw_tracked : FSp) : Ss := (sSeq (sUnp [1, 2, 3, 4] (eCall plaw_tracked (aCons (eVar 0) (aCons (eC (.int 30)) (aCons (eC (.int 60)) aNil))))) (sSeq (sAsg 5 (eCall plaw_row (aCons (eVar 1) (aCons (eVar 0) (aCons (eC (.int 32)) (aCons (eCall plaw_pick (aCons (eVar 0) (aCons (eC (.int 31)) (aCons (eC (.int 10)) aNil)))) aNil)))))) (sSeq (sAsg 6 (eC .none)) (sSeq (sTry (sAsg 6 (eCall pbuild (aCons (eVar 1) (aCons (eVar 4) (aCons (eCall ppossible_readings (aCons (eVar 1) (aCons (eVar 2) (aCons (eC (.int 8)) aNil)))) (aCons (eC (.int 40)) aNil)))))) (sRet (eC (.bool true)))) (sSeq (sFor 7 (iR1 (eBin .Add (eLenN 5) (eC (.int 1)))) (sSeq (sAsg 8 (eCall pjudge (aCons (eVar 1) (aCons (eVar 4) (aCons (eSl (eVar 5) oNone (oSome (eVar 7))) aNil))))) (sIf (tOrM (tNotM (tV (eInst (eVar 8) .s))) (tNotM (tV (eCall plaw_alike (aCons (eCall psays (aCons (eVar 6) (aCons (eSl (eVar 5) oNone (oSome (eVar 7))) aNil))) (aCons (eVar 8) aNil)))))) (sRet (eC (.bool false))) sNop))) (sRet (eC (.bool true))))))))
def cf_law (fns fnsH : List FE) : SCfg := { c := { N := n_law, sc := defScope s_law, fn := fun _ => true, hot := false, l2 := true, num := false, bl := blts, fns := fns }, exc := some "TooMany", loops := true, tr := true, fnsH := fnsH }
theorem tr_law (kpossible_readings kjudge kbuild ksays klaw_alike klaw_pick klaw_row klaw_tracked : Nat) (ppossible_readings pjudge pbuild psays plaw_alike plaw_pick plaw_row plaw_tracked : FSp) : trB (cf_law [⟨"possible_readings", kpossible_readings, ppossible_readings⟩, ⟨"judge", kjudge, pjudge⟩, ⟨"build", kbuild, pbuild⟩, ⟨"says", ksays, psays⟩, ⟨"_law_alike", klaw_alike, plaw_alike⟩, ⟨"_law_pick", klaw_pick, plaw_pick⟩, ⟨"_law_row", klaw_row, plaw_row⟩, ⟨"_law_tracked", klaw_tracked, plaw_tracked⟩] []) (defBody s_law) = ir_law ppossible_readings pjudge pbuild psays plaw_alike plaw_pick plaw_row plaw_tracked := by kernel_rfl

end Wd

/-! C1: how the combinators are run on data: equations that simp uses. -/
namespace Wd
open PySem PySem.Spec PyProof.Rows L2
/-- an equation that simp is to keep as a step -/
theorem nr {a b : Prop} (h : a = b) : a = b := h
theorem ofString_inj {s t : String} (h : Str.ofString s = Str.ofString t) : s = t := by
  rw [Str.ofString_eq_toList, Str.ofString_eq_toList] at h
  have h := congrArg (fun x : Str => x.cps.toList) h
  simp only [List.toList_toArray] at h
  have : s.toList = t.toList := by
    apply List.map_inj_right (f := Char.toNat) (fun a b e => Char.toNat_inj.mp e) |>.mp h
  exact String.toList_inj.mp this
@[simp] theorem strEq (s t : String) : (Str.ofString s = Str.ofString t) ↔ s = t := ⟨ofString_inj, fun e => by rw [e]⟩
/-! what simp leaves to us, and does not look into -/
def CallG (sp : FSp) (xs : List D) (G1 : Gm) (P : D → Gm → Prop) (E : Gm → Prop) : Prop := sp xs (fun d => P d G1) (E G1)
def NumG (x : D) (i j : Nat) (G1 : Gm) (P : D → Gm → Prop) : Prop := match G1[i]?, G1[j]? with
  | some (.ow l (.lst ds)), some (.ow m (.dct true kvs)) =>
    (match keyOf true x with
    | some k => (match dlook kvs k with
      | some v => (ds.length ≤ 1000000 ∧ kvs.length ≤ 1000000) ∧ P v G1
      | none => (ds.length ≤ 1000000 ∧ kvs.length ≤ 1000000) ∧ P (.int ds.length) ((G1.set i (.ow l (.lst (ds ++ [x])))).set j (.ow m (.dct true (dput kvs k (.int ds.length))))))
    | none => False)
  | _, _ => False
def LcG (elt : Sm) (tg : Tg) (cond : Tm) (own : List Nat) (ds : List D) (stay : Gm → Prop) (G1 : Gm) (P : D → Gm → Prop) : Prop :=
  noOw G1 own = true ∧ stay (wipeG G1 own) ∧ ds.length ≤ 1000000 ∧ ∃ I : Nat → List D → Prop, I 0 [] ∧
    (∀ k d acc, ds[k]? = some d → I k acc → acc.length ≤ k → ∃ Gb, setTg (wipeG G1 own) d tg = some Gb ∧
      cond Gb (fun c G2 => G2 = Gb ∧ if c = true then elt Gb (fun r G3 => G3 = Gb ∧ I (k + 1) (acc ++ [r])) (fun _ => False) else I (k + 1) acc) (fun _ => False)) ∧
    ∀ acc, acc.length ≤ ds.length → I ds.length acc → P (.list acc) G1
def Lc2G (elt : Sm) (j j2 : Nat) (it2 : Im) (own : List Nat) (ds : List D) (stay : Gm → Prop) (G1 : Gm) (P : D → Gm → Prop) : Prop :=
  noOw G1 own = true ∧ stay (wipeG G1 own) ∧ ∃ I : Nat → List D → Prop, I 0 [] ∧
    (∀ k d acc, ds[k]? = some d → I k acc →
      it2 ((wipeG G1 own).set j (.im d)) (fun es stay2 G2 => G2 = (wipeG G1 own).set j (.im d) ∧ stay2 (G2.set j2 .un) ∧ ∃ L : Nat → List D → Prop, L 0 acc ∧
        (∀ m e acc2, es[m]? = some e → L m acc2 → acc2.length < 1000000 ∧ elt (G2.set j2 (.im e)) (fun r G3 => G3 = G2.set j2 (.im e) ∧ L (m + 1) (acc2 ++ [r])) (fun _ => False)) ∧
        ∀ acc2, L es.length acc2 → I (k + 1) acc2) (fun _ => False)) ∧
    ∀ acc, I ds.length acc → P (.list acc) G1
def ForG (j : Nat) (ds : List D) (stay : Gm → Prop) (body : Ss) (G1 : Gm) (P : Out → Prop) : Prop := ∃ I : Nat → Gm → Prop, I 0 G1 ∧ (∀ k G', k ≤ ds.length → I k G' → stay G') ∧
  (∀ k d G', ds[k]? = some d → I k G' → body (G'.set j (.im d)) (loopO (I (k + 1)) P)) ∧ ∀ G', I ds.length G' → P (.nx G')
def WhG (t : Tm) (body : Ss) (G : Gm) (P : Out → Prop) : Prop := ∃ I : Nat → Gm → Prop, (∃ m, I m G) ∧ ∀ m G', I m G' →
  t G' (fun b G1 => if b = true then body G1 (loopO (fun G2 => ∃ m', m' < m ∧ I m' G2) P) else P (.nx G1)) (fun G2 => P (.ex G2))
/-- name = a list -/
def AsgLG (j : Nat) (e : Sm) (G : Gm) (P : Out → Prop) : Prop := sAsgL j e G P
theorem asgL_own {j : Nat} {e : Sm} {G : Gm} {P : Out → Prop} (h : e G (fun d G1 => match d with | .list ds => ∀ l, P (.nx (G1.set j (.ow l (.lst ds)))) | _ => False) (fun G1 => P (.ex G1))) : AsgLG j e G P := .inl h
theorem asgL_im {j : Nat} {e : Sm} {G : Gm} {P : Out → Prop} (h : sAsg j e G P) : AsgLG j e G P := .inr h
def NewDG (j : Nat) (G : Gm) (P : Out → Prop) : Prop := ∃ tp : Bool, ∀ l, P (.nx (G.set j (.ow l (.dct tp []))))
section
variable {G : Gm} {s0 : Slot} {E : Gm → Prop}
@[simp ↓] theorem eVar_ {i : Nat} {P : D → Gm → Prop} : eVar i (s0 :: G) P E = (match (s0 :: G)[i]? with
  | some (.im d) => P d (s0 :: G)
  | some (.ow _ (.lst ds)) => P (.list ds) ((s0 :: G).set i (.im (.list ds)))
  | _ => False) := nr rfl
@[simp ↓] theorem eC_ {d : D} {P : D → Gm → Prop} : eC d (s0 :: G) P E = P d (s0 :: G) := nr rfl
@[simp ↓] theorem eBin_ {op : Operator} {a b : Sm} {P : D → Gm → Prop} : eBin op a b (s0 :: G) P E = a (s0 :: G) (fun x G1 => b G1 (fun y G2 => opB op x y fun d => P d G2) E) E := nr rfl
@[simp ↓] theorem eNeg_ {a : Sm} {P : D → Gm → Prop} : eNeg a (s0 :: G) P E = a (s0 :: G) (fun x G1 => match x with | .int i => P (.int (-i)) G1 | _ => False) E := nr rfl
@[simp ↓] theorem eNot_ {a : Sm} {P : D → Gm → Prop} : eNot a (s0 :: G) P E = a (s0 :: G) (fun x G1 => match x with | .bool b => P (.bool (!b)) G1 | _ => False) E := nr rfl
@[simp ↓] theorem eAnd_ {a b : Sm} {P : D → Gm → Prop} : eAnd a b (s0 :: G) P E = a (s0 :: G) (fun x G1 => match x with | .bool true => b G1 P E | .bool false => P (.bool false) G1 | _ => False) E := nr rfl
@[simp ↓] theorem eOr_ {a b : Sm} {P : D → Gm → Prop} : eOr a b (s0 :: G) P E = a (s0 :: G) (fun x G1 => match x with | .bool false => b G1 P E | .bool true => P (.bool true) G1 | _ => False) E := nr rfl
@[simp ↓] theorem tCmp_ {op : CmpOp} {a b : Sm} {P : Bool → Gm → Prop} : tCmp op a b (s0 :: G) P E = a (s0 :: G) (fun x G1 => b G1 (fun y G2 => cmpB op x y fun c => P c G2) E) E := nr rfl
@[simp ↓] theorem tNin_ {a : Sm} {i : Nat} {P : Bool → Gm → Prop} : tNin a i (s0 :: G) P E = a (s0 :: G) (fun x G1 =>
  match G1[i]? with
  | some (.ow _ (.dct tp kvs)) => (match keyOf tp x with | some k => P (!(dlook kvs k).isSome) G1 | none => False)
  | some (.ow _ (.lst ds)) => (SeqAt.shaped x = true ∧ SeqAt.shaped (.list ds) = true) ∧ P (!ds.any fun z => PyData.eqv z x) G1
  | _ => False) E := nr rfl
@[simp ↓] theorem eT_ {t : Tm} {P : D → Gm → Prop} : eT t (s0 :: G) P E = t (s0 :: G) (fun b G1 => P (.bool b) G1) E := nr rfl
@[simp ↓] theorem tV_ {a : Sm} {P : Bool → Gm → Prop} : tV a (s0 :: G) P E = a (s0 :: G) (fun x G1 => match x with | .bool b => P b G1 | _ => False) E := nr rfl
@[simp ↓] theorem tAndM_ {t u : Tm} {P : Bool → Gm → Prop} : tAndM t u (s0 :: G) P E = t (s0 :: G) (fun b G1 => if b = true then u G1 P E else P false G1) E := nr rfl
@[simp ↓] theorem tOrM_ {t u : Tm} {P : Bool → Gm → Prop} : tOrM t u (s0 :: G) P E = t (s0 :: G) (fun b G1 => if b = true then P true G1 else u G1 P E) E := nr rfl
@[simp ↓] theorem tNotM_ {t : Tm} {P : Bool → Gm → Prop} : tNotM t (s0 :: G) P E = t (s0 :: G) (fun b G1 => P (!b) G1) E := nr rfl
@[simp ↓] theorem tTrue_ {P : Bool → Gm → Prop} : tTrue (s0 :: G) P E = P true (s0 :: G) := nr rfl
@[simp ↓] theorem eIf_ {t : Tm} {a b : Sm} {P : D → Gm → Prop} : eIf t a b (s0 :: G) P E = t (s0 :: G) (fun c G1 => if c = true then a G1 P E else b G1 P E) E := nr rfl
@[simp ↓] theorem eIx_ {a b : Sm} {P : D → Gm → Prop} : eIx a b (s0 :: G) P E = a (s0 :: G) (fun x G1 => b G1 (fun y G2 => ixD x y fun d => P d G2) E) E := nr rfl
@[simp ↓] theorem eIxN_ {i : Nat} {b : Sm} {P : D → Gm → Prop} : eIxN i b (s0 :: G) P E = ((∃ s, (s0 :: G)[i]? = some s ∧ s ≠ .un) ∧ b (s0 :: G) (fun y G1 =>
  match G1[i]? with
  | some (.im x) => ixD x y fun d => P d G1
  | some (.ow _ (.lst ds)) => ixD (.list ds) y fun d => P d G1
  | some (.ow _ (.dct tp kvs)) => (match keyOf tp y with | some k => (match dlook kvs k with | some d => P d G1 | none => False) | none => False)
  | _ => False) E) := nr rfl
@[simp ↓] theorem oNone_ {P : Option Int → Gm → Prop} : oNone (s0 :: G) P E = P none (s0 :: G) := nr rfl
@[simp ↓] theorem oSome_ {a : Sm} {P : Option Int → Gm → Prop} : oSome a (s0 :: G) P E = a (s0 :: G) (fun x G1 => match x with | .int i => P (some i) G1 | _ => False) E := nr rfl
@[simp ↓] theorem eSl_ {a : Sm} {lo hi : Om} {P : D → Gm → Prop} : eSl a lo hi (s0 :: G) P E = a (s0 :: G) (fun x G1 => lo G1 (fun l G2 => hi G2 (fun h G3 => slD x l h fun d => P d G3) E) E) E := nr rfl
@[simp ↓] theorem eSlL_ {a : Sm} {lo hi : Om} {P : D → Gm → Prop} : eSlL a lo hi (s0 :: G) P E = a (s0 :: G) (fun x G1 => match x with
  | .list ds => lo G1 (fun l G2 => hi G2 (fun h G3 => P (.list (cutD ds l h)) G3) E) E
  | _ => False) E := nr rfl
@[simp ↓] theorem eRev_ {a : Sm} {P : D → Gm → Prop} : eRev a (s0 :: G) P E = a (s0 :: G) (fun x G1 => match x with | .list ds => P (.list ds.reverse) G1 | _ => False) E := nr rfl
@[simp ↓] theorem aNil_ {P : List D → Gm → Prop} : aNil (s0 :: G) P E = P [] (s0 :: G) := nr rfl
@[simp ↓] theorem aCons_ {a : Sm} {r : Am} {P : List D → Gm → Prop} : aCons a r (s0 :: G) P E = a (s0 :: G) (fun x G1 => r G1 (fun xs G2 => P (x :: xs) G2) E) E := nr rfl
@[simp ↓] theorem eTup_ {as : Am} {P : D → Gm → Prop} : eTup as (s0 :: G) P E = as (s0 :: G) (fun xs G1 => xs.length ≤ 1000000 ∧ P (.tuple xs) G1) E := nr rfl
@[simp ↓] theorem eLst_ {as : Am} {P : D → Gm → Prop} : eLst as (s0 :: G) P E = as (s0 :: G) (fun xs G1 => xs.length ≤ 1000000 ∧ P (.list xs) G1) E := nr rfl
@[simp ↓] theorem eLen_ {a : Sm} {P : D → Gm → Prop} : eLen a (s0 :: G) P E = a (s0 :: G) (fun x G1 => lenD x fun n => P (.int n) G1) E := nr rfl
@[simp ↓] theorem eLenN_ {i : Nat} {P : D → Gm → Prop} : eLenN i (s0 :: G) P E = (match (s0 :: G)[i]? with
  | some (.im x) => lenD x fun n => P (.int n) (s0 :: G)
  | some (.ow _ (.lst ds)) => P (.int ds.length) (s0 :: G)
  | some (.ow _ (.dct _ kvs)) => kvs.length ≤ 1000000 ∧ P (.int kvs.length) (s0 :: G)
  | _ => False) := nr rfl
@[simp ↓] theorem eTuple_ {a : Sm} {P : D → Gm → Prop} : eTuple a (s0 :: G) P E = a (s0 :: G) (fun x G1 => match x with | .list ds => P (.tuple ds) G1 | .tuple ds => P (.tuple ds) G1 | _ => False) E := nr rfl
@[simp ↓] theorem eTupleN_ {i : Nat} {P : D → Gm → Prop} : eTupleN i (s0 :: G) P E = (match (s0 :: G)[i]? with
  | some (.im (.list ds)) => P (.tuple ds) (s0 :: G)
  | some (.im (.tuple ds)) => P (.tuple ds) (s0 :: G)
  | some (.ow _ (.lst ds)) => P (.tuple ds) (s0 :: G)
  | _ => False) := nr rfl
@[simp ↓] theorem eList_ {a : Sm} {P : D → Gm → Prop} : eList a (s0 :: G) P E = a (s0 :: G) (fun x G1 => match x with | .list ds => P (.list ds) G1 | .tuple ds => P (.list ds) G1 | _ => False) E := nr rfl
@[simp ↓] theorem eKeysN_ {i : Nat} {P : D → Gm → Prop} : eKeysN i (s0 :: G) P E = (match (s0 :: G)[i]? with
  | some (.ow _ (.dct false kvs)) => P (.list (kvs.map fun p => unkey p.1)) (s0 :: G)
  | _ => False) := nr rfl
@[simp ↓] theorem eListR_ {a b : Sm} {P : D → Gm → Prop} : eListR a b (s0 :: G) P E = a (s0 :: G) (fun x G1 => b G1 (fun y G2 => match x, y with | .int i, .int j => RgOk i j ∧ P (.list (rgD i j)) G2 | _, _ => False) E) E := nr rfl
@[simp ↓] theorem eTupR_ {b : Sm} {P : D → Gm → Prop} : eTupR b (s0 :: G) P E = b (s0 :: G) (fun y G2 => match y with | .int j => RgOk 0 j ∧ P (.tuple (rgD 0 j)) G2 | _ => False) E := nr rfl
@[simp ↓] theorem eSum_ {a : Sm} {P : D → Gm → Prop} : eSum a (s0 :: G) P E = a (s0 :: G) (fun x G1 => match x with | .list ds => (match intsOf ds with | some ns => P (.int ns.sum) G1 | none => False) | _ => False) E := nr rfl
@[simp ↓] theorem eMax2_ {a b : Sm} {P : D → Gm → Prop} : eMax2 a b (s0 :: G) P E = a (s0 :: G) (fun x G1 => b G1 (fun y G2 => match x, y with | .int i, .int j => P (.int (if j > i then j else i)) G2 | _, _ => False) E) E := nr rfl
@[simp ↓] theorem eMin2_ {a b : Sm} {P : D → Gm → Prop} : eMin2 a b (s0 :: G) P E = a (s0 :: G) (fun x G1 => b G1 (fun y G2 => match x, y with | .int i, .int j => P (.int (if j < i then j else i)) G2 | _, _ => False) E) E := nr rfl
@[simp ↓] theorem eMaxD_ {a : Sm} {P : D → Gm → Prop} : eMaxD a (s0 :: G) P E = a (s0 :: G) (fun x G1 => match x with
  | .list ds => (match intsOf ds with | some ns => (ns = [] → P (.int 0) G1) ∧ ∀ m, m ∈ ns → (∀ y, y ∈ ns → y ≤ m) → P (.int m) G1 | none => False)
  | _ => False) E := nr rfl
@[simp ↓] theorem eInt_ {a : Sm} {P : D → Gm → Prop} : eInt a (s0 :: G) P E = a (s0 :: G) (fun x G1 => match x with | .bool b => P (.int (if b = true then 1 else 0)) G1 | _ => False) E := nr rfl
@[simp ↓] theorem eAbs_ {a : Sm} {P : D → Gm → Prop} : eAbs a (s0 :: G) P E = a (s0 :: G) (fun x G1 => match x with | .int i => P (.int (if i < 0 then -i else i)) G1 | _ => False) E := nr rfl
@[simp ↓] theorem eStrI_ {a : Sm} {P : D → Gm → Prop} : eStrI a (s0 :: G) P E = a (s0 :: G) (fun x G1 => match x with | .int i => (0 ≤ i ∧ i ≤ 1000) ∧ ∀ t : Str, t.length ≤ 20 → P (.str t) G1 | _ => False) E := nr rfl
@[simp ↓] theorem eSorted_ {a : Sm} {P : D → Gm → Prop} : eSorted a (s0 :: G) P E = a (s0 :: G) (fun x G1 => match x with | .list ds => (match intsOf ds with | some ns => ∀ ns' : List Int, ns'.Perm ns → ns'.Pairwise (· ≤ ·) → P (.list (ns'.map .int)) G1 | none => False) | _ => False) E := nr rfl
@[simp ↓] theorem eInst_ {a : Sm} {T : Ty3} {P : D → Gm → Prop} : eInst a T (s0 :: G) P E = a (s0 :: G) (fun x G1 => instB T x fun b => P (.bool b) G1) E := nr rfl
@[simp ↓] theorem eCall_ {sp : FSp} {as : Am} {P : D → Gm → Prop} : eCall sp as (s0 :: G) P E = as (s0 :: G) (fun xs G1 => CallG sp xs G1 P E) E := nr rfl
@[simp ↓] theorem eNum_ {a : Sm} {i j : Nat} {P : D → Gm → Prop} : eNum a i j (s0 :: G) P E = a (s0 :: G) (fun x G1 => NumG x i j G1 P) E := nr rfl
@[simp ↓] theorem eLc_ {elt : Sm} {tg : Tg} {it : Im} {cond : Tm} {own : List Nat} {P : D → Gm → Prop} : eLc elt tg it cond own (s0 :: G) P E = it (s0 :: G) (fun ds stay G1 => LcG elt tg cond own ds stay G1 P) E := nr rfl
@[simp ↓] theorem eLc2_ {elt : Sm} {j : Nat} {it : Im} {j2 : Nat} {it2 : Im} {own : List Nat} {P : D → Gm → Prop} : eLc2 elt j it j2 it2 own (s0 :: G) P E = it (s0 :: G) (fun ds stay G1 => Lc2G elt j j2 it2 own ds stay G1 P) E := nr rfl
@[simp ↓] theorem iOver_ {a : Sm} {P : List D → (Gm → Prop) → Gm → Prop} : iOver a (s0 :: G) P E = a (s0 :: G) (fun x G1 => match x with | .list ds => P ds (fun _ => True) G1 | .tuple ds => P ds (fun _ => True) G1 | _ => False) E := nr rfl
@[simp ↓] theorem iName_ {i : Nat} {P : List D → (Gm → Prop) → Gm → Prop} : iName i (s0 :: G) P E = (match (s0 :: G)[i]? with
  | some (.im (.list ds)) => P ds (fun _ => True) (s0 :: G)
  | some (.im (.tuple ds)) => P ds (fun _ => True) (s0 :: G)
  | some (.ow l (.lst ds)) => P ds (fun G' => G'[i]? = some (.ow l (.lst ds))) (s0 :: G)
  | _ => False) := nr rfl
@[simp ↓] theorem iR1_ {a : Sm} {P : List D → (Gm → Prop) → Gm → Prop} : iR1 a (s0 :: G) P E = a (s0 :: G) (fun x G1 => match x with | .int n => (-(2 ^ 62) ≤ n ∧ n < 2 ^ 62) ∧ P (rgD 0 n) (fun _ => True) G1 | _ => False) E := nr rfl
@[simp ↓] theorem iR2_ {a b : Sm} {P : List D → (Gm → Prop) → Gm → Prop} : iR2 a b (s0 :: G) P E = a (s0 :: G) (fun x G1 => b G1 (fun y G2 => match x, y with
  | .int i, .int j => (-(2 ^ 62) ≤ i ∧ i < 2 ^ 62 ∧ -(2 ^ 62) ≤ j ∧ j < 2 ^ 62) ∧ P (rgD i j) (fun _ => True) G2
  | _, _ => False) E) E := nr rfl
end
section
variable {G : Gm} {s0 : Slot} {P : Out → Prop}
@[simp ↓] theorem sNop_ : sNop (s0 :: G) P = P (.nx (s0 :: G)) := nr rfl
@[simp ↓] theorem sSeq_ {a b : Ss} : sSeq a b (s0 :: G) P = a (s0 :: G) (fun o => match o with | .nx G1 => b G1 P | o => P o) := nr rfl
@[simp ↓] theorem sAsg_ {j : Nat} {e : Sm} : sAsg j e (s0 :: G) P = e (s0 :: G) (fun d G1 => P (.nx (G1.set j (.im d)))) (fun G1 => P (.ex G1)) := nr rfl
@[simp ↓] theorem sPut_ {i : Nat} {k v : Sm} : sPut i k v (s0 :: G) P = v (s0 :: G) (fun y G1 => (∃ s, G1[i]? = some s ∧ s ≠ .un) ∧ k G1 (fun x G2 =>
  match G2[i]? with
  | some (.ow l (.dct tp kvs)) => (match keyOf tp x with | some q => kvs.length ≤ 1000000 ∧ P (.nx (G2.set i (.ow l (.dct tp (dput kvs q y))))) | none => False)
  | some (.ow l (.lst ds)) => (match x with | .int z => (match ixN ds.length z with | some m => P (.nx (G2.set i (.ow l (.lst (ds.set m y))))) | none => False) | _ => False)
  | _ => False) (fun G' => P (.ex G'))) (fun G' => P (.ex G')) := nr rfl
@[simp ↓] theorem sApp_ {i : Nat} {e : Sm} : sApp i e (s0 :: G) P = ((∃ l ds, (s0 :: G)[i]? = some (.ow l (.lst ds))) ∧ e (s0 :: G) (fun y G1 =>
  match G1[i]? with
  | some (.ow l (.lst ds)) => ds.length ≤ 1000000 ∧ P (.nx (G1.set i (.ow l (.lst (ds ++ [y])))))
  | _ => False) (fun G' => P (.ex G'))) := nr rfl
@[simp ↓] theorem sAug_ {i : Nat} {e : Sm} : sAug i e (s0 :: G) P = (∃ n : Int, (s0 :: G)[i]? = some (.im (.int n)) ∧ e (s0 :: G) (fun y G1 => match y with | .int z => P (.nx (G1.set i (.im (.int (n + z))))) | _ => False) (fun G' => P (.ex G'))) := nr rfl
@[simp ↓] theorem sUnp_ {js : List Nat} {e : Sm} : sUnp js e (s0 :: G) P = e (s0 :: G) (fun d G1 => match setTg G1 d (.many js) with | some G2 => P (.nx G2) | none => False) (fun G' => P (.ex G')) := nr rfl
@[simp ↓] theorem sIf_ {t : Tm} {a b : Ss} : sIf t a b (s0 :: G) P = t (s0 :: G) (fun c G1 => if c = true then a G1 P else b G1 P) (fun G' => P (.ex G')) := nr rfl
@[simp ↓] theorem sRet_ {e : Sm} : sRet e (s0 :: G) P = e (s0 :: G) (fun d G1 => P (.rt d G1)) (fun G' => P (.ex G')) := nr rfl
@[simp ↓] theorem sRaise_ : sRaise (s0 :: G) P = P (.ex (s0 :: G)) := nr rfl
@[simp ↓] theorem sAsgL_ {j : Nat} {e : Sm} : sAsgL j e (s0 :: G) P = AsgLG j e (s0 :: G) P := nr rfl
@[simp ↓] theorem sNewD_ {j : Nat} : sNewD j (s0 :: G) P = NewDG j (s0 :: G) P := nr rfl
@[simp ↓] theorem sNewD1_ {j : Nat} {a b : Sm} : sNewD1 j a b (s0 :: G) P = a (s0 :: G) (fun x G1 => b G1 (fun y G2 => match keyOf false x with | some k => ∀ l, P (.nx (G2.set j (.ow l (.dct false [(k, y)])))) | none => False) (fun _ => False)) (fun _ => False) := nr rfl
@[simp ↓] theorem sFor_ {j : Nat} {it : Im} {body : Ss} : sFor j it body (s0 :: G) P = it (s0 :: G) (fun ds stay G1 => ForG j ds stay body G1 P) (fun G' => P (.ex G')) := nr rfl
@[simp ↓] theorem sWhile_ {t : Tm} {body : Ss} : sWhile t body (s0 :: G) P = WhG t body (s0 :: G) P := nr rfl
@[simp ↓] theorem loop_nx {I : Gm → Prop} : loopO I P (.nx G) = I G := nr rfl
@[simp ↓] theorem loop_ct {I : Gm → Prop} : loopO I P (.ct G) = I G := nr rfl
@[simp ↓] theorem loop_bk {I : Gm → Prop} : loopO I P (.bk G) = P (.nx G) := nr rfl
@[simp ↓] theorem loop_rt {I : Gm → Prop} {d : D} : loopO I P (.rt d G) = P (.rt d G) := nr rfl
@[simp ↓] theorem loop_ex {I : Gm → Prop} : loopO I P (.ex G) = P (.ex G) := nr rfl
@[simp ↓] theorem goal_rt {hot : Bool} {Pd : D → Prop} {Px : Prop} {d : D} : goal hot Pd Px (.rt d G) = Pd d := nr rfl
@[simp ↓] theorem goal_nx {hot : Bool} {Pd : D → Prop} {Px : Prop} : goal hot Pd Px (.nx G) = Pd .none := nr rfl
@[simp ↓] theorem goal_ex {hot : Bool} {Pd : D → Prop} {Px : Prop} : goal hot Pd Px (.ex G) = (hot = false ∧ Px) := nr rfl
@[simp ↓] theorem sTry_ {a b : Ss} : sTry a b (s0 :: G) P = a (s0 :: G) (fun o => match o with
  | .ex G1 => b G1 fun o' => match o' with | .ex _ => False | o' => P o'
  | o => P o) := nr rfl
end
/-! operations -/
section
variable {k : D → Prop} {kb : Bool → Prop}
@[simp] theorem add_int {i j : Int} : opB .Add (.int i) (.int j) k = k (.int (i + j)) := nr rfl
@[simp] theorem add_tup {a b : List D} : opB .Add (.tuple a) (.tuple b) k = (a.length + b.length ≤ 1000000 ∧ k (.tuple (a ++ b))) := nr rfl
@[simp] theorem add_lst {a b : List D} : opB .Add (.list a) (.list b) k = (a.length + b.length ≤ 1000000 ∧ k (.list (a ++ b))) := nr rfl
@[simp] theorem add_str {a b : Str} : opB .Add (.str a) (.str b) k = (a.length + b.length ≤ 100000 ∧ k (.str (a ++ b))) := nr rfl
@[simp] theorem sub_int {i j : Int} : opB .Sub (.int i) (.int j) k = k (.int (i - j)) := nr rfl
@[simp] theorem mul_int {i j : Int} : opB .Mult (.int i) (.int j) k = (CMul i j ∧ k (.int (i * j))) := nr rfl
@[simp] theorem mul_lst {a : List D} {j : Int} : opB .Mult (.list a) (.int j) k = ((0 ≤ j ∧ j ≤ 1000 ∧ a.length ≤ 1000) ∧ k (.list (List.replicate j.toNat a).flatten)) := nr rfl
@[simp] theorem mod_int {i j : Int} : opB .Mod (.int i) (.int j) k = (0 < j ∧ k (.int (i % j))) := nr rfl
@[simp] theorem div_int {i j : Int} : opB .FloorDiv (.int i) (.int j) k = (CDiv i j ∧ k (.int (i / j))) := nr rfl
@[simp] theorem pow_int {i j : Int} : opB .Pow (.int i) (.int j) k = (CPow i j ∧ k (.int (i ^ j.toNat))) := nr rfl
@[simp] theorem eq_int {i j : Int} : cmpB .Eq (.int i) (.int j) kb = kb (decide (i = j)) := nr rfl
@[simp] theorem eq_str {i j : Str} : cmpB .Eq (.str i) (.str j) kb = kb (decide (i = j)) := nr rfl
@[simp] theorem eq_bool {i j : Bool} : cmpB .Eq (.bool i) (.bool j) kb = kb (decide (i = j)) := nr rfl
@[simp] theorem eq_lst {a b : List D} : cmpB .Eq (.list a) (.list b) kb = ((SeqAt.shaped (.list a) = true ∧ SeqAt.shaped (.list b) = true) ∧ kb (PyData.eqv (.list a) (.list b))) := nr rfl
@[simp] theorem ne_int {i j : Int} : cmpB .NotEq (.int i) (.int j) kb = kb (!decide (i = j)) := nr rfl
@[simp] theorem ne_str {i j : Str} : cmpB .NotEq (.str i) (.str j) kb = kb (!decide (i = j)) := nr rfl
@[simp] theorem lt_int {i j : Int} : cmpB .Lt (.int i) (.int j) kb = kb (decide (i < j)) := nr rfl
@[simp] theorem le_int {i j : Int} : cmpB .LtE (.int i) (.int j) kb = kb (decide (i ≤ j)) := nr rfl
@[simp] theorem gt_int {i j : Int} : cmpB .Gt (.int i) (.int j) kb = kb (decide (j < i)) := nr rfl
@[simp] theorem ge_int {i j : Int} : cmpB .GtE (.int i) (.int j) kb = kb (decide (j ≤ i)) := nr rfl
@[simp] theorem is_non {x : D} : cmpB .Is x .none kb = kb (isNon x) := by cases x <;> rfl
@[simp] theorem ix_tup {ds : List D} {i : Int} : ixD (.tuple ds) (.int i) k = (match atI ds i with | some d => k d | none => False) := nr rfl
@[simp] theorem ix_lst {ds : List D} {i : Int} : ixD (.list ds) (.int i) k = (match atI ds i with | some d => k d | none => False) := nr rfl
@[simp] theorem ix_dct {kvs : List (D × D)} {i : Int} : ixD (.dict kvs) (.int i) k = (match atI (kvs.map (·.1)) i with | some d => k d | none => False) := nr rfl
@[simp] theorem sl_tup_ {ds : List D} {lo hi : Option Int} : slD (.tuple ds) lo hi k = k (.tuple (cutD ds lo hi)) := nr rfl
@[simp] theorem sl_lst_ {ds : List D} {lo hi : Option Int} : slD (.list ds) lo hi k = k (.list (cutD ds lo hi)) := nr rfl
@[simp] theorem sl_str_ {s : Str} {lo hi : Option Int} : slD (.str s) lo hi k = (s.length ≤ 100000 ∧ k (.str (cutS s lo hi))) := nr rfl
variable {ki : Int → Prop}
@[simp] theorem len_lst {ds : List D} : lenD (.list ds) ki = ki ds.length := nr rfl
@[simp] theorem len_tup {ds : List D} : lenD (.tuple ds) ki = ki ds.length := nr rfl
@[simp] theorem len_dct {kvs : List (D × D)} : lenD (.dict kvs) ki = ki kvs.length := nr rfl
@[simp] theorem isNon_none : isNon .none = true := rfl
@[simp] theorem isNon_int {i : Int} : isNon (.int i) = false := rfl
@[simp] theorem isNon_list {i : List D} : isNon (.list i) = false := rfl
@[simp] theorem isNon_tuple {i : List D} : isNon (.tuple i) = false := rfl
@[simp] theorem isNon_str {i : Str} : isNon (.str i) = false := rfl
@[simp] theorem isNon_bool {i : Bool} : isNon (.bool i) = false := rfl
end
/-! items by their place -/
section
variable {α : Type} {a b c d e : α} {l : List α}
@[simp] theorem at0 : atI (a :: l) 0 = some a := atI_nat (j := 0) rfl
@[simp] theorem at1 : atI (a :: b :: l) 1 = some b := atI_nat (j := 1) rfl
@[simp] theorem at2 : atI (a :: b :: c :: l) 2 = some c := atI_nat (j := 2) rfl
@[simp] theorem at3 : atI (a :: b :: c :: d :: l) 3 = some d := atI_nat (j := 3) rfl
@[simp] theorem at4 : atI (a :: b :: c :: d :: e :: l) 4 = some e := atI_nat (j := 4) rfl
@[simp] theorem atL : atI l (-1) = l.getLast? := by
  cases l with
  | nil => rfl
  | cons x r =>
    unfold atI ixN
    rw [if_neg (by decide), if_pos (by simp; omega)]
    have e : (-1 + ((x :: r).length : Int)).toNat = (x :: r).length - 1 := by simp; omega
    rw [e, List.getLast?_eq_getElem?]
    rfl
theorem at_ok {i : Int} (h0 : 0 ≤ i) (h1 : i < l.length) : atI l i = l[i.toNat]? := by
  obtain ⟨n, rfl⟩ := Int.eq_ofNat_of_zero_le h0
  have hn : n < l.length := by omega
  rw [Int.toNat_natCast, List.getElem?_eq_getElem hn]
  exact atI_nat (List.getElem?_eq_getElem hn)
theorem at_some {i : Int} (h0 : 0 ≤ i) (h1 : i < l.length) : ∃ x, atI l i = some x ∧ l[i.toNat]? = some x ∧ x ∈ l := by
  rw [at_ok h0 h1]
  have hn : i.toNat < l.length := by omega
  exact ⟨l[i.toNat], List.getElem?_eq_getElem hn, List.getElem?_eq_getElem hn, List.getElem_mem hn⟩
end
/-! loops, by hand -/
theorem for_mk {j : Nat} {ds : List D} {stay : Gm → Prop} {body : Ss} {G1 : Gm} {P : Out → Prop} (I : Nat → Gm → Prop) (h0 : I 0 G1) (h1 : ∀ k G', k ≤ ds.length → I k G' → stay G')
    (h2 : ∀ k d G', ds[k]? = some d → I k G' → body (G'.set j (.im d)) (loopO (I (k + 1)) P)) (h3 : ∀ G', I ds.length G' → P (.nx G')) : ForG j ds stay body G1 P := ⟨I, h0, h1, h2, h3⟩
theorem wh_mk {t : Tm} {body : Ss} {G : Gm} {P : Out → Prop} (I : Nat → Gm → Prop) (m : Nat) (h0 : I m G) (h1 : ∀ m G', I m G' → t G' (fun b G1 => if b = true then body G1 (loopO (fun G2 => ∃ m', m' < m ∧ I m' G2) P) else P (.nx G1)) (fun G2 => P (.ex G2))) : WhG t body G P := ⟨I, ⟨m, h0⟩, h1⟩
/-- a comprehension that maps -/
theorem lc_map {elt : Sm} {tg : Tg} {own : List Nat} {ds : List D} {stay : Gm → Prop} {G1 : Gm} {P : D → Gm → Prop} (f : D → D) (h0 : noOw G1 own = true) (h1 : stay (wipeG G1 own)) (h2 : ds.length ≤ 1000000)
    (h3 : ∀ (k : Nat) (d : D), ds[k]? = some d → ∃ Gb, setTg (wipeG G1 own) d tg = some Gb ∧ ∀ Q : D → Gm → Prop, Q (f d) Gb → elt Gb Q (fun _ => False)) (h4 : P (.list (ds.map f)) G1) : LcG elt tg tTrue own ds stay G1 P := by
  refine ⟨h0, h1, h2, fun k acc => acc = (ds.take k).map f, by simp, fun k d acc hd e _ => ?_, fun acc _ e => ?_⟩
  · obtain ⟨Gb, g1, g2⟩ := h3 k d hd
    refine ⟨Gb, g1, rfl, ?_⟩
    rw [if_pos rfl]
    refine g2 _ ⟨rfl, ?_⟩
    have e : acc = (ds.take k).map f := e
    show acc ++ [f d] = (ds.take (k + 1)).map f
    rw [e, List.take_add_one, hd]
    simp
  · have e : acc = (ds.take ds.length).map f := e
    rw [e, List.take_length]
    exact h4
/-- .. to something -/
theorem lc_rel {elt : Sm} {tg : Tg} {own : List Nat} {ds : List D} {stay : Gm → Prop} {G1 : Gm} {P : D → Gm → Prop} (R : Nat → D → Prop) (h0 : noOw G1 own = true) (h1 : stay (wipeG G1 own)) (h2 : ds.length ≤ 1000000)
    (h3 : ∀ k d, ds[k]? = some d → ∃ Gb, setTg (wipeG G1 own) d tg = some Gb ∧ ∀ Q : D → Gm → Prop, (∀ r, R k r → Q r Gb) → elt Gb Q (fun _ => False)) (h4 : ∀ acc : List D, acc.length = ds.length → (∀ (k : Nat) (r : D), acc[k]? = some r → R k r) → P (.list acc) G1) : LcG elt tg tTrue own ds stay G1 P := by
  refine ⟨h0, h1, h2, fun k acc => acc.length = k ∧ ∀ (k : Nat) (r : D), acc[k]? = some r → R k r, ⟨rfl, by simp⟩, fun k d acc hd e _ => ?_, fun acc _ e => h4 acc e.1 e.2⟩
  obtain ⟨Gb, g1, g2⟩ := h3 k d hd
  refine ⟨Gb, g1, rfl, ?_⟩
  rw [if_pos rfl]
  have e : acc.length = k ∧ ∀ (k : Nat) (r : D), acc[k]? = some r → R k r := e
  refine g2 _ fun r hr => ⟨rfl, by simp [e.1], fun k' r' h' => ?_⟩
  by_cases c : k' < acc.length
  · rw [List.getElem?_append_left c] at h'
    exact e.2 k' r' h'
  · rw [List.getElem?_append_right (by omega)] at h'
    have : k' - acc.length = 0 := by
      cases z : k' - acc.length with
      | zero => rfl
      | succ n => rw [z] at h'; simp at h'
    rw [this] at h'
    simp at h'
    have ek : k' = k := by omega
    rw [ek, ← h']
    exact hr
theorem rg_len (a b : Int) : (rgD a b).length = (b - a).toNat := by unfold rgD; rw [List.length_map, List.length_range]
theorem rg_get {a b : Int} {k : Nat} {d : D} (h : (rgD a b)[k]? = some d) : d = .int (a + k) ∧ (k : Int) < b - a := by
  have hk : k < (b - a).toNat := by
    have := (List.getElem?_eq_some_iff.mp h).1
    rw [rg_len] at this
    exact this
  unfold rgD at h
  rw [List.getElem?_map, List.getElem?_range hk] at h
  exact ⟨(Option.some.inj h).symm, by omega⟩
theorem map_get {α : Type} {l : List α} {f : α → D} {k : Nat} {d : D} (h : (l.map f)[k]? = some d) : ∃ x, l[k]? = some x ∧ d = f x := by
  rw [List.getElem?_map] at h
  obtain ⟨x, h1, h2⟩ := Option.map_eq_some_iff.mp h
  exact ⟨x, h1, h2.symm⟩
theorem at_map {α : Type} {l : List α} {f : α → D} {k : Nat} {x : α} (h : l[k]? = some x) : atI (l.map f) (k : Int) = some (f x) := atI_nat (by rw [List.getElem?_map, h]; rfl)
theorem flat_take {α β : Type} {l : List α} {f : α → List β} {k : Nat} {x : α} (h : l[k]? = some x) : (l.take (k + 1)).flatMap f = (l.take k).flatMap f ++ f x := by
  rw [List.take_add_one, h]
  simp
theorem flat_le {α β : Type} {l : List α} {f : α → List β} {k : Nat} {x : α} (h : l[k]? = some x) : ((l.take k).flatMap f).length + (f x).length ≤ (l.flatMap f).length := by
  have e : l.flatMap f = (l.take (k + 1)).flatMap f ++ (l.drop (k + 1)).flatMap f := by rw [← List.flatMap_append, List.take_append_drop]
  rw [e, flat_take h, List.length_append, List.length_append]
  omega
theorem lc2_map {elt : Sm} {j j2 : Nat} {it2 : Im} {own : List Nat} {ds : List D} {stay : Gm → Prop} {G1 : Gm} {P : D → Gm → Prop} (es : D → List D) (f : D → D → D) (h0 : noOw G1 own = true) (h1 : stay (wipeG G1 own))
    (hz : (ds.flatMap fun d => (es d).map (f d)).length ≤ 1000000)
    (h2 : ∀ (k : Nat) (d : D), ds[k]? = some d → ∀ R : List D → (Gm → Prop) → Gm → Prop, R (es d) (fun _ => True) ((wipeG G1 own).set j (.im d)) → it2 ((wipeG G1 own).set j (.im d)) R (fun _ => False))
    (h3 : ∀ (k : Nat) (d : D) (m : Nat) (e : D), ds[k]? = some d → (es d)[m]? = some e → ∀ Q : D → Gm → Prop, Q (f d e) (((wipeG G1 own).set j (.im d)).set j2 (.im e)) → elt (((wipeG G1 own).set j (.im d)).set j2 (.im e)) Q (fun _ => False))
    (h4 : P (.list (ds.flatMap fun d => (es d).map (f d))) G1) : Lc2G elt j j2 it2 own ds stay G1 P := by
  refine ⟨h0, h1, fun k acc => acc = (ds.take k).flatMap fun d => (es d).map (f d), by simp, fun k d acc hd e => ?_, fun acc e => ?_⟩
  · have e : acc = (ds.take k).flatMap fun d => (es d).map (f d) := e
    refine h2 k d hd _ ⟨rfl, trivial, fun m acc2 => acc2 = acc ++ ((es d).take m).map (f d), by simp, fun m x acc2 hx e2 => ?_, fun acc2 e2 => ?_⟩
    · have e2 : acc2 = acc ++ ((es d).take m).map (f d) := e2
      refine ⟨?_, h3 k d m x hd hx _ ⟨rfl, ?_⟩⟩
      · have q := flat_le (f := fun d => (es d).map (f d)) hd
        rw [← e] at q
        have hm := (List.getElem?_eq_some_iff.mp hx).1
        rw [e2, List.length_append, List.length_map, List.length_take]
        rw [List.length_map] at q
        omega
      · show acc2 ++ [f d x] = acc ++ ((es d).take (m + 1)).map (f d)
        rw [e2, List.take_add_one, hx]
        simp
    · have e2 : acc2 = acc ++ ((es d).take (es d).length).map (f d) := e2
      show acc2 = _
      rw [flat_take hd, ← e, e2, List.take_length]
  · have e : acc = (ds.take ds.length).flatMap fun d => (es d).map (f d) := e
    rw [e, List.take_length]
    exact h4
theorem for_gen {j : Nat} {ds : List D} {stay : Gm → Prop} {body : Ss} {G1 : Gm} {P : Out → Prop} (I : Nat → Gm → Prop) (h0 : I 0 G1) (h1 : ∀ k G', k ≤ ds.length → I k G' → stay G')
    (h2 : ∀ J : Nat → Gm → Prop, (∀ k G, I k G → J k G) → ∀ k d G', ds[k]? = some d → I k G' → body (G'.set j (.im d)) (loopO (J (k + 1)) P)) (h3 : ∀ G', I ds.length G' → P (.nx G')) : ForG j ds stay body G1 P :=
  ⟨I, h0, h1, h2 I fun _ _ z => z, h3⟩
theorem wh_gen {t : Tm} {body : Ss} {G : Gm} {P : Out → Prop} (I : Nat → Gm → Prop) (m : Nat) (h0 : I m G)
    (h1 : ∀ (J : Gm → Prop) m G', I m G' → (∀ m' G2, m' < m → I m' G2 → J G2) → t G' (fun b G1 => if b = true then body G1 (loopO J P) else P (.nx G1)) (fun G2 => P (.ex G2))) : WhG t body G P :=
  ⟨I, ⟨m, h0⟩, fun m G' i => h1 _ m G' i fun m' _ hm z => ⟨m', hm, z⟩⟩
end Wd

/-! C2: terms, conditions: typed, and what the program's defs make of them. -/
namespace Wd
open PySem PySem.Spec PyProof.Rows L2
inductive Op where
  | add | sub | mul | min | max
def Op.s : Op → Str
  | .add => "add" | .sub => "sub" | .mul => "mul" | .min => "min" | .max => "max"
def Op.f : Op → Int → Int → Int
  | .add, a, b => a + b
  | .sub, a, b => a - b
  | .mul, a, b => a * b
  | .min, a, b => if b < a then b else a
  | .max, a, b => if b > a then b else a
inductive Trm where
  | num (i : Int)
  | var (n : Nat)
  | neg (t : Trm)
  | bin (o : Op) (l r : Trm)
def Trm.d : Trm → D
  | .num i => .tuple [.str "num", .int i]
  | .var n => .tuple [.str "var", .int n]
  | .neg t => .tuple [.str "neg", t.d]
  | .bin o l r => .tuple [.str o.s, l.d, r.d]
def eI (vs : List Int) : D := .tuple (vs.map .int)
def Trm.v (vs : List Int) : Trm → Int
  | .num i => i
  | .var n => vs.getD n 0
  | .neg t => -t.v vs
  | .bin o l r => o.f (l.v vs) (r.v vs)
/-- how big a term's value may be, by its depth -/
def bd : Nat → Nat
  | 0 => 20
  | n + 1 => bd n * bd n + 2 * bd n
/-- a term of n variables, of that depth -/
def TOk (n : Nat) : Nat → Trm → Prop
  | _, .num i => -20 ≤ i ∧ i ≤ 20
  | _, .var m => m < n
  | 0, _ => False
  | d + 1, .neg t => TOk n d t
  | d + 1, .bin _ l r => TOk n d l ∧ TOk n d r
def VOk (n : Nat) (vs : List Int) : Prop := vs.length = n ∧ ∀ v ∈ vs, -20 ≤ v ∧ v ≤ 20
theorem bd_mono (d : Nat) : bd d ≤ bd (d + 1) := by
  show bd d ≤ bd d * bd d + 2 * bd d
  omega
theorem bd_20 : ∀ d, 20 ≤ bd d
  | 0 => Nat.le_refl _
  | d + 1 => Nat.le_trans (bd_20 d) (bd_mono d)
theorem mul_bd {a b : Int} {n : Nat} (ha : a.natAbs ≤ n) (hb : b.natAbs ≤ n) : (a * b).natAbs ≤ n * n := by
  rw [Int.natAbs_mul]
  exact Nat.mul_le_mul ha hb
theorem op_bd {o : Op} {a b : Int} {n : Nat} (ha : a.natAbs ≤ n) (hb : b.natAbs ≤ n) : (o.f a b).natAbs ≤ n * n + 2 * n := by
  have := mul_bd ha hb
  cases o <;> simp only [Op.f]
  · omega
  · omega
  · omega
  · split <;> omega
  · split <;> omega
theorem trm_bd {n : Nat} {vs : List Int} (hv : VOk n vs) : ∀ {d : Nat} {t : Trm}, TOk n d t → (t.v vs).natAbs ≤ bd d
  | d, .num i, h => by
    have h : -20 ≤ i ∧ i ≤ 20 := by cases d <;> exact h
    have := bd_20 d
    show i.natAbs ≤ _
    omega
  | d, .var m, h => by
    have h : m < n := by cases d <;> exact h
    have := bd_20 d
    have hm : m < vs.length := by rw [hv.1]; exact h
    have q := hv.2 _ (List.getElem_mem hm)
    show (vs.getD m 0).natAbs ≤ _
    rw [List.getD_eq_getElem?_getD, List.getElem?_eq_getElem hm]
    show (vs[m]).natAbs ≤ _
    omega
  | d + 1, .neg t, h => by
    have h : TOk n d t := h
    have := trm_bd hv h
    have := bd_mono d
    show (-(t.v vs)).natAbs ≤ _
    omega
  | d + 1, .bin o l r, h => by
    have h : TOk n d l ∧ TOk n d r := h
    exact op_bd (trm_bd hv h.1) (trm_bd hv h.2)
/-! ### combined, value_of -/
def spCombined : FSp := fun ds P _ => ∃ (o : Op) (a b : Int), ds = [.str o.s, .int a, .int b] ∧ a.natAbs < 2 ^ 63 ∧ P (.int (o.f a b))
theorem vc_combined (ds : List D) (Pd : D → Prop) (Px : Prop) (h : spCombined ds Pd Px) : ir_combined (start0 n_combined.length ds) (goal false Pd Px) := by
  obtain ⟨o, a, b, rfl, hz, h⟩ := h
  cases o <;> simp [ir_combined, start0, n_combined, Op.s, Op.f, CMul] at h hz ⊢
  · exact h
  · exact h
  · exact ⟨by omega, h⟩
  · exact h
  · exact h
/-- a term's value, to the depth d -/
def spValue (d : Nat) : FSp := fun ds P _ => ∃ (t : Trm) (vs : List Int) (n : Nat), ds = [t.d, eI vs] ∧ TOk n d t ∧ VOk n vs ∧ P (.int (t.v vs))
theorem at_var {n m : Nat} {vs : List Int} (hv : VOk n vs) (h : m < n) : atI (vs.map PyData.int) (m : Int) = some (.int (vs.getD m 0)) := by
  refine atI_nat ?_
  have hm : m < vs.length := by rw [hv.1]; exact h
  rw [List.getElem?_map, List.getElem?_eq_getElem hm, List.getD_eq_getElem?_getD, List.getElem?_eq_getElem hm]
  rfl
theorem vc_value {hot : Bool} {d : Nat} (hd : bd d < 2 ^ 63) (ds : List D) (Pd : D → Prop) (Px : Prop) (h : spValue d ds Pd Px) : ir_value_of spCombined (match d with | 0 => fun _ _ _ => False | d + 1 => spValue d) (start0 n_value_of.length ds) (goal hot Pd Px) := by
  obtain ⟨t, vs, n, rfl, ht, hv, h⟩ := h
  cases t with
  | num i => simp [ir_value_of, start0, n_value_of, Trm.d]; exact h
  | var m =>
    have hm : m < n := by cases d <;> exact ht
    simp [ir_value_of, start0, n_value_of, Trm.d, eI, at_var hv hm]; exact h
  | neg t =>
    cases d with
    | zero => exact ht.elim
    | succ d =>
      simp [ir_value_of, start0, n_value_of, Trm.d]
      refine ⟨t, vs, n, rfl, ht, hv, ?_⟩
      simp
      exact h
  | bin o l r =>
    cases d with
    | zero => exact ht.elim
    | succ d =>
      have ht : TOk n d l ∧ TOk n d r := ht
      have := bd_mono d
      have hb := trm_bd hv ht.1
      simp [ir_value_of, start0, n_value_of, Trm.d]
      have h1 : ¬ o.s = ("num" : Str) := by cases o <;> simp [Op.s]
      have h2 : ¬ o.s = ("var" : Str) := by cases o <;> simp [Op.s]
      have h3 : ¬ o.s = ("neg" : Str) := by cases o <;> simp [Op.s]
      simp [h1, h2, h3]
      refine ⟨l, vs, n, rfl, ht.1, hv, ?_⟩
      simp
      refine ⟨r, vs, n, rfl, ht.2, hv, ?_⟩
      simp
      refine ⟨_, _, _, rfl, by omega, ?_⟩
      simp
      exact h
end Wd

/-! C3: conditions, sensors, readings. -/
namespace Wd
open PySem PySem.Spec PyProof.Rows L2
inductive Cd where
  | tru | fls
  | not (c : Cd)
  | and (a b : Cd)
  | or (a b : Cd)
  | less (l r : Trm)
  | same (l r : Trm)
def Cd.d : Cd → D
  | .tru => .tuple [.str "true"]
  | .fls => .tuple [.str "false"]
  | .not c => .tuple [.str "not", c.d]
  | .and a b => .tuple [.str "and", a.d, b.d]
  | .or a b => .tuple [.str "or", a.d, b.d]
  | .less l r => .tuple [.str "less", l.d, r.d]
  | .same l r => .tuple [.str "same", l.d, r.d]
def Cd.v (vs : List Int) : Cd → Bool
  | .tru => true
  | .fls => false
  | .not c => !c.v vs
  | .and a b => a.v vs && b.v vs
  | .or a b => a.v vs || b.v vs
  | .less l r => decide (l.v vs < r.v vs)
  | .same l r => decide (l.v vs = r.v vs)
def COk (n : Nat) : Nat → Cd → Prop
  | _, .tru => True
  | _, .fls => True
  | _, .less l r => TOk n 3 l ∧ TOk n 3 r
  | _, .same l r => TOk n 3 l ∧ TOk n 3 r
  | 0, _ => False
  | d + 1, .not c => COk n d c
  | d + 1, .and a b => COk n d a ∧ COk n d b
  | d + 1, .or a b => COk n d a ∧ COk n d b
def spTrue (d : Nat) : FSp := fun ds P _ => ∃ (c : Cd) (vs : List Int) (n : Nat), ds = [c.d, eI vs] ∧ COk n d c ∧ VOk n vs ∧ P (.bool (c.v vs))
/-- one level down -/
def down (sp : Nat → FSp) : Nat → FSp
  | 0 => fun _ _ _ => False
  | d + 1 => sp d
theorem vc_true {d : Nat} (ds : List D) (Pd : D → Prop) (Px : Prop) (h : spTrue d ds Pd Px) : ir_is_true (spValue 3) (down spTrue d) (start0 n_is_true.length ds) (goal false Pd Px) := by
  obtain ⟨c, vs, n, rfl, hc, hv, h⟩ := h
  have lo : ∀ l r : Trm, TOk n 3 l → TOk n 3 r → True := fun _ _ _ _ => trivial
  cases c with
  | tru => simp [ir_is_true, start0, n_is_true, Cd.d]; exact h
  | fls => simp [ir_is_true, start0, n_is_true, Cd.d]; exact h
  | less l r =>
    have hc : TOk n 3 l ∧ TOk n 3 r := by cases d <;> exact hc
    simp [ir_is_true, start0, n_is_true, Cd.d]
    refine ⟨l, vs, n, rfl, hc.1, hv, ?_⟩
    simp
    refine ⟨r, vs, n, rfl, hc.2, hv, ?_⟩
    simp
    exact h
  | same l r =>
    have hc : TOk n 3 l ∧ TOk n 3 r := by cases d <;> exact hc
    simp [ir_is_true, start0, n_is_true, Cd.d]
    refine ⟨l, vs, n, rfl, hc.1, hv, ?_⟩
    simp
    refine ⟨r, vs, n, rfl, hc.2, hv, ?_⟩
    simp
    exact h
  | not c =>
    cases d with
    | zero => exact hc.elim
    | succ d =>
      simp [ir_is_true, start0, n_is_true, Cd.d]
      refine ⟨c, vs, n, rfl, hc, hv, ?_⟩
      simp
      exact h
  | and a b =>
    cases d with
    | zero => exact hc.elim
    | succ d =>
      have hc : COk n d a ∧ COk n d b := hc
      simp [ir_is_true, start0, n_is_true, Cd.d]
      refine ⟨a, vs, n, rfl, hc.1, hv, ?_⟩
      have h : Pd (.bool (a.v vs && b.v vs)) := h
      cases e : a.v vs with
      | true => rw [e] at h; simp; refine ⟨b, vs, n, rfl, hc.2, hv, ?_⟩; simp; exact h
      | false => rw [e] at h; simp; exact h
  | or a b =>
    cases d with
    | zero => exact hc.elim
    | succ d =>
      have hc : COk n d a ∧ COk n d b := hc
      simp [ir_is_true, start0, n_is_true, Cd.d]
      refine ⟨a, vs, n, rfl, hc.1, hv, ?_⟩
      have h : Pd (.bool (a.v vs || b.v vs)) := h
      cases e : a.v vs with
      | false => rw [e] at h; simp; refine ⟨b, vs, n, rfl, hc.2, hv, ?_⟩; simp; exact h
      | true => rw [e] at h; simp; exact h

/-! ### sensors, readings -/
structure Sens where
  nm : Str
  t : Trm
  tol : Int
  blank : Bool
def Sens.d (s : Sens) : D := .tuple [.str s.nm, s.t.d, .int s.tol, .bool s.blank]
def SOk (n : Nat) (s : Sens) : Prop := TOk n 3 s.t ∧ 0 ≤ s.tol ∧ s.tol ≤ 5
def eO : Option Int → D
  | none => .none
  | some i => .int i
abbrev Rd := List (Option Int)
def eR (r : Rd) : D := .tuple (r.map eO)
def Sens.shows (vs : List Int) (s : Sens) : Option Int → Bool
  | none => s.blank
  | some i => !decide (s.tol < (if i - s.t.v vs < 0 then -(i - s.t.v vs) else i - s.t.v vs))
def allShow (vs : List Int) : List Sens → Rd → Bool
  | [], [] => true
  | s :: ss, x :: r => s.shows vs x && allShow vs ss r
  | _, _ => false
theorem allShow_len {vs : List Int} : ∀ {ss : List Sens} {r : Rd}, allShow vs ss r = true → r.length = ss.length
  | [], [], _ => rfl
  | s :: ss, x :: r, h => by
    simp only [allShow, Bool.and_eq_true] at h
    rw [List.length_cons, List.length_cons, allShow_len h.2]
  | [], _ :: _, h => by cases h
  | _ :: _, [], h => by cases h
theorem allShow_iff {vs : List Int} : ∀ {ss : List Sens} {r : Rd}, allShow vs ss r = true ↔ r.length = ss.length ∧ ∀ (k : Nat) (s : Sens) (x : Option Int), ss[k]? = some s → r[k]? = some x → s.shows vs x = true
  | [], [] => by simp [allShow]
  | s :: ss, x :: r => by
    simp only [allShow, Bool.and_eq_true, allShow_iff (ss := ss) (r := r), List.length_cons, Nat.add_right_cancel_iff]
    constructor
    · rintro ⟨h1, h2, h3⟩
      refine ⟨h2, fun k => ?_⟩
      cases k with
      | zero => intro s' x' e1 e2; simp at e1 e2; subst e1 e2; exact h1
      | succ k => intro s' x' e1 e2; exact h3 k s' x' (by simpa using e1) (by simpa using e2)
    · rintro ⟨h1, h2⟩
      exact ⟨h2 0 s x rfl rfl, h1, fun k s' x' e1 e2 => h2 (k + 1) s' x' (by simpa using e1) (by simpa using e2)⟩
  | [], _ :: _ => by simp [allShow]
  | _ :: _, [] => by simp [allShow]
def spShow : FSp := fun ds P _ => ∃ (p0 p1 : D) (ss : List Sens) (vs : List Int) (r : Rd) (n : Nat), ds = [.tuple [p0, p1, .tuple (ss.map Sens.d)], eI vs, eR r] ∧ (∀ s ∈ ss, SOk n s) ∧ ss.length ≤ 1000 ∧ r.length ≤ 1000 ∧ VOk n vs ∧ P (.bool (allShow vs ss r))
theorem vc_show (ds : List D) (Pd : D → Prop) (Px : Prop) (h : spShow ds Pd Px) : ir_can_show (spValue 3) (start0 n_can_show.length ds) (goal false Pd Px) := by
  obtain ⟨p0, p1, ss, vs, r, n, rfl, hs, hz1, hz2, hv, h⟩ := h
  by_cases hl : r.length = ss.length
  · have hl' : (r.length : Int) = (ss.length : Int) := by omega
    simp [ir_can_show, start0, n_can_show, eR, hl']
    refine ⟨by omega, ?_⟩
    refine for_mk (fun k G' => ∃ a b, G' = [.im (.tuple [p0, p1, .tuple (ss.map Sens.d)]), .im (eI vs), .im (.tuple (r.map eO)), a, b] ∧ ∀ (i : Nat) (s : Sens) (x : Option Int), i < k → ss[i]? = some s → r[i]? = some x → s.shows vs x = true) ⟨_, _, rfl, fun i s x hi => absurd hi (Nat.not_lt_zero i)⟩ (fun _ _ _ _ => trivial) ?_ ?_
    · rintro k d G' hk ⟨a, b, rfl, inv⟩
      obtain ⟨rfl, hk2⟩ := rg_get hk
      have hk3 : k < r.length := by omega
      have hk4 : k < ss.length := by omega
      have e1 := List.getElem?_eq_getElem hk3
      have e2 := List.getElem?_eq_getElem hk4
      generalize r[k] = x at e1
      generalize ss[k] = s at e2
      have hsk := hs s (List.mem_of_getElem? e2)
      have next : s.shows vs x = true → ∀ (i : Nat) (s : Sens) (x : Option Int), i < k + 1 → ss[i]? = some s → r[i]? = some x → s.shows vs x = true := fun hx i s' x' hi q1 q2 => by
        by_cases c : i < k
        · exact inv i s' x' c q1 q2
        · have : i = k := by omega
          subst this
          rw [e2] at q1; rw [e1] at q2; cases q1; cases q2; exact hx
      have bad : s.shows vs x = false → allShow vs ss r = false := fun hx => by
        cases z : allShow vs ss r with
        | false => rfl
        | true => rw [(allShow_iff.mp z).2 k s x e2 e1] at hx; cases hx
      simp [at_map e2, at_map e1, Int.zero_add]
      cases x with
      | none =>
        simp [eO, Sens.d]
        cases hb : s.blank with
        | true => simp; exact next hb
        | false => simp; rw [bad hb] at h; exact h
      | some i =>
        simp [eO, Sens.d]
        refine ⟨s.t, vs, n, rfl, hsk.1, hv, ?_⟩
        simp
        cases hb : s.shows vs (some i) with
        | true =>
          have hb' : ¬ s.tol < (if i - s.t.v vs < 0 then -(i - s.t.v vs) else i - s.t.v vs) := by simpa [Sens.shows] using hb
          rw [if_neg hb']
          exact next hb
        | false =>
          have hb' : s.tol < (if i - s.t.v vs < 0 then -(i - s.t.v vs) else i - s.t.v vs) := by simpa [Sens.shows] using hb
          rw [if_pos hb']
          rw [bad hb] at h; exact h
    · rintro G' ⟨a, b, rfl, inv⟩
      simp
      have : allShow vs ss r = true := allShow_iff.mpr ⟨hl, fun k s x e1 e2 => inv k s x (by rw [rg_len]; have := (List.getElem?_eq_some_iff.mp e2).1; omega) e1 e2⟩
      rw [this] at h; exact h
  · have hl' : ¬ (r.length : Int) = (ss.length : Int) := by omega
    simp [ir_can_show, start0, n_can_show, eR, hl']
    have : allShow vs ss r = false := by
      cases z : allShow vs ss r with
      | false => rfl
      | true => exact absurd (allShow_len z) hl
    rw [this] at h; exact h
end Wd

/-! C4: the readings that a plant can show. -/
namespace Wd
open PySem PySem.Spec PyProof.Rows L2
def rgO (a b : Int) : List (Option Int) := (List.range (b - a).toNat).map fun i => some (a + (i : Nat))
theorem rgO_d (a b : Int) : (rgO a b).map eO = rgD a b := by
  unfold rgO rgD
  rw [List.map_map]
  rfl
def opts (vs : List Int) (s : Sens) : List (Option Int) := rgO (s.t.v vs - s.tol) (s.t.v vs + s.tol + 1) ++ if s.blank = true then [none] else []
theorem mem_rgO {a b : Int} {x : Option Int} : x ∈ rgO a b ↔ ∃ i, x = some i ∧ a ≤ i ∧ i < b := by
  unfold rgO
  simp only [List.mem_map, List.mem_range]
  constructor
  · rintro ⟨n, hn, rfl⟩
    exact ⟨_, rfl, by omega, by omega⟩
  · rintro ⟨i, rfl, h1, h2⟩
    exact ⟨(i - a).toNat, by omega, by congr 1; omega⟩
theorem mem_opts {vs : List Int} {s : Sens} {x : Option Int} : x ∈ opts vs s ↔ s.shows vs x = true := by
  unfold opts
  rw [List.mem_append, mem_rgO]
  cases x with
  | none =>
    cases hb : s.blank <;> simp [Sens.shows, hb]
  | some i =>
    have : some i ∉ (if s.blank = true then [none] else ([] : List (Option Int))) := by cases s.blank <;> simp
    simp only [this, or_false, Sens.shows, Bool.not_eq_true', decide_eq_false_iff_not]
    constructor
    · rintro ⟨j, e, h1, h2⟩
      cases e
      split <;> omega
    · intro h
      refine ⟨i, rfl, ?_, ?_⟩ <;> (split at h <;> omega)
theorem opts_len {n : Nat} {vs : List Int} {s : Sens} (h : SOk n s) : (opts vs s).length ≤ 12 ∧ 1 ≤ (opts vs s).length := by
  have h1 := h.2.1
  have h2 := h.2.2
  unfold opts rgO
  rw [List.length_append, List.length_map, List.length_range]
  have : (if s.blank = true then [none] else ([] : List (Option Int))).length ≤ 1 := by split <;> simp
  omega
def spOpts : FSp := fun ds P _ => ∃ (s : Sens) (vs : List Int) (n : Nat), ds = [s.d, eI vs] ∧ SOk n s ∧ VOk n vs ∧ P (.list ((opts vs s).map eO))
theorem trm3 {n : Nat} {vs : List Int} {t : Trm} (hv : VOk n vs) (h : TOk n 3 t) : -40000000000 < t.v vs ∧ t.v vs < 40000000000 := by
  have q := trm_bd hv h
  have e : bd 3 = 37822859360 := by decide
  omega
theorem vc_opts (ds : List D) (Pd : D → Prop) (Px : Prop) (h : spOpts ds Pd Px) : ir_options_of (spValue 3) (start0 n_options_of.length ds) (goal false Pd Px) := by
  obtain ⟨s, vs, n, rfl, hs, hv, h⟩ := h
  obtain ⟨q1, q2⟩ := trm3 hv hs.1
  have h1 := hs.2.1
  have h2 := hs.2.2
  have rg : RgOk (s.t.v vs - s.tol) (s.t.v vs + s.tol + 1) := ⟨by omega, by omega, by omega, by omega, by omega⟩
  simp [ir_options_of, start0, n_options_of, Sens.d]
  refine ⟨s.t, vs, n, rfl, hs.1, hv, ?_⟩
  simp
  refine asgL_own ?_
  simp
  refine ⟨rg, ?_⟩
  unfold opts at h
  rw [List.map_append, rgO_d] at h
  cases hb : s.blank with
  | true =>
    rw [hb] at h
    simp
    refine ⟨by rw [rg_len]; omega, ?_⟩
    exact h
  | false =>
    rw [hb] at h
    simp at h ⊢
    exact h
/-- the rows of readings, sensor by sensor -/
def rAt (vs : List Int) : List Rd → List Sens → List Rd
  | rows, [] => rows
  | rows, s :: ss => rAt vs (rows.flatMap fun r => (opts vs s).map fun x => r ++ [x]) ss
theorem mem_rAt {vs : List Int} : ∀ {ss : List Sens} {rows : List Rd} {r : Rd}, r ∈ rAt vs rows ss ↔ ∃ r0 r1, r0 ∈ rows ∧ r = r0 ++ r1 ∧ allShow vs ss r1 = true
  | [], rows, r => by
    constructor
    · intro h; exact ⟨r, [], h, by simp, rfl⟩
    · rintro ⟨r0, r1, h, rfl, e⟩
      cases r1 with
      | nil => rw [List.append_nil]; exact h
      | cons => cases e
  | s :: ss, rows, r => by
    show r ∈ rAt vs _ ss ↔ _
    rw [mem_rAt]
    constructor
    · rintro ⟨r0, r1, h, rfl, e⟩
      obtain ⟨a, ha, h⟩ := List.mem_flatMap.mp h
      obtain ⟨x, hx, rfl⟩ := List.mem_map.mp h
      exact ⟨a, x :: r1, ha, by simp, by simp [allShow, mem_opts.mp hx, e]⟩
    · rintro ⟨r0, r1, h, rfl, e⟩
      cases r1 with
      | nil => cases e
      | cons x r1 =>
        simp only [allShow, Bool.and_eq_true] at e
        exact ⟨r0 ++ [x], r1, List.mem_flatMap.mpr ⟨r0, h, List.mem_map.mpr ⟨x, mem_opts.mpr e.1, rfl⟩⟩, by simp, e.2⟩
theorem rAt_take {vs : List Int} : ∀ {ss : List Sens} {rows : List Rd} {k : Nat} {s : Sens}, ss[k]? = some s → rAt vs rows (ss.take (k + 1)) = (rAt vs rows (ss.take k)).flatMap fun r => (opts vs s).map fun x => r ++ [x]
  | [], _, _, _, h => by simp at h
  | a :: ss, rows, 0, s, h => by
    simp at h
    subst h
    rfl
  | a :: ss, rows, k + 1, s, h => by
    show rAt vs _ (ss.take (k + 1)) = _
    rw [rAt_take (by simpa using h)]
    rfl
theorem rAt_len {n : Nat} {vs : List Int} : ∀ {ss : List Sens} {rows : List Rd}, (∀ s ∈ ss, SOk n s) → (rAt vs rows ss).length ≤ rows.length * 12 ^ ss.length ∧ rows.length ≤ (rAt vs rows ss).length
  | [], rows, _ => by simp [rAt]
  | s :: ss, rows, h => by
    have q := rAt_len (vs := vs) (ss := ss) (rows := rows.flatMap fun r => (opts vs s).map fun x => r ++ [x]) fun s' m => h s' (List.mem_cons_of_mem _ m)
    obtain ⟨o1, o2⟩ := opts_len (vs := vs) (h s List.mem_cons_self)
    have e : (rows.flatMap fun r => (opts vs s).map fun x => r ++ [x]).length = rows.length * (opts vs s).length := by
      clear q
      induction rows with
      | nil => simp
      | cons a r ih => rw [List.flatMap_cons, List.length_append, ih, List.length_map, List.length_cons, Nat.succ_mul, Nat.add_comm]
    rw [e] at q
    refine ⟨Nat.le_trans q.1 ?_, Nat.le_trans ?_ q.2⟩
    · rw [List.length_cons, Nat.pow_succ, Nat.mul_comm (12 ^ ss.length) 12, ← Nat.mul_assoc]
      exact Nat.mul_le_mul_right _ (Nat.mul_le_mul_left _ o1)
    · exact Nat.le_trans (by simp) (Nat.mul_le_mul_left _ o2)
def spRead : FSp := fun ds P _ => ∃ (p0 p1 : D) (ss : List Sens) (vs : List Int) (n : Nat), ds = [.tuple [p0, p1, .tuple (ss.map Sens.d)], eI vs] ∧ (∀ s ∈ ss, SOk n s) ∧ ss.length ≤ 5 ∧ VOk n vs ∧ P (.list ((rAt vs [[]] ss).map eR))
theorem vc_read (ds : List D) (Pd : D → Prop) (Px : Prop) (h : spRead ds Pd Px) : ir_readings_at spOpts (start0 n_readings_at.length ds) (goal false Pd Px) := by
  obtain ⟨p0, p1, ss, vs, n, rfl, hs, hz, hv, h⟩ := h
  simp [ir_readings_at, start0, n_readings_at]
  refine asgL_im ?_
  simp
  refine for_mk (fun k G' => ∃ a b, G' = [.im (.tuple [p0, p1, .tuple (ss.map Sens.d)]), .im (eI vs), .im (.list ((rAt vs [[]] (ss.take k)).map eR)), a, b, .un, .un]) ⟨_, _, rfl⟩ (fun _ _ _ _ => trivial) ?_ ?_
  · rintro k d G' hk ⟨a, b, rfl⟩
    obtain ⟨s, hs1, rfl⟩ := map_get hk
    have sk := hs s (List.mem_of_getElem? hs1)
    simp
    refine ⟨s, vs, n, rfl, sk, hv, ?_⟩
    simp
    have hlen : (rAt vs [[]] (ss.take (k + 1))).length ≤ 1000000 := by
      have q := (rAt_len (n := n) (vs := vs) (ss := ss.take (k + 1)) (rows := [[]]) fun s' m => hs s' (List.mem_of_mem_take m)).1
      have hl : (ss.take (k + 1)).length ≤ 5 := by rw [List.length_take]; omega
      refine Nat.le_trans q ?_
      have : 12 ^ (ss.take (k + 1)).length ≤ 12 ^ 5 := Nat.pow_le_pow_right (by decide) hl
      simp at this ⊢
      omega
    have e : ((rAt vs [[]] (ss.take k)).map eR).flatMap (fun d => ((opts vs s).map eO).map fun x => (match d with | .tuple ys => .tuple (ys ++ [x]) | _ => d)) = (rAt vs [[]] (ss.take (k + 1))).map eR := by
      rw [rAt_take hs1, List.flatMap_map, List.map_flatMap]
      congr 1
      funext r
      rw [List.map_map, List.map_map]
      congr 1
      funext x
      simp [eR]
    refine lc2_map (fun _ => (opts vs s).map eO) (fun d x => (match d with | .tuple ys => .tuple (ys ++ [x]) | _ => d)) rfl trivial (by rw [e, List.length_map]; exact hlen) ?_ ?_ ?_
    · intro k2 d hd R hR
      simp [wipeG]
      exact hR
    · intro k2 d m x hd hx Q hQ
      obtain ⟨r, hr, rfl⟩ := map_get hd
      obtain ⟨y, hy, rfl⟩ := map_get hx
      have hrl : r.length ≤ 5 := by
        obtain ⟨r0, r1, h0, rfl, e1⟩ := mem_rAt.mp (List.mem_of_getElem? hr)
        rw [List.mem_singleton.mp h0, List.nil_append, allShow_len e1, List.length_take]
        omega
      simp [wipeG, eR] at hQ ⊢
      exact ⟨by omega, hQ⟩
    · rw [e]
      simp
  · rintro G' ⟨a, b, rfl⟩
    simp
    exact h
end Wd

/-! C5: dicts and keys. -/
namespace Wd
open PySem PySem.Spec PyProof.Rows L2
theorem look_put {kvs : Kvs} {k : NestedKey} {d : D} (k' : NestedKey) : dlook (dput kvs k d) k' = if k' = k then some d else dlook kvs k' := by
  unfold dput
  split
  · rename_i h
    have main : ∀ l : Kvs, (l.find? fun p => decide ((if p.1 = k then (p.1, d) else p).1 = k')) = l.find? fun p => decide (p.1 = k') := fun l => by
      congr 1
      funext p
      split <;> rfl
    by_cases e : k' = k
    · rw [if_pos e]
      subst e
      unfold dlook at h ⊢
      rw [List.find?_map]
      have e2 : ((fun p : NestedKey × D => decide (p.1 = k')) ∘ fun p => if p.1 = k' then (p.1, d) else p) = fun p => decide (p.1 = k') := by
        funext p
        show decide ((if p.1 = k' then (p.1, d) else p).1 = k') = _
        split <;> rfl
      rw [e2]
      cases q : kvs.find? (fun p => decide (p.1 = k')) with
      | none => rw [q] at h; cases h
      | some p =>
        have hp : p.1 = k' := by simpa using List.find?_some q
        simp [hp]
    · rw [if_neg e]
      unfold dlook
      rw [List.find?_map]
      have e2 : ((fun p : NestedKey × D => decide (p.1 = k')) ∘ fun p => if p.1 = k then (p.1, d) else p) = fun p => decide (p.1 = k') := by
        funext p
        show decide ((if p.1 = k then (p.1, d) else p).1 = k') = _
        split <;> rfl
      rw [e2]
      cases q : kvs.find? (fun p => decide (p.1 = k')) with
      | none => rfl
      | some p =>
        have hp : p.1 = k' := by simpa using List.find?_some q
        have : ¬ p.1 = k := fun z => e (hp.symm.trans z)
        simp [this]
  · rename_i h
    have hn : dlook kvs k = none := by
      cases z : dlook kvs k with
      | none => rfl
      | some _ => rw [z] at h; exact absurd rfl h
    unfold dlook at hn ⊢
    rw [List.find?_append]
    by_cases e : k' = k
    · rw [if_pos e]
      subst e
      have q : kvs.find? (fun p => decide (p.1 = k')) = none := by simpa using hn
      rw [q]
      simp
    · rw [if_neg e]
      have : ¬ k = k' := fun z => e z.symm
      simp [this]
theorem put_len {kvs : Kvs} {k : NestedKey} {d : D} (h : dlook kvs k = none) : (dput kvs k d).length = kvs.length + 1 := by
  unfold dput
  rw [h]
  simp
theorem put_le {kvs : Kvs} {k : NestedKey} {d : D} : (dput kvs k d).length ≤ kvs.length + 1 := by
  unfold dput
  split <;> simp
@[simp] theorem look_nil {k : NestedKey} : dlook [] k = none := rfl
/-! keys of readings, of rows of ints -/
def nO : Option Int → NestedKey
  | none => .none
  | some i => .num i
theorem nO_inj {a b : Option Int} (h : nO a = nO b) : a = b := by
  cases a <;> cases b <;> simp [nO] at h <;> first | rfl | rw [h]
theorem keyNs_map {α : Type} {l : List α} {f : α → D} {g : α → NestedKey} (h : ∀ x ∈ l, keyN (f x) = some (g x)) : keyNs (l.map f) = some (l.map g) := by
  induction l with
  | nil => rfl
  | cons a r ih =>
    show (keyN (f a)).bind (fun k => (keyNs (r.map f)).map fun ks => k :: ks) = _
    rw [h a List.mem_cons_self, ih fun x m => h x (List.mem_cons_of_mem _ m)]
    rfl
theorem keyN_eO (x : Option Int) : keyN (eO x) = some (nO x) := by cases x <;> rfl
theorem depth_atoms {α : Type} {l : List α} {g : α → NestedKey} {n : Nat} (h : ∀ x ∈ l, (g x).depth ≤ n) : NestedKey.depthAll (l.map g) ≤ n := by
  induction l with
  | nil => simp [NestedKey.depthAll]
  | cons a r ih =>
    rw [List.map_cons, NestedKey.depthAll]
    exact Nat.max_le.mpr ⟨h a List.mem_cons_self, ih fun x m => h x (List.mem_cons_of_mem _ m)⟩
theorem keyOf_tup {α : Type} {l : List α} {f : α → D} {g : α → NestedKey} (h : ∀ x ∈ l, keyN (f x) = some (g x)) (hd : ∀ x ∈ l, (g x).depth ≤ 7) : keyOf true (.tuple (l.map f)) = some (.tup (l.map g)) := by
  show ((keyNs (l.map f)).bind fun ks => if (NestedKey.tup ks).depth ≤ 8 then some (NestedKey.tup ks) else none) = _
  rw [keyNs_map h]
  show (if (NestedKey.tup (l.map g)).depth ≤ 8 then some (NestedKey.tup (l.map g)) else none) = _
  rw [if_pos]
  rw [NestedKey.depth]
  have := depth_atoms hd
  omega
def kR (r : Rd) : NestedKey := .tup (r.map nO)
def kI (vs : List Int) : NestedKey := .tup (vs.map .num)
@[simp] theorem key_R (r : Rd) : keyOf true (eR r) = some (kR r) := keyOf_tup (fun x _ => keyN_eO x) fun x _ => by cases x <;> simp [nO, NestedKey.depth]
@[simp] theorem key_I (vs : List Int) : keyOf true (eI vs) = some (kI vs) := keyOf_tup (fun _ _ => rfl) fun x _ => by simp [NestedKey.depth]
theorem map_inj {α β : Type} {f : α → β} (h : ∀ a b, f a = f b → a = b) : ∀ {l m : List α}, l.map f = m.map f → l = m
  | [], [], _ => rfl
  | a :: l, b :: m, e => by
    simp only [List.map_cons, List.cons.injEq] at e
    rw [h a b e.1, map_inj h e.2]
  | [], _ :: _, e => by simp at e
  | _ :: _, [], e => by simp at e
theorem kR_inj {a b : Rd} (h : kR a = kR b) : a = b := map_inj (fun _ _ => nO_inj) (NestedKey.tup.inj h)
theorem kI_inj {a b : List Int} (h : kI a = kI b) : a = b := map_inj (fun _ _ e => NestedKey.num.inj e) (NestedKey.tup.inj h)
@[simp] theorem key_int (i : Int) : keyOf false (.int i) = some (.num i) := rfl
@[simp] theorem key_str (s : Str) : keyOf false (.str s) = some (.text s) := rfl
/-! ### how many readings, all of them -/
abbrev pD (p0 p1 : D) (ss : List Sens) : D := .tuple [p0, p1, .tuple (ss.map Sens.d)]
def spCount : FSp := fun ds P _ => ∃ (p0 p1 v : D) (ss : List Sens) (m : Int) (n : Nat), ds = [pD p0 p1 ss, v, .int m] ∧ (∀ s ∈ ss, SOk n s) ∧ ∀ i : Int, P (.int i)
theorem vc_count (ds : List D) (Pd : D → Prop) (Px : Prop) (h : spCount ds Pd Px) : ir_count_readings (start0 n_count_readings.length ds) (goal false Pd Px) := by
  obtain ⟨p0, p1, v, ss, m, n, rfl, hs, h⟩ := h
  simp [ir_count_readings, start0, n_count_readings]
  refine for_mk (fun k G' => ∃ a i, G' = [.im (pD p0 p1 ss), .im v, .im (.int m), .im (.int i), a]) ⟨_, _, rfl⟩ (fun _ _ _ _ => trivial) ?_ ?_
  · rintro k d G' hk ⟨a, i, rfl⟩
    obtain ⟨s, hs1, rfl⟩ := map_get hk
    have sk := hs s (List.mem_of_getElem? hs1)
    have c1 : CMul 2 s.tol := .inl ⟨by decide, by decide⟩
    have c2 : CMul i (2 * s.tol + 1 + (if s.blank = true then 1 else 0)) := by
      have h1 := sk.2.1
      have h2 := sk.2.2
      refine .inr ?_
      split <;> omega
    simp [Sens.d, c1, c2]
  · rintro G' ⟨a, i, rfl⟩
    simp
    exact h _
def spPoss : FSp := fun ds P X => ∃ (p0 p1 : D) (ss : List Sens) (sts : List (List Int)) (rest : List D) (m : Int) (n : Nat), ds = [pD p0 p1 ss, .tuple (.tuple (sts.map eI) :: rest), .int m] ∧ (∀ s ∈ ss, SOk n s) ∧ ss.length ≤ 5 ∧ (∀ vs ∈ sts, VOk n vs) ∧ 0 ≤ m ∧ m ≤ 1000 ∧ X ∧
  ∀ rds : List Rd, (∀ vs ∈ sts, ∀ r, allShow vs ss r = true → r ∈ rds) → (∀ r ∈ rds, r.length = ss.length) → (rds.length : Int) ≤ m → P (.list (rds.map eR))
theorem vc_poss (ds : List D) (Pd : D → Prop) (Px : Prop) (h : spPoss ds Pd Px) : ir_possible_readings spCount spRead (start0 n_possible_readings.length ds) (goal false Pd Px) := by
  obtain ⟨p0, p1, ss, sts, rest, m, n, rfl, hs, hz, hv, hm0, hm1, hx, h⟩ := h
  simp [ir_possible_readings, start0, n_possible_readings]
  refine asgL_own ?_
  simp
  intro l
  refine ⟨true, fun l2 => ?_⟩
  simp
  refine for_gen (fun k G' => ∃ (a b : Slot) (rds : List Rd) (kvs : Kvs), G' = [.im (pD p0 p1 ss), .im (.tuple (.tuple (sts.map eI) :: rest)), .im (.int m), .ow l (.lst (rds.map eR)), .ow l2 (.dct true kvs), a, b] ∧
      (∀ vs ∈ sts.take k, ∀ r, allShow vs ss r = true → r ∈ rds) ∧ (∀ r ∈ rds, r.length = ss.length) ∧ (rds.length : Int) ≤ m ∧ kvs.length = rds.length ∧ ∀ r, (dlook kvs (kR r)).isSome = true ↔ r ∈ rds)
    ⟨_, _, [], [], rfl, by simp, by simp, by simpa using hm0, rfl, by simp⟩ (fun _ _ _ _ => trivial) ?_ ?_
  · rintro J hJ k d G' hk ⟨a, b, rds, kvs, rfl, i1, i2, i3, i4, i5⟩
    obtain ⟨vs, hvs, rfl⟩ := map_get hk
    have vk := hv vs (List.mem_of_getElem? hvs)
    simp
    refine ⟨p0, p1, _, ss, m, n, rfl, hs, fun i => ?_⟩
    simp
    split
    · exact hx
    · refine ⟨p0, p1, ss, vs, n, rfl, hs, hz, vk, ?_⟩
      simp
      refine for_gen (fun k2 G' => ∃ (b : Slot) (rds2 : List Rd) (kvs : Kvs), G' = [.im (pD p0 p1 ss), .im (.tuple (.tuple (sts.map eI) :: rest)), .im (.int m), .ow l (.lst (rds2.map eR)), .ow l2 (.dct true kvs), .im (eI vs), b] ∧
          (∀ r ∈ rds, r ∈ rds2) ∧ (∀ r ∈ (rAt vs [[]] ss).take k2, r ∈ rds2) ∧ (∀ r ∈ rds2, r.length = ss.length) ∧ rds2.length ≤ rds.length + k2 ∧ kvs.length = rds2.length ∧ ∀ r, (dlook kvs (kR r)).isSome = true ↔ r ∈ rds2)
        ⟨_, rds, kvs, rfl, fun _ m => m, by simp, i2, by omega, i4, i5⟩ (fun _ _ _ _ => trivial) ?_ ?_
      · rintro J2 hJ2 k2 d G' hk2 ⟨b, rds2, kvs, rfl, j1, j2, j3, j4, j5, j6⟩
        obtain ⟨r, hr, rfl⟩ := map_get hk2
        have hrl : r.length = ss.length := by
          obtain ⟨r0, r1, h0, rfl, e1⟩ := mem_rAt.mp (List.mem_of_getElem? hr)
          rw [List.mem_singleton.mp h0, List.nil_append, allShow_len e1]
        have hk3 := (List.getElem?_eq_some_iff.mp hr).1
        have hal : (rAt vs [[]] ss).length ≤ 250000 := by
          have q := (rAt_len (n := n) (vs := vs) (ss := ss) (rows := [[]]) hs).1
          refine Nat.le_trans q ?_
          have : 12 ^ ss.length ≤ 12 ^ 5 := Nat.pow_le_pow_right (by decide) hz
          simp at this ⊢
          omega
        have tk : ∀ x ∈ (rAt vs [[]] ss).take (k2 + 1), x ∈ (rAt vs [[]] ss).take k2 ∨ x = r := fun x hx => by
          rw [List.take_add_one, hr] at hx
          simpa using hx
        simp
        cases e : dlook kvs (kR r) with
        | some v =>
          have hin : r ∈ rds2 := (j6 r).mp (by rw [e]; rfl)
          simp
          exact hJ2 _ _ ⟨_, rds2, kvs, rfl, j1, fun x hx => (tk x hx).elim (j2 x) fun z => z ▸ hin, j3, by omega, j5, j6⟩
        | none =>
          simp
          refine ⟨by omega, by omega, hJ2 _ _ ⟨.im (eR r), rds2 ++ [r], dput kvs (kR r) (.bool true), by simp, fun x hx => List.mem_append_left _ (j1 x hx), fun x hx => (tk x hx).elim (fun z => List.mem_append_left _ (j2 x z)) fun z => by simp [z], fun x hx => ?_, by simp; omega, by rw [put_len e]; simp [j5], fun x => ?_⟩⟩
          · rcases List.mem_append.mp hx with z | z
            · exact j3 x z
            · rw [List.mem_singleton.mp z]; exact hrl
          · rw [look_put]
            by_cases c : kR x = kR r
            · rw [if_pos c]; simp [kR_inj c]
            · have c2 : ¬ x = r := fun z => c (by rw [z])
              rw [if_neg c, j6 x]; simp [c2]
      · rintro G' ⟨b, rds2, kvs, rfl, j1, j2, j3, j4, j5, j6⟩
        simp at j2 ⊢
        split
        · exact hx
        · refine hJ _ _ ⟨_, _, rds2, kvs, rfl, fun vs' m' r hr => ?_, j3, by omega, j5, j6⟩
          rw [List.take_add_one, hvs] at m'
          rcases List.mem_append.mp m' with z | z
          · exact j1 r (i1 vs' z r hr)
          · simp at z
            rw [z] at hr
            exact j2 r (mem_rAt.mpr ⟨[], r, by simp, rfl, hr⟩)
  · rintro G' ⟨a, b, rds, kvs, rfl, i1, i2, i3, i4, i5⟩
    simp at i1 ⊢
    exact h rds i1 i2 i3
end Wd

/-! C6: set_after, verdict_of, judge. -/
namespace Wd
open PySem PySem.Spec PyProof.Rows L2
def nI (l : List Nat) : List D := l.map fun (i : Nat) => .int (i : Int)
structure Trk where
  vals : List (List Int)
  mems : List D
  starts : List Nat
  steps : List (List Nat)
  reached : List Bool
def Trk.mark (T : Trk) (k : Nat) : D := .tuple [eI (T.vals.getD k []), T.mems.getD k .none]
def Trk.d (T : Trk) : D := .tuple [.tuple ((List.range T.vals.length).map T.mark), .tuple (nI T.starts), .tuple (T.steps.map fun r => .tuple (nI r)), .tuple (T.reached.map .bool)]
structure TkOk (n : Nat) (T : Trk) : Prop where
  m : T.vals.length ≤ 1000
  st : T.steps.length = T.vals.length
  re : T.reached.length = T.vals.length
  va : ∀ vs ∈ T.vals, VOk n vs
  sl : T.starts.length ≤ 1000
  ss : ∀ s ∈ T.starts, s < T.vals.length
  rl : ∀ r ∈ T.steps, r.length ≤ 900
  rs : ∀ r ∈ T.steps, ∀ s ∈ r, s < T.vals.length
def Trk.cands (T : Trk) : Option (List Nat) → List Nat
  | none => T.starts
  | some ms => ms.flatMap fun m => T.steps.getD m []
def Trk.fit (T : Trk) (ss : List Sens) (r : Rd) (c : Nat) : Bool := allShow (T.vals.getD c []) ss r
/-- the members after a reading -/
def Trk.after (T : Trk) (ss : List Sens) (ms : Option (List Nat)) (r : Rd) : List Nat := (List.range T.vals.length).filter fun c => decide (c ∈ T.cands ms) && T.fit ss r c
def MOk (T : Trk) : Option (List Nat) → Prop
  | none => True
  | some ms => ms.Nodup ∧ ∀ m ∈ ms, m < T.vals.length
theorem nodup_len {l : List Nat} {n : Nat} (h : l.Nodup) (b : ∀ x ∈ l, x < n) : l.length ≤ n := by
  have := List.Nodup.length_le_of_subset (l₂ := List.range n) h fun x m => List.mem_range.mpr (b x m)
  simpa using this
theorem after_ok {T : Trk} {ss : List Sens} {ms : Option (List Nat)} {r : Rd} : MOk T (some (T.after ss ms r)) := by
  refine ⟨List.Nodup.sublist List.filter_sublist List.nodup_range, fun m h => ?_⟩
  exact List.mem_range.mp (List.mem_filter.mp h).1
theorem cands_ok {n : Nat} {T : Trk} (h : TkOk n T) {ms : Option (List Nat)} (hm : MOk T ms) : (∀ c ∈ T.cands ms, c < T.vals.length) ∧ (T.cands ms).length ≤ 900000 := by
  cases ms with
  | none => exact ⟨h.ss, Nat.le_trans h.sl (by decide)⟩
  | some ms =>
    have gm : ∀ m ∈ ms, T.steps.getD m [] ∈ T.steps := fun m hm' => by
      have := hm.2 m hm'
      have hl : m < T.steps.length := by rw [h.st]; exact this
      rw [List.getD_eq_getElem?_getD, List.getElem?_eq_getElem hl]
      exact List.getElem_mem hl
    constructor
    · intro c hc
      obtain ⟨m, h1, h2⟩ := List.mem_flatMap.mp hc
      exact h.rs _ (gm m h1) c h2
    · have hl := Nat.le_trans (nodup_len hm.1 hm.2) h.m
      have key : ∀ l : List Nat, (∀ m ∈ l, T.steps.getD m [] ∈ T.steps) → (l.flatMap fun m => T.steps.getD m []).length ≤ l.length * 900 := fun l => by
        induction l with
        | nil => intro _; simp
        | cons a r ih =>
          intro g
          rw [List.flatMap_cons, List.length_append, List.length_cons]
          have := ih fun m hm => g m (List.mem_cons_of_mem _ hm)
          have := h.rl _ (g a List.mem_cons_self)
          omega
      have := key ms gm
      show (ms.flatMap _).length ≤ _
      omega
/-- two sorted lists with the same members, each once -/
theorem sorted_eq : ∀ {l m : List Int}, l.Pairwise (· ≤ ·) → m.Pairwise (· ≤ ·) → l.Nodup → m.Nodup → (∀ x, x ∈ l ↔ x ∈ m) → l = m
  | [], [], _, _, _, _, _ => rfl
  | [], b :: m, _, _, _, _, h => absurd ((h b).mpr List.mem_cons_self) (by simp)
  | a :: l, [], _, _, _, _, h => absurd ((h a).mp List.mem_cons_self) (by simp)
  | a :: l, b :: m, h1, h2, n1, n2, h => by
    rw [List.pairwise_cons] at h1 h2
    rw [List.nodup_cons] at n1 n2
    have e : a = b := by
      rcases List.mem_cons.mp ((h a).mp List.mem_cons_self) with q | q
      · exact q
      · rcases List.mem_cons.mp ((h b).mpr List.mem_cons_self) with z | z
        · exact z.symm
        · have := h2.1 a q
          have := h1.1 b z
          omega
    subst e
    rw [sorted_eq h1.2 h2.2 n1.2 n2.2 fun x => ?_]
    have q := h x
    simp only [List.mem_cons] at q
    constructor
    · intro hx
      rcases q.mp (.inr hx) with z | z
      · rw [z] at hx; exact absurd hx n1.1
      · exact z
    · intro hx
      rcases q.mpr (.inr hx) with z | z
      · rw [z] at hx; exact absurd hx n2.1
      · exact z
theorem ints_nI (l : List Nat) : intsOf (nI l) = some (l.map fun (i : Nat) => (i : Int)) := by
  induction l with
  | nil => rfl
  | cons a r ih =>
    show (intsOf (nI r)).map ((a : Int) :: ·) = _
    rw [ih]
    rfl
theorem put_new {kvs : Kvs} {k : NestedKey} {d : D} (h : dlook kvs k = none) : dput kvs k d = kvs ++ [(k, d)] := by
  unfold dput
  rw [h]
  rfl
/-- the dict that holds these ints -/
def kF (l : List Nat) : Kvs := l.map fun (c : Nat) => (.num (c : Int), .bool true)
theorem look_kF {l : List Nat} {c : Nat} : (dlook (kF l) (.num (c : Int))).isSome = true ↔ c ∈ l := by
  induction l with
  | nil => simp [kF]
  | cons a r ih =>
    unfold dlook kF at ih ⊢
    rw [List.map_cons, List.find?_cons]
    by_cases e : a = c
    · subst e; simp
    · have e2 : ¬ ((NestedKey.num (a : Int)) = NestedKey.num (c : Int)) := fun z => e (by have := NestedKey.num.inj z; omega)
      simp only [e2, decide_false]
      rw [ih]
      simp [Ne.symm e]
def memD : Option (List Nat) → D
  | none => .none
  | some ms => .list (nI ms)
def spSet : FSp := fun ds P _ => ∃ (p0 p1 : D) (ss : List Sens) (T : Trk) (ms : Option (List Nat)) (r : Rd) (n : Nat), ds = [pD p0 p1 ss, T.d, memD ms, eR r] ∧ (∀ s ∈ ss, SOk n s) ∧ ss.length ≤ 5 ∧ r.length ≤ 1000 ∧ TkOk n T ∧ MOk T ms ∧ P (.list (nI (T.after ss ms r)))
theorem steps_at {n : Nat} {T : Trk} (h : TkOk n T) {m : Nat} (hm : m < T.vals.length) : atI (T.steps.map fun r => PyData.tuple (nI r)) (m : Int) = some (.tuple (nI (T.steps.getD m []))) := by
  have hl : m < T.steps.length := by rw [h.st]; exact hm
  refine at_map (f := fun r => PyData.tuple (nI r)) ?_
  rw [List.getD_eq_getElem?_getD, List.getElem?_eq_getElem hl]
  rfl
theorem mark_at {T : Trk} {m : Nat} (hm : m < T.vals.length) : atI ((List.range T.vals.length).map T.mark) (m : Int) = some (T.mark m) := at_map (by rw [List.getElem?_range hm])
theorem val_in {T : Trk} {m : Nat} (hm : m < T.vals.length) : T.vals.getD m [] ∈ T.vals := by
  rw [List.getD_eq_getElem?_getD, List.getElem?_eq_getElem hm]
  exact List.getElem_mem hm
theorem nodup_cast {l : List Nat} (h : l.Nodup) : (l.map fun (i : Nat) => (i : Int)).Nodup := by
  unfold List.Nodup
  rw [List.pairwise_map]
  exact List.Pairwise.imp (fun h e => h (by omega)) h
theorem keys_kF (l : List Nat) : (kF l).map (fun p => unkey p.1) = nI l := by
  unfold kF nI
  rw [List.map_map]
  rfl
theorem range_sorted (n : Nat) : ((List.range n).map fun (i : Nat) => (i : Int)).Pairwise (· ≤ ·) := by
  rw [List.pairwise_map]
  exact List.Pairwise.imp (fun h => by omega) List.pairwise_lt_range
/-- from the candidates on -/
def sa_rest : Ss := (sSeq (sNewD 5) (sSeq (sFor 6 (iName 4) (sIf (tAndM (tNin (eVar 6) 5) (tV (eCall spShow (aCons (eVar 0) (aCons (eIx (eIx (eIxN 1 (eC (.int 0))) (eVar 6)) (eC (.int 0))) (aCons (eVar 3) aNil)))))) (sPut 5 (eVar 6) (eC (.bool true))) sNop)) (sRet (eSorted (eKeysN 5)))))
theorem vc_set1 {p0 p1 : D} {ss : List Sens} {T : Trk} {ms : Option (List Nat)} {r : Rd} {n : Nat} {Pd : D → Prop} {Px : Prop} (hs : ∀ s ∈ ss, SOk n s) (hz : ss.length ≤ 5) (hr : r.length ≤ 1000) (hT : TkOk n T) (hm : MOk T ms) (h : Pd (.list (nI (T.after ss ms r)))) (x : D) :
    sa_rest [.im (pD p0 p1 ss), .im T.d, .im x, .im (eR r), .im (.list (nI (T.cands ms))), .un, .un, .un, .un] (goal false Pd Px) := by
  obtain ⟨hc1, hc2⟩ := cands_ok hT hm
  simp [sa_rest]
  refine ⟨false, fun l => ?_⟩
  simp
  refine for_gen (fun k G' => ∃ (a : Slot) (F : List Nat), G' = [.im (pD p0 p1 ss), .im T.d, .im x, .im (eR r), .im (.list (nI (T.cands ms))), .ow l (.dct false (kF F)), a, .un, .un] ∧ F.Nodup ∧ ∀ c, c ∈ F ↔ c ∈ (T.cands ms).take k ∧ T.fit ss r c = true)
    ⟨_, [], rfl, List.nodup_nil, by simp⟩ (fun _ _ _ _ => trivial) ?_ ?_
  · rintro J hJ k d G' hk ⟨a, F, rfl, nd, mem⟩
    obtain ⟨c, hc, rfl⟩ := map_get hk
    have cin := List.mem_of_getElem? hc
    have cl := hc1 c cin
    have tk : ∀ x, x ∈ (T.cands ms).take (k + 1) ↔ x ∈ (T.cands ms).take k ∨ x = c := fun x => by
      rw [List.take_add_one, hc]
      simp
    simp
    have hlk := look_kF (l := F) (c := c)
    cases e : dlook (kF F) (.num (c : Int)) with
    | some v =>
      have hF : c ∈ F := hlk.mp (by rw [e]; rfl)
      simp
      refine hJ _ _ ⟨_, F, rfl, nd, fun x => ?_⟩
      rw [mem x, tk x]
      constructor
      · exact fun z => ⟨.inl z.1, z.2⟩
      · rintro ⟨z | z, q⟩
        · exact ⟨z, q⟩
        · rw [z]; exact (mem c).mp hF
    | none =>
      have hF : c ∉ F := fun z => by
        have := hlk.mpr z
        rw [e] at this; cases this
      have hFl : F.length ≤ 1000 := Nat.le_trans (nodup_len nd fun y hy => hc1 y (List.mem_of_mem_take ((mem y).mp hy).1)) hT.m
      simp [Trk.d, mark_at cl, Trk.mark]
      refine ⟨p0, p1, ss, T.vals.getD c [], r, n, by simp, hs, by omega, hr, hT.va _ (val_in cl), ?_⟩
      cases ef : allShow (T.vals.getD c []) ss r with
      | false =>
        simp
        refine hJ _ _ ⟨_, F, rfl, nd, fun x => ?_⟩
        rw [mem x, tk x]
        constructor
        · exact fun z => ⟨.inl z.1, z.2⟩
        · rintro ⟨z | z, q⟩
          · exact ⟨z, q⟩
          · rw [z] at q
            have q : allShow (T.vals.getD c []) ss r = true := q
            rw [ef] at q; cases q
      | true =>
        simp
        refine ⟨by unfold kF; rw [List.length_map]; omega, ?_⟩
        have ep : dput (kF F) (.num (c : Int)) (.bool true) = kF (F ++ [c]) := by
          rw [put_new e]
          unfold kF
          simp
        rw [ep]
        refine hJ _ _ ⟨_, F ++ [c], rfl, ?_, fun x => ?_⟩
        · rw [List.nodup_append]
          exact ⟨nd, by simp, fun y hy z hz e => by rw [List.mem_singleton.mp hz] at e; rw [e] at hy; exact hF hy⟩
        · rw [List.mem_append, mem x, tk x, List.mem_singleton]
          constructor
          · rintro (z | z)
            · exact ⟨.inl z.1, z.2⟩
            · rw [z]; exact ⟨.inr rfl, ef⟩
          · rintro ⟨z | z, q⟩
            · exact .inl ⟨z, q⟩
            · exact .inr z
  · rintro G' ⟨a, F, rfl, nd, mem⟩
    have el : (nI (T.cands ms)).length = (T.cands ms).length := by unfold nI; rw [List.length_map]
    rw [el, List.take_length] at mem
    simp [keys_kF, ints_nI]
    intro ns' hp hsort
    have e : ns' = (T.after ss ms r).map fun (i : Nat) => (i : Int) := by
      refine sorted_eq hsort ?_ ?_ ?_ fun x => ?_
      · unfold Trk.after
        refine List.Pairwise.sublist (List.Sublist.map _ List.filter_sublist) (range_sorted _)
      · refine (hp.nodup_iff).mpr ?_
        exact nodup_cast nd
      · exact nodup_cast (List.Nodup.sublist List.filter_sublist List.nodup_range)
      · rw [hp.mem_iff]
        simp only [List.mem_map]
        unfold Trk.after
        simp only [List.mem_filter, List.mem_range, Bool.and_eq_true, decide_eq_true_eq]
        constructor
        · rintro ⟨y, hy, rfl⟩
          obtain ⟨q1, q2⟩ := (mem y).mp hy
          exact ⟨y, ⟨hc1 y q1, q1, q2⟩, rfl⟩
        · rintro ⟨y, ⟨_, q1, q2⟩, rfl⟩
          exact ⟨y, (mem y).mpr ⟨q1, q2⟩, rfl⟩
    rw [e, List.map_map]
    exact h
theorem vc_set (ds : List D) (Pd : D → Prop) (Px : Prop) (h : spSet ds Pd Px) : ir_set_after spShow (start0 n_set_after.length ds) (goal false Pd Px) := by
  obtain ⟨p0, p1, ss, T, ms, r, n, rfl, hs, hz, hr, hT, hm, h⟩ := h
  obtain ⟨hc1, hc2⟩ := cands_ok hT hm
  have tail := vc_set1 (p0 := p0) (p1 := p1) (Px := Px) hs hz hr hT hm h
  unfold ir_set_after
  rw [show (sSeq (sNewD 5) (sSeq (sFor 6 (iName 4) (sIf (tAndM (tNin (eVar 6) 5) (tV (eCall spShow (aCons (eVar 0) (aCons (eIx (eIx (eIxN 1 (eC (.int 0))) (eVar 6)) (eC (.int 0))) (aCons (eVar 3) aNil)))))) (sPut 5 (eVar 6) (eC (.bool true))) sNop)) (sRet (eSorted (eKeysN 5))))) = sa_rest from rfl]
  generalize sa_rest = rest at tail ⊢
  cases ms with
  | none =>
    simp [start0, n_set_after, memD, Trk.d]
    refine asgL_im ?_
    simp
    exact tail _
  | some ms =>
    have hb : ∀ m ∈ ms, m < T.vals.length := hm.2
    have e : (nI ms).flatMap (fun d => (match d with | .int i => nI (T.steps.getD i.toNat []) | _ => []).map fun x => x) = nI (T.cands (some ms)) := by
      unfold nI Trk.cands
      rw [List.flatMap_map, List.map_flatMap]
      congr 1
      funext m
      simp
    simp [start0, n_set_after, memD]
    refine lc2_map (fun d => (match d with | .int i => nI (T.steps.getD i.toNat []) | _ => [])) (fun _ x => x) rfl trivial ?_ ?_ ?_ ?_
    · rw [e]
      unfold nI
      rw [List.length_map]
      omega
    · intro k d hd R hR
      obtain ⟨m, hm1, rfl⟩ := map_get hd
      have ml := hb m (List.mem_of_getElem? hm1)
      simp [wipeG, Trk.d, steps_at hT ml] at hR ⊢
      exact hR
    · intro k d m x hd hx Q hQ
      simp [wipeG] at hQ ⊢
      exact hQ
    · rw [e]
      simp
      exact tail _
/-! ### the verdict -/
def Trk.sure (T : Trk) (ms : List Nat) : Nat := (ms.filter fun m => T.reached.getD m false).length
def Trk.verdict (T : Trk) : Option (List Nat) → Str
  | none => "impossible"
  | some ms => if ms.length = 0 then "impossible" else if T.sure ms = ms.length then "sure" else if T.sure ms = 0 then "never" else "unknown"
def spVerdict : FSp := fun ds P _ => ∃ (T : Trk) (ms : Option (List Nat)) (n : Nat), ds = [T.d, memD ms] ∧ TkOk n T ∧ MOk T ms ∧ P (.str (T.verdict ms))
theorem reached_at {n : Nat} {T : Trk} (h : TkOk n T) {m : Nat} (hm : m < T.vals.length) : atI (T.reached.map PyData.bool) (m : Int) = some (.bool (T.reached.getD m false)) := by
  have hl : m < T.reached.length := by rw [h.re]; exact hm
  refine at_map ?_
  rw [List.getD_eq_getElem?_getD, List.getElem?_eq_getElem hl]
  rfl
theorem sum_bools {l : List Nat} {f : Nat → Bool} : (l.map fun m => (if f m = true then (1 : Int) else 0)).sum = ((l.filter f).length : Int) := by
  induction l with
  | nil => rfl
  | cons a r ih =>
    rw [List.map_cons, List.sum_cons, ih, List.filter_cons]
    cases f a <;> simp; omega
theorem ints_map {α : Type} {l : List α} {f : α → Int} : intsOf (l.map fun x => PyData.int (f x)) = some (l.map f) := by
  induction l with
  | nil => rfl
  | cons a r ih =>
    show (intsOf (r.map fun x => PyData.int (f x))).map (f a :: ·) = _
    rw [ih]
    rfl
theorem vc_verdict (ds : List D) (Pd : D → Prop) (Px : Prop) (h : spVerdict ds Pd Px) : ir_verdict_of (start0 n_verdict_of.length ds) (goal false Pd Px) := by
  obtain ⟨T, ms, n, rfl, hT, hm, h⟩ := h
  cases ms with
  | none => simp [ir_verdict_of, start0, n_verdict_of, memD]; exact h
  | some ms =>
    have hml : ms.length ≤ 1000 := Nat.le_trans (nodup_len hm.1 hm.2) hT.m
    have h : Pd (.str (if ms.length = 0 then "impossible" else if T.sure ms = ms.length then "sure" else if T.sure ms = 0 then "never" else "unknown")) := h
    have el : (nI ms).length = ms.length := by unfold nI; rw [List.length_map]
    by_cases e0 : ms.length = 0
    · rw [if_pos e0] at h
      have e0' : (nI ms).length = 0 := by rw [el]; exact e0
      simp [ir_verdict_of, start0, n_verdict_of, memD, e0']; exact h
    · rw [if_neg e0] at h
      have e0' : ¬ (nI ms) = [] := fun z => e0 (by rw [← el, z]; rfl)
      simp [ir_verdict_of, start0, n_verdict_of, memD, e0']
      refine lc_map (fun d => match d with | .int i => .int (if T.reached.getD i.toNat false = true then 1 else 0) | _ => d) rfl trivial (by rw [el]; omega) ?_ ?_
      · intro k d hd
        obtain ⟨m, hm1, rfl⟩ := map_get hd
        have ml := hm.2 m (List.mem_of_getElem? hm1)
        refine ⟨_, rfl, fun Q hQ => ?_⟩
        simp [wipeG, Trk.d, reached_at hT ml] at hQ ⊢
        exact hQ
      · have e : (nI ms).map (fun d => match d with | .int i => PyData.int (if T.reached.getD i.toNat false = true then 1 else 0) | _ => d) = ms.map fun m => PyData.int (if T.reached.getD m false = true then 1 else 0) := by
          unfold nI
          rw [List.map_map]
          rfl
        rw [e]
        simp only [ints_map, sum_bools]
        have es : (ms.filter fun m => T.reached.getD m false).length = T.sure ms := rfl
        rw [es]
        by_cases c1 : T.sure ms = ms.length
        · rw [if_pos c1] at h
          simp [el, c1]; exact h
        · rw [if_neg c1] at h
          have c1' : ¬ (T.sure ms : Int) = (ms.length : Int) := by omega
          by_cases c2 : T.sure ms = 0
          · rw [if_pos c2] at h
            have c3 : ¬ (0 : Int) = (ms.length : Int) := by omega
            simp [el, c2, c3]
            exact h
          · rw [if_neg c2] at h
            have c2' : ¬ (T.sure ms : Int) = 0 := by omega
            simp [el, c1', c2, c2']
            exact h
/-! ### judge -/
def Trk.run (T : Trk) (ss : List Sens) (rows : List Rd) : Option (List Nat) := rows.foldl (fun ms r => some (T.after ss ms r)) none
theorem run_snoc {T : Trk} {ss : List Sens} {rows : List Rd} {r : Rd} : T.run ss (rows ++ [r]) = some (T.after ss (T.run ss rows) r) := by
  unfold Trk.run
  rw [List.foldl_append]
  rfl
theorem run_ok {T : Trk} {ss : List Sens} {rows : List Rd} : MOk T (T.run ss rows) := by
  rcases List.eq_nil_or_concat rows with e | ⟨l, r, e⟩
  · rw [e]; trivial
  · rw [e, List.concat_eq_append, run_snoc]; exact after_ok
theorem take_snoc {α : Type} {l : List α} {k : Nat} {x : α} (h : l[k]? = some x) : l.take (k + 1) = l.take k ++ [x] := by
  rw [List.take_add_one, h]
  rfl
def spJudge : FSp := fun ds P _ => ∃ (p0 p1 : D) (ss : List Sens) (T : Trk) (rows : List Rd) (n : Nat), ds = [pD p0 p1 ss, T.d, .list (rows.map eR)] ∧ (∀ s ∈ ss, SOk n s) ∧ ss.length ≤ 5 ∧ (∀ r ∈ rows, r.length ≤ 1000) ∧ TkOk n T ∧ P (.str (T.verdict (T.run ss rows)))
theorem vc_judge (ds : List D) (Pd : D → Prop) (Px : Prop) (h : spJudge ds Pd Px) : ir_judge spSet spVerdict (start0 n_judge.length ds) (goal false Pd Px) := by
  obtain ⟨p0, p1, ss, T, rows, n, rfl, hs, hz, hr, hT, h⟩ := h
  simp [ir_judge, start0, n_judge]
  refine for_gen (fun k G' => ∃ (a : Slot), G' = [.im (pD p0 p1 ss), .im T.d, .im (.list (rows.map eR)), .im (memD (T.run ss (rows.take k))), a]) ⟨_, rfl⟩ (fun _ _ _ _ => trivial) ?_ ?_
  · rintro J hJ k d G' hk ⟨a, rfl⟩
    obtain ⟨r, hr1, rfl⟩ := map_get hk
    simp
    refine ⟨p0, p1, ss, T, T.run ss (rows.take k), r, n, rfl, hs, hz, hr r (List.mem_of_getElem? hr1), hT, run_ok, ?_⟩
    simp
    refine hJ _ _ ⟨.im (eR r), ?_⟩
    rw [take_snoc hr1, run_snoc]
    rfl
  · rintro G' ⟨a, rfl⟩
    simp
    refine ⟨T, _, n, rfl, hT, run_ok, ?_⟩
    simp
    exact h
end Wd

/-! C7: grouping, classes. -/
namespace Wd
open PySem PySem.Spec PyProof.Rows L2
/-- numbers in the order in which they first come: c of them -/
inductive Cn : List Nat → Nat → Prop
  | nil : Cn [] 0
  | old {g : List Nat} {c v : Nat} : Cn g c → v < c → Cn (g ++ [v]) c
  | new {g : List Nat} {c : Nat} : Cn g c → Cn (g ++ [c]) (c + 1)
theorem Cn.mem {g : List Nat} {c : Nat} (h : Cn g c) : ∀ v, v ∈ g ↔ v < c := by
  induction h with
  | nil => simp
  | old _ hv ih => intro w; rw [List.mem_append, ih w, List.mem_singleton]; constructor
                   · rintro (z | z) <;> omega
                   · exact fun z => .inl z
  | new _ ih => intro w; rw [List.mem_append, ih w, List.mem_singleton]; omega
theorem Cn.uniq {g : List Nat} {c d : Nat} (h : Cn g c) (h' : Cn g d) : c = d := by
  have a := h.mem
  have b := h'.mem
  by_cases e : c = d
  · exact e
  · rcases Nat.lt_or_gt_of_ne e with z | z
    · have := (a c).mp ((b c).mpr z); omega
    · have := (b d).mp ((a d).mpr z); omega
theorem Cn.inv {g : List Nat} {w c : Nat} (h : Cn (g ++ [w]) c) : ∃ c', Cn g c' ∧ ((w < c' ∧ c = c') ∨ (w = c' ∧ c = c' + 1)) := by
  generalize e : g ++ [w] = l at h
  cases h with
  | nil => simp at e
  | @old g' c v h hv =>
    obtain ⟨e1, e2⟩ := List.append_inj' e rfl
    simp at e2
    subst e1 e2
    exact ⟨_, h, .inl ⟨hv, rfl⟩⟩
  | @new g' c h =>
    obtain ⟨e1, e2⟩ := List.append_inj' e rfl
    simp at e2
    subst e1 e2
    exact ⟨_, h, .inr ⟨rfl, rfl⟩⟩
theorem Cn.len {g : List Nat} {c : Nat} (h : Cn g c) : c ≤ g.length := by
  induction h with
  | nil => simp
  | old _ _ ih => simp; omega
  | new _ ih => simp; omega
def Refines (f g : List Nat) : Prop := ∀ i j x : Nat, f[i]? = some x → f[j]? = some x → g[i]? = g[j]?
theorem Cn.finer {f : List Nat} {cf : Nat} (hf : Cn f cf) : ∀ {g : List Nat} {cg : Nat}, Cn g cg → g.length = f.length → Refines f g → cg ≤ cf ∧ (cg = cf → f = g) := by
  induction hf with
  | nil =>
    intro g cg hg hl _
    have e : g = [] := List.eq_nil_of_length_eq_zero (by simpa using hl)
    subst e
    have := hg.uniq .nil
    exact ⟨by omega, fun _ => rfl⟩
  | @old f' cf v hf' hv ih =>
    intro g cg hg hl hr
    rcases List.eq_nil_or_concat g with e | ⟨g', w, e⟩
    · rw [e] at hl; simp at hl
    · rw [List.concat_eq_append] at e
      subst e
      have hl' : g'.length = f'.length := by simpa using hl
      obtain ⟨cg', hg', q⟩ := hg.inv
      have hr' : Refines f' g' := fun i j x h1 h2 => by
        have a1 := (List.getElem?_eq_some_iff.mp h1).1
        have a2 := (List.getElem?_eq_some_iff.mp h2).1
        have z := hr i j x (by rw [List.getElem?_append_left a1]; exact h1) (by rw [List.getElem?_append_left a2]; exact h2)
        rwa [List.getElem?_append_left (by omega), List.getElem?_append_left (by omega)] at z
      obtain ⟨i1, i2⟩ := ih hg' hl' hr'
      obtain ⟨j, hj⟩ := List.mem_iff_getElem?.mp ((hf'.mem v).mpr hv)
      have a1 := (List.getElem?_eq_some_iff.mp hj).1
      have z := hr j f'.length v (by rw [List.getElem?_append_left a1]; exact hj) (by simp)
      rw [List.getElem?_append_left (by omega), ← hl'] at z
      have z2 : g'[j]? = some w := by simpa using z
      have hw : w < cg' := (hg'.mem w).mp (List.mem_of_getElem? z2)
      rcases q with ⟨_, rfl⟩ | ⟨q, _⟩
      · refine ⟨i1, fun e => ?_⟩
        have e2 := i2 e
        subst e2
        rw [hj] at z2
        cases z2
        rfl
      · omega
  | @new f' cf hf' ih =>
    intro g cg hg hl hr
    rcases List.eq_nil_or_concat g with e | ⟨g', w, e⟩
    · rw [e] at hl; simp at hl
    · rw [List.concat_eq_append] at e
      subst e
      have hl' : g'.length = f'.length := by simpa using hl
      obtain ⟨cg', hg', q⟩ := hg.inv
      have hr' : Refines f' g' := fun i j x h1 h2 => by
        have a1 := (List.getElem?_eq_some_iff.mp h1).1
        have a2 := (List.getElem?_eq_some_iff.mp h2).1
        have z := hr i j x (by rw [List.getElem?_append_left a1]; exact h1) (by rw [List.getElem?_append_left a2]; exact h2)
        rwa [List.getElem?_append_left (by omega), List.getElem?_append_left (by omega)] at z
      obtain ⟨i1, i2⟩ := ih hg' hl' hr'
      rcases q with ⟨_, rfl⟩ | ⟨rfl, rfl⟩
      · exact ⟨by omega, fun e => by omega⟩
      · refine ⟨by omega, fun e => ?_⟩
        have e2 : w = cf := by omega
        rw [i2 e2, e2]
/-- a list of numbers groups the keys -/
structure GrpOf (ks : List NestedKey) (g : List Nat) (c : Nat) : Prop where
  len : g.length = ks.length
  cn : Cn g c
  eqv : ∀ i j x y : Nat, ∀ a b : NestedKey, ks[i]? = some a → ks[j]? = some b → g[i]? = some x → g[j]? = some y → (x = y ↔ a = b)
def spGroup : FSp := fun ds P _ => ∃ (keys : List D) (tp : Bool) (ks : List NestedKey), ds = [.list keys] ∧ keys.length = ks.length ∧ (∀ (i : Nat) d k, keys[i]? = some d → ks[i]? = some k → keyOf tp d = some k) ∧ ks.length ≤ 1000 ∧ ∀ g c, GrpOf ks g c → P (.list (nI g))
theorem nI_len (l : List Nat) : (nI l).length = l.length := by unfold nI; rw [List.length_map]
theorem nI_snoc (l : List Nat) (v : Nat) : nI l ++ [.int (v : Int)] = nI (l ++ [v]) := by unfold nI; simp
theorem vc_group (ds : List D) (Pd : D → Prop) (Px : Prop) (h : spGroup ds Pd Px) : ir_grouped (start0 n_grouped.length ds) (goal false Pd Px) := by
  obtain ⟨keys, tp, ks, rfl, hl, hk, hz, h⟩ := h
  simp [ir_grouped, start0, n_grouped]
  refine ⟨tp, fun l => ?_⟩
  simp
  refine asgL_own ?_
  simp
  intro l2
  refine for_gen (fun k G' => ∃ (a : Slot) (kvs : Kvs) (g : List Nat) (c : Nat), G' = [.im (.list keys), .ow l (.dct tp kvs), .ow l2 (.lst (nI g)), a] ∧ GrpOf (ks.take k) g c ∧ kvs.length = c ∧ ∀ q d, dlook kvs q = some d ↔ ∃ (i x : Nat), (ks.take k)[i]? = some q ∧ g[i]? = some x ∧ d = .int (x : Int))
    ⟨_, [], [], 0, rfl, ⟨rfl, .nil, by simp⟩, rfl, by simp⟩ (fun _ _ _ _ => trivial) ?_ ?_
  · rintro J hJ k d G' hd ⟨a, kvs, g, c, rfl, G0, e1, e2⟩
    have hkl : k < ks.length := by rw [← hl]; exact (List.getElem?_eq_some_iff.mp hd).1
    have hq := List.getElem?_eq_getElem hkl
    generalize ks[k] = q at hq
    have hkey := hk k d q hd hq
    have tk := take_snoc hq
    have gl : g.length = k := by rw [G0.len, List.length_take]; omega
    have cl := G0.cn.len
    have tl : (ks.take k).length = k := by rw [List.length_take]; omega
    -- the new element's value x, the new count c2
    have fin : ∀ (x c2 : Nat) (kvs2 : Kvs), Cn (g ++ [x]) c2 → (∀ i y b, (ks.take k)[i]? = some b → g[i]? = some y → (y = x ↔ b = q)) → kvs2.length = c2 → (∀ q' d, dlook kvs2 q' = some d ↔ ((∃ (i y : Nat), (ks.take k)[i]? = some q' ∧ g[i]? = some y ∧ d = .int (y : Int)) ∨ (q' = q ∧ d = .int (x : Int)))) →
        J (k + 1) [.im (.list keys), .ow l (.dct tp kvs2), .ow l2 (.lst (nI g ++ [.int (x : Int)])), .im d] := fun x c2 kvs2 h1 h2 h3 h4 => by
      refine hJ _ _ ⟨_, kvs2, g ++ [x], c2, by rw [nI_snoc], ⟨by rw [tk]; simp [tl, gl], h1, fun i j x1 y1 a b q1 q2 q3 q4 => ?_⟩, h3, fun q' d => ?_⟩
      · rw [tk] at q1 q2
        rcases Nat.lt_or_ge i k with hi | hi <;> rcases Nat.lt_or_ge j k with hj | hj
        · rw [List.getElem?_append_left (by omega)] at q1 q2 q3 q4
          exact G0.eqv i j x1 y1 a b q1 q2 q3 q4
        · rw [List.getElem?_append_left (by omega)] at q1 q3
          rw [List.getElem?_append_right (by omega)] at q2 q4
          have : j - (ks.take k).length = 0 := by
            cases z : j - (ks.take k).length with
            | zero => rfl
            | succ n => rw [z] at q2; simp at q2
          have : j - g.length = 0 := by omega
          rw [‹j - (ks.take k).length = 0›] at q2
          rw [this] at q4
          simp at q2 q4
          subst q2 q4
          exact h2 i x1 a q1 q3
        · rw [List.getElem?_append_right (by omega)] at q1 q3
          rw [List.getElem?_append_left (by omega)] at q2 q4
          have : i - (ks.take k).length = 0 := by
            cases z : i - (ks.take k).length with
            | zero => rfl
            | succ n => rw [z] at q1; simp at q1
          have : i - g.length = 0 := by omega
          rw [‹i - (ks.take k).length = 0›] at q1
          rw [this] at q3
          simp at q1 q3
          subst q1 q3
          have z := h2 j y1 b q2 q4
          exact ⟨fun e => (z.mp e.symm).symm, fun e => (z.mpr e.symm).symm⟩
        · rw [List.getElem?_append_right (by omega)] at q1 q2 q3 q4
          have a1 : i - (ks.take k).length = 0 := by
            cases z : i - (ks.take k).length with
            | zero => rfl
            | succ n => rw [z] at q1; simp at q1
          have a2 : j - (ks.take k).length = 0 := by
            cases z : j - (ks.take k).length with
            | zero => rfl
            | succ n => rw [z] at q2; simp at q2
          have a3 : i - g.length = 0 := by omega
          have a4 : j - g.length = 0 := by omega
          rw [a1] at q1; rw [a2] at q2; rw [a3] at q3; rw [a4] at q4
          simp at q1 q2 q3 q4
          subst q1 q2 q3 q4
          simp
      · rw [h4 q' d, tk]
        constructor
        · rintro (⟨i, y, w1, w2, w3⟩ | ⟨rfl, rfl⟩)
          · have := (List.getElem?_eq_some_iff.mp w1).1
            exact ⟨i, y, by rw [List.getElem?_append_left this]; exact w1, by rw [List.getElem?_append_left (by omega)]; exact w2, w3⟩
          · exact ⟨k, x, by rw [List.getElem?_append_right (by omega)]; simp [tl], by rw [List.getElem?_append_right (by omega)]; simp [gl], rfl⟩
        · rintro ⟨i, y, w1, w2, w3⟩
          rcases Nat.lt_or_ge i k with hi | hi
          · rw [List.getElem?_append_left (by omega)] at w1 w2
            exact .inl ⟨i, y, w1, w2, w3⟩
          · rw [List.getElem?_append_right (by omega)] at w1 w2
            have a1 : i - (ks.take k).length = 0 := by
              cases z : i - (ks.take k).length with
              | zero => rfl
              | succ n => rw [z] at w1; simp at w1
            have a3 : i - g.length = 0 := by omega
            rw [a1] at w1; rw [a3] at w2
            simp at w1 w2
            subst w1 w2
            exact .inr ⟨rfl, w3⟩
    simp [hkey]
    cases e : dlook kvs q with
    | some v =>
      obtain ⟨i, x, w1, w2, rfl⟩ := (e2 q v).mp e
      simp [hkey, e, nI_len]
      refine ⟨by omega, ?_⟩
      refine fin x c kvs (.old G0.cn ((G0.cn.mem x).mp (List.mem_of_getElem? w2))) (fun i' y b q1 q2 => G0.eqv i' i y x b q q1 w1 q2 w2) e1 fun q' d => ?_
      rw [e2 q' d]
      constructor
      · exact fun z => .inl z
      · rintro (z | ⟨rfl, rfl⟩)
        · exact z
        · exact ⟨i, x, w1, w2, rfl⟩
    | none =>
      have notin : ∀ i b, (ks.take k)[i]? = some b → b ≠ q := fun i b q1 eb => by
        have hi := (List.getElem?_eq_some_iff.mp q1).1
        have hg : i < g.length := by omega
        have := (e2 q _).mpr ⟨i, g[i], by rw [← eb]; exact q1, List.getElem?_eq_getElem hg, rfl⟩
        rw [e] at this; cases this
      simp [hkey, look_put, e1, nI_len]
      refine ⟨by omega, by omega, ?_⟩
      refine fin c (c + 1) _ (.new G0.cn) (fun i' y b q1 q2 => ?_) (by rw [put_len e, e1]) fun q' d => ?_
      · have := (G0.cn.mem y).mp (List.mem_of_getElem? q2)
        have := notin i' b q1
        constructor
        · intro z; omega
        · intro z; exact absurd z this
      · rw [look_put]
        by_cases c1 : q' = q
        · subst c1
          rw [if_pos rfl]
          constructor
          · intro z; cases z; exact .inr ⟨rfl, rfl⟩
          · rintro (⟨i, y, w1, _, _⟩ | ⟨_, rfl⟩)
            · exact absurd rfl (notin i _ w1)
            · rfl
        · rw [if_neg c1, e2 q' d]
          constructor
          · exact fun z => .inl z
          · rintro (z | ⟨z, _⟩)
            · exact z
            · exact absurd z c1
  · rintro G' ⟨a, kvs, g, c, rfl, G0, e1, e2⟩
    rw [hl, List.take_length] at G0
    simp
    exact h g c G0
end Wd

/-! C8: classes_of. -/
namespace Wd
open PySem PySem.Spec PyProof.Rows L2
/-- row by row the groups -/
def gmap (g : List Nat) (r : List Nat) : List Nat := r.map fun v => g.getD v 0
structure ClsOf (ver : List Str) (edges : List (List Nat)) (g : List Nat) (c : Nat) : Prop where
  len : g.length = edges.length
  cn : Cn g c
  ver : ∀ i j x : Nat, g[i]? = some x → g[j]? = some x → ver[i]? = ver[j]?
  edg : ∀ i j x : Nat, g[i]? = some x → g[j]? = some x → gmap g (edges.getD i []) = gmap g (edges.getD j [])
def spClasses : FSp := fun ds P _ => ∃ (ver : List Str) (edges : List (List Nat)), ds = [.list (ver.map .str), .list (edges.map fun r => .tuple (nI r))] ∧ ver.length = edges.length ∧ edges.length ≤ 1000 ∧ (∀ r ∈ edges, r.length ≤ 900 ∧ ∀ v ∈ r, v < edges.length) ∧ ∀ g c, ClsOf ver edges g c → P (.list (nI g))
def keyD (g : List Nat) (r : List Nat) (x : Nat) : D := .tuple [.int (x : Int), .tuple (nI (gmap g r))]
def keyK (g : List Nat) (r : List Nat) (x : Nat) : NestedKey := .tup [.num (x : Int), .tup ((gmap g r).map fun (v : Nat) => .num (v : Int))]
theorem keyD_key (g r : List Nat) (x : Nat) : keyOf true (keyD g r x) = some (keyK g r x) := by
  have h1 : keyN (.tuple (nI (gmap g r))) = some (.tup ((gmap g r).map fun (v : Nat) => .num (v : Int))) := by
    show (keyNs (nI (gmap g r))).map NestedKey.tup = _
    unfold nI
    rw [keyNs_map (g := fun (v : Nat) => NestedKey.num (v : Int)) fun _ _ => rfl]
    rfl
  have h2 : (NestedKey.tup [.num (x : Int), .tup ((gmap g r).map fun (v : Nat) => .num (v : Int))]).depth ≤ 8 := by
    have := depth_atoms (n := 0) (l := gmap g r) (g := fun (v : Nat) => NestedKey.num (v : Int)) fun _ _ => by simp [NestedKey.depth]
    simp only [NestedKey.depth, NestedKey.depthAll]
    omega
  show ((keyNs [.int (x : Int), .tuple (nI (gmap g r))]).bind fun ks => if (NestedKey.tup ks).depth ≤ 8 then some (NestedKey.tup ks) else none) = _
  have h3 : keyNs [.int (x : Int), .tuple (nI (gmap g r))] = some [.num (x : Int), .tup ((gmap g r).map fun (v : Nat) => .num (v : Int))] := by
    show (keyN (.int (x : Int))).bind (fun k => (keyNs [.tuple (nI (gmap g r))]).map fun ks => k :: ks) = _
    have : keyNs [.tuple (nI (gmap g r))] = some [.tup ((gmap g r).map fun (v : Nat) => .num (v : Int))] := by
      show (keyN (.tuple (nI (gmap g r)))).bind (fun k => (keyNs []).map fun ks => k :: ks) = _
      rw [h1]; rfl
    rw [this]; rfl
  rw [h3]
  show (if _ then _ else _) = _
  rw [if_pos h2]
  rfl
theorem keyK_inj {g r r' : List Nat} {x y : Nat} (h : keyK g r x = keyK g r' y) : x = y ∧ gmap g r = gmap g r' := by
  have h := NestedKey.tup.inj h
  simp only [List.cons.injEq, NestedKey.num.injEq, NestedKey.tup.injEq, and_true] at h
  exact ⟨by omega, map_inj (fun a b e => by have := NestedKey.num.inj e; omega) h.2⟩
theorem ver_at (ver : List Str) (edges : List (List Nat)) : True := trivial
theorem max_top {g : List Nat} {c : Nat} (h : Cn g c) {m : Int} (hm : m ∈ g.map fun (i : Nat) => (i : Int)) (hx : ∀ y ∈ g.map fun (i : Nat) => (i : Int), y ≤ m) : m = (c : Int) - 1 := by
  obtain ⟨v, hv, rfl⟩ := List.mem_map.mp hm
  have h1 := (h.mem v).mp hv
  have h2 := hx _ (List.mem_map.mpr ⟨c - 1, (h.mem (c - 1)).mpr (by omega), rfl⟩)
  omega
theorem nI_get {l : List Nat} {k v : Nat} (h : l[k]? = some v) : atI (nI l) (k : Int) = some (.int (v : Int)) := at_map (f := fun (i : Nat) => PyData.int (i : Int)) h
theorem vc_classes (ds : List D) (Pd : D → Prop) (Px : Prop) (h : spClasses ds Pd Px) : ir_classes_of spGroup (start0 n_classes_of.length ds) (goal false Pd Px) := by
  obtain ⟨ver, edges, rfl, hl, hz, hr, h⟩ := h
  simp [ir_classes_of, start0, n_classes_of]
  refine ⟨_, false, ver.map .text, rfl, by simp, fun i d k h1 h2 => ?_, by simp; omega, fun g0 c0 hg0 => ?_⟩
  · obtain ⟨s, hs, rfl⟩ := map_get h1
    rw [List.getElem?_map, hs] at h2
    cases h2
    rfl
  simp
  refine wh_gen (fun m G' => ∃ (g : List Nat) (c : Nat) (a b d : Slot), G' = [.im (.list (ver.map .str)), .im (.list (edges.map fun r => .tuple (nI r))), .im (.list (nI g)), a, b, d, .un] ∧ m = edges.length - c ∧ g.length = edges.length ∧ Cn g c ∧
    ∀ i j x : Nat, g[i]? = some x → g[j]? = some x → ver[i]? = ver[j]?) (edges.length - c0) ⟨g0, c0, _, _, _, rfl, rfl, by rw [hg0.len]; simp [hl], hg0.cn, fun i j x h1 h2 => ?_⟩ ?_
  · have a1 := (List.getElem?_eq_some_iff.mp h1).1
    have a2 := (List.getElem?_eq_some_iff.mp h2).1
    have l0 := hg0.len
    rw [List.length_map] at l0
    have b1 := List.getElem?_eq_getElem (l := ver) (i := i) (by omega)
    have b2 := List.getElem?_eq_getElem (l := ver) (i := j) (by omega)
    have q := (hg0.eqv i j x x (.text ver[i]) (.text ver[j]) (by rw [List.getElem?_map, b1]; rfl) (by rw [List.getElem?_map, b2]; rfl) h1 h2).mp rfl
    rw [b1, b2, NestedKey.text.inj q]
  rintro J m G' ⟨g, c, a, b, d, rfl, rfl, gl, cn, hv⟩ hJ
  have gc := cn.len
  simp
  refine asgL_own ?_
  simp
  intro l
  have small : (edges.length : Int) < 4611686018427387904 := by omega
  refine ⟨by simpa using small, ?_⟩
  refine for_gen (fun k G' => ∃ (b d : Slot), G' = [.im (.list (ver.map .str)), .im (.list (edges.map fun r => .tuple (nI r))), .im (.list (nI g)), .ow l (.lst (((edges.take k).zip (g.take k)).map fun p => keyD g p.1 p.2)), b, d, .un]) ⟨_, _, rfl⟩ (fun _ _ _ _ => trivial) ?_ ?_
  · rintro J2 hJ2 k d2 G' hk ⟨b, d, rfl⟩
    obtain ⟨rfl, hk2⟩ := rg_get hk
    have hk3 : k < edges.length := by omega
    have e1 := List.getElem?_eq_getElem hk3
    have e2 := List.getElem?_eq_getElem (l := g) (i := k) (by omega)
    generalize edges[k] = row at e1
    generalize g[k] = x at e2
    have rok := hr row (List.mem_of_getElem? e1)
    simp [Int.zero_add, nI_get e2, at_map (f := fun r => PyData.tuple (nI r)) e1]
    refine lc_map (fun d => match d with | .int i => .int ((g.getD i.toNat 0 : Nat) : Int) | _ => d) rfl trivial (by rw [nI_len]; omega) ?_ ?_
    · intro k2 d3 hd3
      obtain ⟨v, hv1, rfl⟩ := map_get hd3
      have vl := rok.2 v (List.mem_of_getElem? hv1)
      have e3 := List.getElem?_eq_getElem (l := g) (i := v) (by omega)
      have eg : g.getD v 0 = g[v]'(by omega) := by rw [List.getD_eq_getElem?_getD, e3]; rfl
      refine ⟨_, rfl, fun Q hQ => ?_⟩
      generalize g[v]'(by omega) = gv at e3 eg
      simp [wipeG, nI_get e3, e3] at hQ ⊢
      exact hQ
    · have er : (nI row).map (fun d => match d with | .int i => PyData.int ((g.getD i.toNat 0 : Nat) : Int) | _ => d) = nI (gmap g row) := by
        unfold nI gmap
        rw [List.map_map, List.map_map]
        rfl
      rw [er]
      simp
      refine ⟨by omega, hJ2 _ _ ⟨.im (.int (k : Int)), d, ?_⟩⟩
      rw [take_snoc e1, take_snoc e2, List.zip_append (by rw [List.length_take, List.length_take]; omega)]
      simp [keyD]
  · rintro G' ⟨b, d, rfl⟩
    rw [rg_len]
    have e4 : edges.take ((edges.map fun r => PyData.tuple (nI r)).length - 0 : Int).toNat = edges := by
      simp
    have e5 : g.take ((edges.map fun r => PyData.tuple (nI r)).length - 0 : Int).toNat = g := by
      rw [List.take_of_length_le]
      simp [gl]
    simp
    have zl : ((edges.zip g).map fun p => keyD g p.1 p.2).length = edges.length := by rw [List.length_map, List.length_zip]; omega
    have zat : ∀ (i x : Nat) (r : List Nat), edges[i]? = some r → g[i]? = some x → (edges.zip g)[i]? = some (r, x) := fun i x r h1 h2 => by
      rw [List.getElem?_zip_eq_some]
      exact ⟨h1, h2⟩
    refine ⟨((edges.zip g).map fun p => keyD g p.1 p.2), true, (edges.zip g).map fun p => keyK g p.1 p.2, ?_, ?_, ?_, ?_, ?_⟩
    · simp [gl]
      rw [List.take_of_length_le (by omega)]
    · simp
    · intro i d2 k2 h1 h2
      rw [List.getElem?_map] at h1 h2
      cases z : (edges.zip g)[i]? with
      | none => rw [z] at h1; cases h1
      | some p =>
        rw [z] at h1 h2
        cases h1
        cases h2
        exact keyD_key ..
    · rw [List.length_map, List.length_zip]; omega
    · intro f cf hf
      have fl : f.length = edges.length := by rw [hf.len, List.length_map, List.length_zip]; omega
      have fk : ∀ i j x : Nat, f[i]? = some x → f[j]? = some x → g[i]? = g[j]? ∧ gmap g (edges.getD i []) = gmap g (edges.getD j []) := fun i j x h1 h2 => by
        have a1 := (List.getElem?_eq_some_iff.mp h1).1
        have a2 := (List.getElem?_eq_some_iff.mp h2).1
        have b1 := List.getElem?_eq_getElem (l := edges) (i := i) (by omega)
        have b2 := List.getElem?_eq_getElem (l := edges) (i := j) (by omega)
        have d1 := List.getElem?_eq_getElem (l := g) (i := i) (by omega)
        have d2 := List.getElem?_eq_getElem (l := g) (i := j) (by omega)
        have q := (hf.eqv i j x x _ _ (by rw [List.getElem?_map, zat i _ _ b1 d1]; rfl) (by rw [List.getElem?_map, zat j _ _ b2 d2]; rfl) h1 h2).mp rfl
        obtain ⟨q1, q2⟩ := keyK_inj q
        refine ⟨by rw [d1, d2]; exact congrArg some q1, ?_⟩
        rw [List.getD_eq_getElem?_getD, List.getD_eq_getElem?_getD, b1, b2]
        exact q2
      obtain ⟨w1, w2⟩ := hf.cn.finer cn (by omega) (fun i j x h1 h2 => (fk i j x h1 h2).1)
      have fv : ∀ i j x : Nat, f[i]? = some x → f[j]? = some x → ver[i]? = ver[j]? := fun i j x h1 h2 => by
        have a1 := (List.getElem?_eq_some_iff.mp h1).1
        have q := (fk i j x h1 h2).1
        have d1 := List.getElem?_eq_getElem (l := g) (i := i) (by omega)
        exact hv i j _ d1 (q ▸ d1)
      have cfl := hf.cn.len
      -- the end, where both have as many groups
      have done : cf = c → Pd (.list (nI g)) := fun e => by
        have efg := w2 e.symm
        subst efg
        exact h f c ⟨fl, cn, fv, fun i j x h1 h2 => (fk i j x h1 h2).2⟩
      have more : cf ≠ c → ∀ (a b d : Slot), J [.im (.list (ver.map .str)), .im (.list (edges.map fun r => .tuple (nI r))), .im (.list (nI f)), a, b, d, .un] := fun e a b d =>
        hJ (edges.length - cf) _ (by omega) ⟨f, cf, a, b, d, rfl, rfl, fl, hf.cn, fv⟩
      simp [ints_nI]
      refine ⟨fun e => ?_, fun m hm hmx => ?_⟩
      · have f0 : f = [] := e
        subst f0
        have c0 : cf = 0 := hf.cn.uniq .nil
        have g0 : g = [] := List.eq_nil_of_length_eq_zero (by rw [gl, ← fl]; rfl)
        subst g0
        have c1 : c = 0 := cn.uniq .nil
        simp
        exact done (by omega)
      · have em : (m : Int) = (cf : Int) - 1 := max_top hf.cn (List.mem_map.mpr ⟨m, hm, rfl⟩) fun y hy => by
          obtain ⟨z, hz, rfl⟩ := List.mem_map.mp hy
          have := hmx z hz
          omega
        refine ⟨fun e => ?_, fun m' hm' hmx' => ?_⟩
        · have g0 : g = [] := e
          subst g0
          have f0 : f = [] := List.eq_nil_of_length_eq_zero (by rw [fl, ← gl]; rfl)
          subst f0
          simp at hm
        · have em' : (m' : Int) = (c : Int) - 1 := max_top cn (List.mem_map.mpr ⟨m', hm', rfl⟩) fun y hy => by
            obtain ⟨z, hz, rfl⟩ := List.mem_map.mp hy
            have := hmx' z hz
            omega
          by_cases e : m = m'
          · have ec : cf = c := by omega
            simp [e]
            exact done ec
          · have ec : cf ≠ c := by omega
            rw [if_neg (by omega)]
            exact more ec _ _ _
end Wd

/-! C9: monitors: says, reached_nodes. -/
namespace Wd
open PySem PySem.Spec PyProof.Rows L2
structure Mon where
  rds : List Rd
  ini : Nat
  ver : List Str
  edg : List (List Nat)
def Mon.d (M : Mon) : D := .tuple [.tuple (M.rds.map eR), .int (M.ini : Int), .tuple (M.ver.map .str), .tuple (M.edg.map fun r => .tuple (nI r))]
structure MonOk (M : Mon) : Prop where
  n : M.edg.length = M.ver.length
  i : M.ini < M.ver.length
  z : M.ver.length ≤ 1000
  r : M.rds.length ≤ 900
  rl : ∀ r ∈ M.edg, r.length = M.rds.length
  rs : ∀ r ∈ M.edg, ∀ v ∈ r, v < M.ver.length
/-- the last place of a reading among the first k -/
def lastPos (rds : List Rd) : Nat → Rd → Option Nat
  | 0, _ => none
  | k + 1, r => if rds[k]? = some r then some k else lastPos rds k r
theorem lastPos_some {rds : List Rd} : ∀ {k : Nat} {r : Rd} {p : Nat}, lastPos rds k r = some p → p < k ∧ rds[p]? = some r
  | 0, _, _, h => by cases h
  | k + 1, r, p, h => by
    unfold lastPos at h
    split at h
    · cases h; exact ⟨Nat.lt_succ_self _, by assumption⟩
    · obtain ⟨h1, h2⟩ := lastPos_some h
      exact ⟨by omega, h2⟩
theorem lastPos_none {rds : List Rd} : ∀ {k : Nat} {r : Rd}, lastPos rds k r = none → ∀ p, p < k → rds[p]? ≠ some r
  | 0, _, _, p, h => by omega
  | k + 1, r, h, p, hp => by
    unfold lastPos at h
    split at h
    · cases h
    · by_cases e : p = k
      · subst e; assumption
      · exact lastPos_none h p (by omega)
def Mon.step (M : Mon) (node : Nat) (r : Rd) : Option Nat := (lastPos M.rds M.rds.length r).map fun p => (M.edg.getD node []).getD p 0
def Mon.walk (M : Mon) (row : List Rd) : Option Nat := row.foldl (fun st r => st.bind fun node => M.step node r) (some M.ini)
def Mon.says (M : Mon) (row : List Rd) : Str := match M.walk row with
  | none => "impossible"
  | some node => M.ver.getD node ""
theorem walk_snoc {M : Mon} {row : List Rd} {r : Rd} : M.walk (row ++ [r]) = (M.walk row).bind fun node => M.step node r := by
  unfold Mon.walk
  rw [List.foldl_append]
  rfl
theorem walk_none {M : Mon} {row rest : List Rd} (h : M.walk row = none) : M.walk (row ++ rest) = none := by
  unfold Mon.walk at h ⊢
  rw [List.foldl_append, h]
  induction rest with
  | nil => rfl
  | cons a l ih => exact ih
theorem edg_at {M : Mon} (h : MonOk M) {v : Nat} (hv : v < M.ver.length) : M.edg[v]? = some (M.edg.getD v []) ∧ M.edg.getD v [] ∈ M.edg := by
  have hl : v < M.edg.length := by rw [h.n]; exact hv
  rw [List.getD_eq_getElem?_getD, List.getElem?_eq_getElem hl]
  exact ⟨rfl, List.getElem_mem hl⟩
theorem step_ok {M : Mon} (h : MonOk M) {v w : Nat} {r : Rd} (hv : v < M.ver.length) (e : M.step v r = some w) : w < M.ver.length := by
  unfold Mon.step at e
  obtain ⟨p, hp, rfl⟩ := Option.map_eq_some_iff.mp e
  obtain ⟨h1, h2⟩ := lastPos_some hp
  obtain ⟨e1, e2⟩ := edg_at h hv
  have hl : p < (M.edg.getD v []).length := by rw [h.rl _ e2]; exact h1
  rw [List.getD_eq_getElem?_getD, List.getElem?_eq_getElem hl]
  exact h.rs _ e2 _ (List.getElem_mem hl)
theorem walk_ok {M : Mon} (h : MonOk M) {row : List Rd} : ∀ {w : Nat}, M.walk row = some w → w < M.ver.length := by
  have all : ∀ (l : List Rd), ∀ {w : Nat}, M.walk l.reverse = some w → w < M.ver.length := fun l => by
    induction l with
    | nil => intro w e; cases e; exact h.i
    | cons r l ih =>
      intro w e
      rw [List.reverse_cons, walk_snoc] at e
      obtain ⟨v, hv, e⟩ := Option.bind_eq_some_iff.mp e
      exact step_ok h (ih hv) e
  intro w e
  rw [← List.reverse_reverse row] at e
  exact all row.reverse e
def spSays : FSp := fun ds P _ => ∃ (M : Mon) (row : List Rd), ds = [M.d, .list (row.map eR)] ∧ MonOk M ∧ P (.str (M.says row))
theorem vc_says (ds : List D) (Pd : D → Prop) (Px : Prop) (h : spSays ds Pd Px) : ir_says (start0 n_says.length ds) (goal false Pd Px) := by
  obtain ⟨M, row, rfl, hM, h⟩ := h
  have hr := hM.r
  simp [ir_says, start0, n_says]
  refine ⟨true, fun l => ?_⟩
  simp [Mon.d]
  refine ⟨by omega, ?_⟩
  refine for_gen (fun k G' => ∃ (a : Slot) (kvs : Kvs), G' = [.im M.d, .im (.list (row.map eR)), .ow l (.dct true kvs), a, .un, .un] ∧ kvs.length ≤ k ∧ ∀ r, dlook kvs (kR r) = (lastPos M.rds k r).map fun p => .int (p : Int))
    ⟨_, [], rfl, by simp, by simp [lastPos]⟩ (fun _ _ _ _ => trivial) ?_ ?_
  · rintro J hJ k d G' hk ⟨a, kvs, rfl, hl, hd⟩
    obtain ⟨rfl, hk2⟩ := rg_get hk
    have e1 := List.getElem?_eq_getElem (l := M.rds) (i := k) (by omega)
    generalize M.rds[k]'(by omega) = r at e1
    simp [Mon.d, Int.zero_add, at_map e1]
    refine ⟨by omega, hJ _ _ ⟨.im (.int (k : Int)), dput kvs (kR r) (.int (k : Int)), rfl, Nat.le_trans put_le (by omega), fun r' => ?_⟩⟩
    rw [look_put]
    unfold lastPos
    by_cases c : kR r' = kR r
    · rw [if_pos c, kR_inj c, if_pos e1]; rfl
    · have : ¬ M.rds[k]? = some r' := fun z => c (by rw [e1] at z; cases z; rfl)
      rw [if_neg c, if_neg this]
      exact hd r'
  · rintro G' ⟨a, kvs, rfl, hl, hd⟩
    rw [rg_len] at hl hd
    have e0 : ((M.rds.length : Int) - 0).toNat = M.rds.length := by omega
    have e0' : (((M.rds.map eR).length : Int) - 0).toNat = M.rds.length := by rw [List.length_map]; omega
    first | rw [e0] at hd | rw [e0'] at hd
    simp [Mon.d]
    refine for_gen (fun k G' => ∃ (b : Slot) (node : Nat), G' = [.im M.d, .im (.list (row.map eR)), .ow l (.dct true kvs), a, .im (.int (node : Int)), b] ∧ M.walk (row.take k) = some node)
      ⟨_, M.ini, rfl, rfl⟩ (fun _ _ _ _ => trivial) ?_ ?_
    · rintro J hJ k d G' hk ⟨b, node, rfl, hw⟩
      obtain ⟨r, hr1, rfl⟩ := map_get hk
      have nl := walk_ok hM hw
      have ws : M.walk (row.take (k + 1)) = M.step node r := by rw [take_snoc hr1, walk_snoc, hw]; rfl
      obtain ⟨g1, g2⟩ := edg_at hM nl
      cases e : lastPos M.rds M.rds.length r with
      | none =>
        have hn : M.says row = "impossible" := by
          have : M.walk (row.take (k + 1)) = none := by rw [ws]; unfold Mon.step; rw [e]; rfl
          unfold Mon.says
          rw [← List.take_append_drop (k + 1) row, walk_none this]
        rw [hn] at h
        simp [hd, e]
        exact h
      | some p =>
        obtain ⟨p1, p2⟩ := lastPos_some e
        have pl : p < (M.edg.getD node []).length := by rw [hM.rl _ g2]; exact p1
        generalize hrow : M.edg.getD node [] = erow at g1 g2 pl
        have e3 := List.getElem?_eq_getElem pl
        have e4 : erow.getD p 0 = erow[p] := by rw [List.getD_eq_getElem?_getD, e3]; rfl
        generalize hw' : erow[p] = w at e3 e4
        simp [hd, e, Mon.d, at_map (f := fun r => PyData.tuple (nI r)) g1, nI_get e3]
        refine hJ _ _ ⟨.im (eR r), w, rfl, ?_⟩
        rw [ws]
        unfold Mon.step
        rw [e]
        show some ((M.edg.getD node []).getD p 0) = _
        rw [hrow, e4]
    · rintro G' ⟨b, node, rfl, hw⟩
      rw [List.length_map, List.take_length] at hw
      have nl := walk_ok hM hw
      have e5 := List.getElem?_eq_getElem (l := M.ver) (i := node) nl
      have e6 : M.says row = M.ver[node] := by
        unfold Mon.says
        rw [hw]
        show M.ver.getD node "" = _
        rw [List.getD_eq_getElem?_getD, e5]
        rfl
      rw [e6] at h
      simp [Mon.d, at_map e5]
      exact h
end Wd

/-! C10: reached_nodes, reduce. -/
namespace Wd
open PySem PySem.Spec PyProof.Rows L2
structure RchOk (M : Mon) (nodes : List Nat) : Prop where
  nd : nodes.Nodup
  i0 : nodes[0]? = some M.ini
  lt : ∀ v ∈ nodes, v < M.ver.length
  cl : ∀ v ∈ nodes, ∀ w ∈ M.edg.getD v [], w ∈ nodes
def spReach : FSp := fun ds P _ => ∃ (M : Mon), ds = [M.d] ∧ MonOk M ∧ ∀ nodes, RchOk M nodes → P (.list (nI nodes))
theorem put_kF {l : List Nat} {c : Nat} (h : c ∉ l) : dput (kF l) (.num (c : Int)) (.bool true) = kF (l ++ [c]) := by
  have e : dlook (kF l) (.num (c : Int)) = none := by
    cases z : dlook (kF l) (.num (c : Int)) with
    | none => rfl
    | some _ => exact absurd (look_kF.mp (by rw [z]; rfl)) h
  rw [put_new e]
  unfold kF
  simp
theorem kF_len (l : List Nat) : (kF l).length = l.length := by unfold kF; rw [List.length_map]
theorem vc_reach (ds : List D) (Pd : D → Prop) (Px : Prop) (h : spReach ds Pd Px) : ir_reached_nodes (start0 n_reached_nodes.length ds) (goal false Pd Px) := by
  obtain ⟨M, rfl, hM, h⟩ := h
  have hz := hM.z
  have bnd : ∀ l : List Nat, l.Nodup → (∀ v ∈ l, v < M.ver.length) → l.length ≤ M.ver.length := fun l a b => nodup_len a b
  simp [ir_reached_nodes, start0, n_reached_nodes, Mon.d]
  refine asgL_own ?_
  simp
  intro l l2
  refine wh_gen (fun m G' => ∃ (nodes : List Nat) (place : Nat) (a : Slot), G' = [.im M.d, .ow l (.lst (nI nodes)), .ow l2 (.dct false (kF nodes)), .im (.int (place : Int)), a] ∧ m = M.ver.length - place ∧ place ≤ nodes.length ∧ nodes.Nodup ∧ nodes[0]? = some M.ini ∧ (∀ v ∈ nodes, v < M.ver.length) ∧
    ∀ i v, i < place → nodes[i]? = some v → ∀ w ∈ M.edg.getD v [], w ∈ nodes) M.ver.length ⟨[M.ini], 0, _, rfl, rfl, Nat.zero_le _, by simp, rfl, by simpa using hM.i, fun i v hi => absurd hi (Nat.not_lt_zero i)⟩ ?_
  rintro J m G' ⟨nodes, place, a, rfl, rfl, pl, nd, i0, lt, cl⟩ hJ
  have nl := bnd nodes nd lt
  by_cases c : place < nodes.length
  · have c' : (place : Int) < (nodes.length : Int) := by omega
    have e1 := List.getElem?_eq_getElem c
    generalize nodes[place] = v at e1
    have vl := lt v (List.mem_of_getElem? e1)
    obtain ⟨g1, g2⟩ := edg_at hM vl
    generalize hrow : M.edg.getD v [] = row at g1 g2
    simp [nI_len, c', Mon.d, nI_get e1, at_map (f := fun r => PyData.tuple (nI r)) g1]
    refine for_gen (fun k G' => ∃ (ext : List Nat) (a : Slot), G' = [.im M.d, .ow l (.lst (nI (nodes ++ ext))), .ow l2 (.dct false (kF (nodes ++ ext))), .im (.int (place : Int)), a] ∧ (nodes ++ ext).Nodup ∧ (∀ v ∈ nodes ++ ext, v < M.ver.length) ∧ ∀ w ∈ row.take k, w ∈ nodes ++ ext)
      ⟨[], _, by rw [List.append_nil]; rfl, by simpa using nd, by simpa using lt, by simp⟩ (fun _ _ _ _ => trivial) ?_ ?_
    · rintro J2 hJ2 k d G' hk ⟨ext, a, rfl, nd2, lt2, m2⟩
      obtain ⟨w, hw, rfl⟩ := map_get hk
      have wl := hM.rs _ g2 w (List.mem_of_getElem? hw)
      have nl2 := bnd _ nd2 lt2
      have hlk := look_kF (l := nodes ++ ext) (c := w)
      cases e : dlook (kF (nodes ++ ext)) (.num (w : Int)) with
      | some q =>
        have hin : w ∈ nodes ++ ext := hlk.mp (by rw [e]; rfl)
        simp [e]
        refine hJ2 _ _ ⟨ext, _, rfl, nd2, lt2, fun x hx => ?_⟩
        rw [take_snoc hw] at hx
        rcases List.mem_append.mp hx with z | z
        · exact m2 x z
        · rw [List.mem_singleton.mp z]; exact hin
      | none =>
        have hin : w ∉ nodes ++ ext := fun z => by
          have := hlk.mpr z
          rw [e] at this; cases this
        have ll : (nodes ++ ext).length ≤ 1000000 := by omega
        simp [e]
        rw [put_kF hin]
        refine ⟨by rw [kF_len]; exact ll, by rw [nI_len]; exact ll, hJ2 _ _ ⟨ext ++ [w], .im (.int (w : Int)), ?_, ?_, fun x hx => ?_, fun x hx => ?_⟩⟩
        · rw [nI_snoc, List.append_assoc]
        · rw [← List.append_assoc, List.nodup_append]
          exact ⟨nd2, by simp, fun y hy z hz e => hin (by rw [List.mem_singleton.mp hz] at e; rw [← e]; exact hy)⟩
        · rw [← List.append_assoc] at hx
          rcases List.mem_append.mp hx with z | z
          · exact lt2 x z
          · rw [List.mem_singleton.mp z]; exact wl
        · rw [← List.append_assoc]
          rw [take_snoc hw] at hx
          rcases List.mem_append.mp hx with z | z
          · exact List.mem_append_left _ (m2 x z)
          · exact List.mem_append_right _ z
    · rintro G' ⟨ext, a, rfl, nd2, lt2, m2⟩
      rw [nI_len, List.take_length] at m2
      simp
      have nl2 := bnd _ nd2 lt2
      have ll : (nodes ++ ext).length = nodes.length + ext.length := List.length_append
      refine hJ (M.ver.length - (place + 1)) _ (by omega) ⟨nodes ++ ext, place + 1, a, by simp, rfl, by omega, nd2, ?_, lt2, fun i x hi hx w hw => ?_⟩
      · rw [List.getElem?_append_left (by omega)]; exact i0
      · by_cases ci : i < place
        · rw [List.getElem?_append_left (by omega)] at hx
          exact List.mem_append_left _ (cl i x ci hx w hw)
        · have : i = place := by omega
          subst this
          rw [List.getElem?_append_left (by omega), e1] at hx
          cases hx
          rw [hrow] at hw
          exact m2 w hw
  · have c' : ¬ (place : Int) < (nodes.length : Int) := by omega
    simp [nI_len, c']
    refine h nodes ⟨nd, i0, lt, fun v hv w hw => ?_⟩
    obtain ⟨i, hi⟩ := List.mem_iff_getElem?.mp hv
    have := (List.getElem?_eq_some_iff.mp hi).1
    exact cl i v (by omega) hi w hw
theorem Cn.zero {g : List Nat} {c : Nat} (h : Cn g c) : g ≠ [] → g[0]? = some 0 := by
  induction h with
  | nil => intro e; exact absurd rfl e
  | @old g' c v h hv ih =>
    intro _
    cases g' with
    | nil => have := h.uniq .nil; omega
    | cons a r => simpa using ih (by simp)
  | @new g' c h ih =>
    intro _
    cases g' with
    | nil => have := h.uniq .nil; subst this; rfl
    | cons a r => simpa using ih (by simp)
theorem ix_get {nodes : List Nat} {v : Nat} (h : v ∈ nodes) : nodes[nodes.idxOf v]? = some v := by
  have hl := List.idxOf_lt_length_iff.mpr h
  rw [List.getElem?_eq_getElem hl]
  exact congrArg some (List.getElem_idxOf hl)
theorem ix_of {nodes : List Nat} (nd : nodes.Nodup) {k v : Nat} (h : nodes[k]? = some v) : nodes.idxOf v = k := by
  have hm := List.mem_of_getElem? h
  have a := ix_get hm
  have l1 := (List.getElem?_eq_some_iff.mp a).1
  have l2 := (List.getElem?_eq_some_iff.mp h).1
  exact (List.getElem?_inj l1 nd).mp (a.trans h.symm)
def Mon.edl (M : Mon) (nodes : List Nat) : List (List Nat) := nodes.map fun v => (M.edg.getD v []).map fun w => nodes.idxOf w
def Mon.verl (M : Mon) (nodes : List Nat) : List Str := nodes.map fun v => M.ver.getD v ""
/-- the reduced monitor -/
def Mon.red (M : Mon) (nodes g L : List Nat) : Mon := ⟨M.rds, 0, L.map fun i => (M.verl nodes).getD i "", L.map fun i => gmap g ((M.edl nodes).getD i [])⟩
structure RedOk (M : Mon) (nodes g L : List Nat) : Prop where
  r : RchOk M nodes
  c : ClsOf (M.verl nodes) (M.edl nodes) g L.length
  l : ∀ v, v < L.length → ∃ i, L[v]? = some i ∧ g[i]? = some v
theorem getD_some {α : Type} {l : List α} {i : Nat} {d x : α} (h : l[i]? = some x) : l.getD i d = x := by rw [List.getD_eq_getElem?_getD, h]; rfl
section
variable {M : Mon} {nodes g L : List Nat}
theorem edl_at (hM : MonOk M) (h : RchOk M nodes) {v : Nat} (hv : v ∈ nodes) : (M.edl nodes).getD (nodes.idxOf v) [] = (M.edg.getD v []).map fun w => nodes.idxOf w := by
  refine getD_some ?_
  unfold Mon.edl
  rw [List.getElem?_map, ix_get hv]
  rfl
theorem red_at (hM : MonOk M) (h : RedOk M nodes g L) {v : Nat} (hv : v ∈ nodes) : ∃ x, g[nodes.idxOf v]? = some x ∧ x < L.length ∧ (M.red nodes g L).ver[x]? = some (M.ver.getD v "") ∧ (M.red nodes g L).edg[x]? = some ((M.edg.getD v []).map fun w => g.getD (nodes.idxOf w) 0) := by
  have gl : g.length = nodes.length := by rw [h.c.len]; unfold Mon.edl; rw [List.length_map]
  have hl := List.idxOf_lt_length_iff.mpr hv
  have e1 := List.getElem?_eq_getElem (l := g) (i := nodes.idxOf v) (by omega)
  generalize g[nodes.idxOf v]'(by omega) = x at e1
  have xl := (h.c.cn.mem x).mp (List.mem_of_getElem? e1)
  obtain ⟨i, hi, hg⟩ := h.l x xl
  have q1 := h.c.ver _ _ x e1 hg
  have q2 := h.c.edg _ _ x e1 hg
  have il : i < nodes.length := by have := (List.getElem?_eq_some_iff.mp hg).1; omega
  refine ⟨x, e1, xl, ?_, ?_⟩
  · show (L.map fun i => (M.verl nodes).getD i "")[x]? = _
    rw [List.getElem?_map, hi]
    show some ((M.verl nodes).getD i "") = _
    rw [List.getD_eq_getElem?_getD, ← q1]
    unfold Mon.verl
    rw [List.getElem?_map, ix_get hv]
    rfl
  · show (L.map fun i => gmap g ((M.edl nodes).getD i []))[x]? = _
    rw [List.getElem?_map, hi]
    show some (gmap g ((M.edl nodes).getD i [])) = _
    rw [← q2, edl_at hM h.r hv]
    unfold gmap
    rw [List.map_map]
    rfl
theorem red_ok (hM : MonOk M) (h : RedOk M nodes g L) : MonOk (M.red nodes g L) := by
  have gl : g.length = nodes.length := by rw [h.c.len]; unfold Mon.edl; rw [List.length_map]
  have nl := nodup_len h.r.nd h.r.lt
  have cl := h.c.cn.len
  have vl : (M.red nodes g L).ver.length = L.length := by show (L.map _).length = _; rw [List.length_map]
  have el : (M.red nodes g L).edg.length = L.length := by show (L.map _).length = _; rw [List.length_map]
  have hz := hM.z
  have row : ∀ r ∈ (M.red nodes g L).edg, ∃ v, v ∈ nodes ∧ r = (M.edg.getD v []).map fun w => g.getD (nodes.idxOf w) 0 := fun r hr => by
    obtain ⟨i, hi, rfl⟩ := List.mem_map.mp hr
    obtain ⟨x, hx⟩ := List.mem_iff_getElem?.mp hi
    have xl := (List.getElem?_eq_some_iff.mp hx).1
    obtain ⟨i', hi', hg⟩ := h.l x xl
    rw [hx] at hi'
    cases hi'
    have il : i < nodes.length := by have := (List.getElem?_eq_some_iff.mp hg).1; omega
    have e := List.getElem?_eq_getElem il
    generalize nodes[i] = v at e
    have vin := List.mem_of_getElem? e
    refine ⟨v, vin, ?_⟩
    have ei := ix_of h.r.nd e
    rw [← ei, edl_at hM h.r vin]
    unfold gmap
    rw [List.map_map]
    rfl
  refine ⟨by omega, ?_, by omega, hM.r, fun r hr => ?_, fun r hr x hx => ?_⟩
  · show 0 < _
    rw [vl]
    have i0 := h.r.i0
    have hl : 0 < g.length := by rw [gl]; exact (List.getElem?_eq_some_iff.mp i0).1
    have e := h.c.cn.zero (by intro z; rw [z] at hl; simp at hl)
    exact (h.c.cn.mem 0).mp (List.mem_of_getElem? e)
  · obtain ⟨v, hv, rfl⟩ := row r hr
    rw [List.length_map]
    exact hM.rl _ (edg_at hM (h.r.lt v hv)).2
  · obtain ⟨v, hv, rfl⟩ := row r hr
    obtain ⟨w, hw, rfl⟩ := List.mem_map.mp hx
    rw [vl]
    have win := h.r.cl v hv w hw
    have hl := List.idxOf_lt_length_iff.mpr win
    have e1 := List.getElem?_eq_getElem (l := g) (i := nodes.idxOf w) (by omega)
    rw [getD_some e1]
    exact (h.c.cn.mem _).mp (List.mem_of_getElem? e1)
theorem red_walk (hM : MonOk M) (h : RedOk M nodes g L) (row : List Rd) : ((M.walk row).map fun v => g.getD (nodes.idxOf v) 0) = (M.red nodes g L).walk row ∧ ∀ v, M.walk row = some v → v ∈ nodes := by
  have all : ∀ l : List Rd, ((M.walk l.reverse).map fun v => g.getD (nodes.idxOf v) 0) = (M.red nodes g L).walk l.reverse ∧ ∀ v, M.walk l.reverse = some v → v ∈ nodes := fun l => by
    induction l with
    | nil =>
      refine ⟨?_, fun v e => ?_⟩
      · show some (g.getD (nodes.idxOf M.ini) 0) = some 0
        rw [ix_of h.r.nd h.r.i0]
        have gl : g.length = nodes.length := by rw [h.c.len]; unfold Mon.edl; rw [List.length_map]
        have hl : 0 < g.length := by rw [gl]; exact (List.getElem?_eq_some_iff.mp h.r.i0).1
        have e := h.c.cn.zero (by intro z; rw [z] at hl; simp at hl)
        rw [getD_some e]
      · cases e
        exact List.mem_of_getElem? h.r.i0
    | cons r l ih =>
      obtain ⟨i1, i2⟩ := ih
      rw [List.reverse_cons, walk_snoc, walk_snoc, ← i1]
      cases e : M.walk l.reverse with
      | none => exact ⟨rfl, fun v z => by cases z⟩
      | some v =>
        have vin := i2 v e
        obtain ⟨x, hx, xl, hv, he⟩ := red_at hM h vin
        show (M.step v r).map _ = (M.red nodes g L).step (g.getD (nodes.idxOf v) 0) r ∧ ∀ w, M.step v r = some w → _
        unfold Mon.step
        rw [getD_some hx, getD_some he]
        show _ = (lastPos M.rds M.rds.length r).map _ ∧ _
        cases ep : lastPos M.rds M.rds.length r with
        | none => exact ⟨rfl, fun v z => by cases z⟩
        | some p =>
          obtain ⟨p1, p2⟩ := lastPos_some ep
          obtain ⟨g1, g2⟩ := edg_at hM (h.r.lt v vin)
          have pl : p < (M.edg.getD v []).length := by rw [hM.rl _ g2]; exact p1
          have e3 := List.getElem?_eq_getElem pl
          refine ⟨?_, fun w z => ?_⟩
          · show some (g.getD (nodes.idxOf ((M.edg.getD v []).getD p 0)) 0) = some (((M.edg.getD v []).map fun w => g.getD (nodes.idxOf w) 0).getD p 0)
            congr 1
            rw [getD_some e3]
            symm
            refine getD_some ?_
            rw [List.getElem?_map, e3]
            rfl
          · cases z
            show (M.edg.getD v []).getD p 0 ∈ nodes
            rw [getD_some e3]
            exact h.r.cl v vin _ (List.getElem_mem pl)
  have := all row.reverse
  rwa [List.reverse_reverse] at this
theorem red_says (hM : MonOk M) (h : RedOk M nodes g L) (row : List Rd) : (M.red nodes g L).says row = M.says row := by
  obtain ⟨h1, h2⟩ := red_walk hM h row
  unfold Mon.says
  rw [← h1]
  cases e : M.walk row with
  | none => rfl
  | some v =>
    obtain ⟨x, hx, xl, hv, he⟩ := red_at hM h (h2 v e)
    show (M.red nodes g L).ver.getD (g.getD (nodes.idxOf v) 0) "" = M.ver.getD v ""
    rw [getD_some hx, getD_some hv]
end
end Wd

/-! C11: reduce. -/
namespace Wd
open PySem PySem.Spec PyProof.Rows L2
def spReduce : FSp := fun ds P _ => ∃ (M : Mon), ds = [M.d] ∧ MonOk M ∧ ∀ R : Mon, MonOk R → (∀ row, R.says row = M.says row) → P R.d
/-- from an int -/
def onI (f : Nat → D) : D → D
  | .int i => f i.toNat
  | d => d
theorem map_onI (l : List Nat) (f : Nat → D) : (nI l).map (onI f) = l.map f := by
  unfold nI
  rw [List.map_map]
  rfl
theorem vc_reduce (ds : List D) (Pd : D → Prop) (Px : Prop) (h : spReduce ds Pd Px) : ir_reduce spReach spClasses (start0 n_reduce.length ds) (goal false Pd Px) := by
  obtain ⟨M, rfl, hM, h⟩ := h
  have hz := hM.z
  have hr := hM.r
  simp [ir_reduce, start0, n_reduce]
  refine ⟨M, rfl, hM, fun nodes hN => ?_⟩
  have nl := nodup_len hN.nd hN.lt
  simp
  refine ⟨false, fun l => ?_⟩
  simp [nI_len]
  refine ⟨by omega, ?_⟩
  refine for_gen (fun k G' => ∃ (a : Slot) (kvs : Kvs), G' = [.im M.d, .im (.list (nI nodes)), .ow l (.dct false kvs), a, .un, .un, .un, .un, .un, .un, .un] ∧ (a = .un ∨ ∃ d, a = .im d) ∧ kvs.length ≤ k ∧ ∀ v, v ∈ nodes.take k → dlook kvs (.num (v : Int)) = some (.int (nodes.idxOf v : Int)))
    ⟨_, [], rfl, .inl rfl, by simp, by simp⟩ (fun _ _ _ _ => trivial) ?_ ?_
  · rintro J hJ k d G' hk ⟨a, kvs, rfl, ha, hl, hd⟩
    obtain ⟨rfl, hk2⟩ := rg_get hk
    have e1 := List.getElem?_eq_getElem (l := nodes) (i := k) (by omega)
    generalize nodes[k]'(by omega) = v at e1
    simp [Int.zero_add, nI_get e1]
    refine ⟨by omega, hJ _ _ ⟨.im (.int (k : Int)), dput kvs (.num (v : Int)) (.int (k : Int)), rfl, .inr ⟨_, rfl⟩, Nat.le_trans put_le (by omega), fun v' hv' => ?_⟩⟩
    rw [look_put]
    by_cases c : v' = v
    · rw [if_pos (by rw [c]), c, ix_of hN.nd e1]
    · rw [if_neg (fun z => c (by have := NestedKey.num.inj z; omega))]
      rw [take_snoc e1] at hv'
      rcases List.mem_append.mp hv' with z | z
      · exact hd v' z
      · exact absurd (List.mem_singleton.mp z) c
  · rintro G' ⟨a, kvs, rfl, ha, hl, hd⟩
    have e0 : (rgD 0 (nodes.length : Int)).length = nodes.length := by rw [rg_len]; omega
    rw [e0, List.take_length] at hd
    rw [e0] at hl
    simp
    -- edges
    refine lc_map (onI fun v => .tuple (nI ((M.edg.getD v []).map fun w => nodes.idxOf w))) rfl trivial (by rw [nI_len]; omega) ?_ ?_
    · intro k d hk
      obtain ⟨v, hv, rfl⟩ := map_get hk
      have vin := List.mem_of_getElem? hv
      obtain ⟨g1, g2⟩ := edg_at hM (hN.lt v vin)
      have cl := hN.cl v vin
      have rl := hM.rl _ g2
      refine ⟨_, rfl, fun Q hQ => ?_⟩
      have hQ : Q (.tuple (nI ((M.edg.getD v []).map fun w => nodes.idxOf w))) _ := hQ
      generalize M.edg.getD v [] = row at g1 g2 cl rl hQ
      simp [wipeG, Mon.d, at_map (f := fun r => PyData.tuple (nI r)) g1] at hQ ⊢
      refine lc_map (onI fun w => .int (nodes.idxOf w : Int)) rfl trivial (by rw [nI_len]; omega) ?_ ?_
      · intro k2 d2 hk2
        obtain ⟨w, hw, rfl⟩ := map_get hk2
        have win := cl w (List.mem_of_getElem? hw)
        refine ⟨_, rfl, fun Q2 hQ2 => ?_⟩
        have hQ2 : Q2 (.int (nodes.idxOf w : Int)) _ := hQ2
        simp [wipeG, hd w win] at hQ2 ⊢
        exact hQ2
      · rw [map_onI]
        simp
        unfold nI at hQ
        rw [List.map_map] at hQ
        exact hQ
    · rw [map_onI]
      have ee : (nodes.map fun v => PyData.tuple (nI ((M.edg.getD v []).map fun w => nodes.idxOf w))) = (M.edl nodes).map fun r => PyData.tuple (nI r) := by
        unfold Mon.edl
        rw [List.map_map]
        rfl
      rw [ee]
      generalize hE : M.edl nodes = edl
      simp
      -- the verdicts of the nodes
      refine lc_map (onI fun v => .str (M.ver.getD v "")) rfl trivial (by rw [nI_len]; omega) ?_ ?_
      · intro k d hk
        obtain ⟨v, hv, rfl⟩ := map_get hk
        have vl := hN.lt v (List.mem_of_getElem? hv)
        have e5 := List.getElem?_eq_getElem (l := M.ver) (i := v) vl
        refine ⟨_, rfl, fun Q hQ => ?_⟩
        have hQ : Q (.str (M.ver.getD v "")) _ := hQ
        rw [getD_some e5] at hQ
        simp [wipeG, Mon.d, at_map e5] at hQ ⊢
        exact hQ
      · rw [map_onI]
        have ev : (nodes.map fun v => PyData.str (M.ver.getD v "")) = (M.verl nodes).map .str := by
          unfold Mon.verl
          rw [List.map_map]
          rfl
        rw [ev]
        have el : edl.length = nodes.length := by rw [← hE]; unfold Mon.edl; rw [List.length_map]
        have vll : (M.verl nodes).length = nodes.length := by unfold Mon.verl; rw [List.length_map]
        have erow : ∀ r ∈ edl, r.length ≤ 900 ∧ ∀ v ∈ r, v < edl.length := fun r hr' => by
          rw [← hE] at hr'
          obtain ⟨v, hv, rfl⟩ := List.mem_map.mp hr'
          obtain ⟨g1, g2⟩ := edg_at hM (hN.lt v hv)
          refine ⟨by rw [List.length_map, hM.rl _ g2]; exact hr, fun x hx => ?_⟩
          obtain ⟨w, hw, rfl⟩ := List.mem_map.mp hx
          rw [el]
          exact List.idxOf_lt_length_iff.mpr (hN.cl v hv w hw)
        simp
        refine ⟨M.verl nodes, edl, rfl, by omega, by omega, erow, fun g c hg => ?_⟩
        have gl := hg.len
        simp
        refine asgL_own ?_
        simp
        intro l2
        refine ⟨by rw [nI_len]; omega, ?_⟩
        refine for_gen (fun k G' => ∃ (a : Slot) (L : List Nat), G' = [.im M.d, .im (.list (nI nodes)), .ow l (.dct false kvs), a, .im (.list (edl.map fun r => .tuple (nI r))), .im (.list (nI g)), .ow l2 (.lst (nI L)), .un, .un, .un, .un] ∧ (a = .un ∨ ∃ d, a = .im d) ∧ Cn (g.take k) L.length ∧
            ∀ v, v < L.length → ∃ i, L[v]? = some i ∧ g[i]? = some v) ⟨_, [], rfl, ha, .nil, fun v hv => absurd hv (Nat.not_lt_zero v)⟩ (fun _ _ _ _ => trivial) ?_ ?_
        · rintro J hJ k d G' hk ⟨a, L, rfl, ha, hc, hL⟩
          obtain ⟨rfl, hk2⟩ := rg_get hk
          rw [nI_len] at hk2
          have e1 := List.getElem?_eq_getElem (l := g) (i := k) (by omega)
          generalize g[k]'(by omega) = x at e1
          have cl := hc.len
          rw [List.length_take] at cl
          -- the next prefix
          have hc2 : ∃ c', Cn (g.take (k + 1)) c' ∧ ((x < L.length ∧ c' = L.length) ∨ (x = L.length ∧ c' = L.length + 1)) := by
            have pre : ∀ n, n ≤ g.length → ∃ c', Cn (g.take n) c' := fun n hn => by
              have all : ∀ (m : Nat) (gg : List Nat) (cc : Nat), Cn gg cc → m ≤ gg.length → ∃ c', Cn (gg.take (gg.length - m)) c' := fun m => by
                induction m with
                | zero => intro gg cc hcc _; exact ⟨cc, by rw [Nat.sub_zero, List.take_length]; exact hcc⟩
                | succ m ih =>
                  intro gg cc hcc hm
                  rcases List.eq_nil_or_concat gg with e | ⟨g', w, e⟩
                  · rw [e] at hm; simp at hm
                  · rw [List.concat_eq_append] at e
                    subst e
                    obtain ⟨c'', hc'', _⟩ := hcc.inv
                    have hm' : m ≤ g'.length := by simp at hm; omega
                    obtain ⟨c', h'⟩ := ih g' c'' hc'' hm'
                    refine ⟨c', ?_⟩
                    have : (g' ++ [w]).length - (m + 1) = g'.length - m := by simp
                    rw [this, List.take_append_of_le_length (by omega)]
                    exact h'
              have q := all (g.length - n) g c hg.cn (by omega)
              rwa [show g.length - (g.length - n) = n by omega] at q
            obtain ⟨c', h'⟩ := pre (k + 1) (by omega)
            refine ⟨c', h', ?_⟩
            rw [take_snoc e1] at h'
            obtain ⟨c'', h'', q⟩ := h'.inv
            have := h''.uniq hc
            subst this
            exact q
          obtain ⟨c', h', q⟩ := hc2
          simp [Int.zero_add, nI_get e1, nI_len]
          rcases q with ⟨q1, rfl⟩ | ⟨q1, rfl⟩
          · rw [if_neg (by omega)]
            exact hJ _ _ ⟨.im (.int (k : Int)), L, rfl, .inr ⟨_, rfl⟩, h', hL⟩
          · rw [if_pos (by omega)]
            refine ⟨by omega, hJ _ _ ⟨.im (.int (k : Int)), L ++ [k], by rw [nI_snoc], .inr ⟨_, rfl⟩, by simpa using h', fun v hv => ?_⟩⟩
            by_cases cv : v < L.length
            · obtain ⟨i, i1, i2⟩ := hL v cv
              exact ⟨i, by rw [List.getElem?_append_left cv]; exact i1, i2⟩
            · have : v = L.length := by simp at hv; omega
              subst this
              exact ⟨k, by simp, by rw [e1, q1]⟩
        · rintro G' ⟨a, L, rfl, ha, hc, hL⟩
          have e9 : (rgD 0 ((nI nodes).length : Int)).length = g.length := by rw [rg_len, nI_len]; omega
          rw [e9, List.take_length] at hc
          have ec := hc.uniq hg.cn
          have RO : RedOk M nodes g L := ⟨hN, by rw [hE, ec]; exact hg, hL⟩
          have Ll : L.length ≤ 1000 := by have := hg.cn.len; omega
          have iL : ∀ i ∈ L, i < nodes.length := fun i hi => by
            obtain ⟨x, hx⟩ := List.mem_iff_getElem?.mp hi
            obtain ⟨i', hi', hgi⟩ := hL x (List.getElem?_eq_some_iff.mp hx).1
            rw [hx] at hi'
            cases hi'
            have := (List.getElem?_eq_some_iff.mp hgi).1
            omega
          have fin := h (M.red nodes g L) (red_ok hM RO) (red_says hM RO)
          simp
          refine lc_map (onI fun i => .str ((M.verl nodes).getD i "")) (by rcases ha with rfl | ⟨d, rfl⟩ <;> rfl) (by simp [wipeG]) (by rw [nI_len]; omega) ?_ ?_
          · intro k d hk
            obtain ⟨i, hi, rfl⟩ := map_get hk
            have il := iL i (List.mem_of_getElem? hi)
            have e1 := List.getElem?_eq_getElem il
            generalize nodes[i] = v at e1
            have vl := hN.lt v (List.mem_of_getElem? e1)
            have e5 := List.getElem?_eq_getElem (l := M.ver) (i := v) vl
            have e6 : (M.verl nodes).getD i "" = M.ver[v] := by
              refine getD_some ?_
              unfold Mon.verl
              rw [List.getElem?_map, e1]
              show some (M.ver.getD v "") = _
              rw [getD_some e5]
            refine ⟨_, rfl, fun Q hQ => ?_⟩
            have hQ : Q (.str ((M.verl nodes).getD i "")) _ := hQ
            rw [e6] at hQ
            simp [wipeG, Mon.d, nI_get e1, at_map e5] at hQ ⊢
            exact hQ
          · rw [map_onI]
            generalize hV : (L.map fun i => PyData.str ((M.verl nodes).getD i "")) = V
            simp
            refine lc_map (onI fun i => .tuple (nI (gmap g (edl.getD i [])))) (by rcases ha with rfl | ⟨d, rfl⟩ <;> rfl) (by simp [wipeG]) (by rw [nI_len]; omega) ?_ ?_
            · intro k d hk
              obtain ⟨i, hi, rfl⟩ := map_get hk
              have il := iL i (List.mem_of_getElem? hi)
              have e1 := List.getElem?_eq_getElem (l := edl) (i := i) (by omega)
              have rok := erow _ (List.mem_of_getElem? e1)
              refine ⟨_, rfl, fun Q hQ => ?_⟩
              have hQ : Q (.tuple (nI (gmap g (edl.getD i [])))) _ := hQ
              rw [getD_some e1] at hQ
              generalize edl[i]'(by omega) = row at e1 rok hQ
              simp [wipeG, at_map (f := fun r => PyData.tuple (nI r)) e1] at hQ ⊢
              refine lc_map (onI fun w => .int ((g.getD w 0 : Nat) : Int)) rfl trivial (by rw [nI_len]; omega) ?_ ?_
              · intro k2 d2 hk2
                obtain ⟨w, hw, rfl⟩ := map_get hk2
                have wl := rok.2 w (List.mem_of_getElem? hw)
                have e3 := List.getElem?_eq_getElem (l := g) (i := w) (by omega)
                refine ⟨_, rfl, fun Q2 hQ2 => ?_⟩
                have hQ2 : Q2 (.int ((g.getD w 0 : Nat) : Int)) _ := hQ2
                rw [getD_some e3] at hQ2
                simp [wipeG, nI_get e3] at hQ2 ⊢
                exact hQ2
              · rw [map_onI]
                simp
                unfold nI gmap at hQ
                rw [List.map_map] at hQ
                exact hQ
            · rw [map_onI]
              subst hV
              have ed : (L.map fun i => PyData.tuple (nI (gmap g (edl.getD i [])))) = (L.map fun i => gmap g (edl.getD i [])).map fun r => PyData.tuple (nI r) := by rw [List.map_map]; rfl
              rw [ed]
              generalize hW : (L.map fun i => gmap g (edl.getD i [])) = W
              simp [Mon.d]
              have : (M.red nodes g L).d = .tuple [.tuple (M.rds.map eR), .int 0, .tuple (L.map fun i => PyData.str ((M.verl nodes).getD i "")), .tuple (W.map fun r => PyData.tuple (nI r))] := by
                rw [← hW, ← hE]
                unfold Mon.red Mon.d
                simp
              rw [this] at fin
              simpa using fin
end Wd

/-! C12: build. -/
namespace Wd
open PySem PySem.Spec PyProof.Rows L2
def kN (l : List Nat) : NestedKey := kI (l.map fun (i : Nat) => (i : Int))
theorem key_nI (l : List Nat) : keyOf true (.tuple (nI l)) = some (kN l) := by
  have e : (.tuple (nI l) : D) = eI (l.map fun (i : Nat) => (i : Int)) := by unfold nI eI; rw [List.map_map]; rfl
  rw [e]
  exact key_I _
theorem kN_inj {a b : List Nat} (h : kN a = kN b) : a = b := map_inj (fun _ _ e => by omega) (kI_inj h)
structure BOk (T : Trk) (ss : List Sens) (rds : List Rd) (S : List (Option (List Nat))) (kvs : Kvs) (E : List (List Nat)) : Prop where
  s0 : S[0]? = some none
  sm : ∀ ms, ms ∈ S → MOk T ms
  kv : ∀ (ms : List Nat) d, dlook kvs (kN ms) = some d → ∃ i : Nat, d = .int (i : Int) ∧ S[i]? = some (some ms)
  kn : kvs.length ≤ S.length
  el : E.length ≤ S.length
  rl : ∀ row ∈ E, row.length = rds.length
  ee : ∀ (i : Nat) row ms, E[i]? = some row → S[i]? = some ms → ∀ (p : Nat) r v, rds[p]? = some r → row[p]? = some v → S[v]? = some (some (T.after ss ms r))
/-- the monitor over the sets -/
def Trk.mon (T : Trk) (rds : List Rd) (S : List (Option (List Nat))) (E : List (List Nat)) : Mon := ⟨rds, 0, S.map T.verdict, E⟩
section
variable {T : Trk} {ss : List Sens} {rds : List Rd} {S : List (Option (List Nat))} {kvs : Kvs} {E : List (List Nat)}
theorem mon_ok (h : BOk T ss rds S kvs E) (he : E.length = S.length) (hz : S.length ≤ 1000) (hr : rds.length ≤ 900) : MonOk (T.mon rds S E) := by
  have vl : (T.mon rds S E).ver.length = S.length := by show (S.map _).length = _; rw [List.length_map]
  refine ⟨by rw [vl]; exact he, by rw [vl]; exact (List.getElem?_eq_some_iff.mp h.s0).1, by omega, hr, h.rl, fun row hrow v hv => ?_⟩
  rw [vl]
  obtain ⟨i, hi⟩ := List.mem_iff_getElem?.mp hrow
  obtain ⟨p, hp⟩ := List.mem_iff_getElem?.mp hv
  have il : i < E.length := (List.getElem?_eq_some_iff.mp hi).1
  have pl := (List.getElem?_eq_some_iff.mp hp).1
  have e1 := List.getElem?_eq_getElem (l := S) (i := i) (by omega)
  have e2 := List.getElem?_eq_getElem (l := rds) (i := p) (by rw [← h.rl row hrow]; exact pl)
  exact (List.getElem?_eq_some_iff.mp (h.ee i row _ hi e1 p _ v e2 hp)).1
/-- nothing fits a reading that is not of the list -/
theorem after_none (hc : ∀ r c, c < T.vals.length → T.fit ss r c = true → r ∈ rds) {ms : Option (List Nat)} {r : Rd} (h : r ∉ rds) : T.after ss ms r = [] := by
  unfold Trk.after
  rw [List.filter_eq_nil_iff]
  intro c hcm z
  simp only [Bool.and_eq_true, decide_eq_true_eq] at z
  exact h (hc r c (List.mem_range.mp hcm) z.2)
theorem after_nil {r : Rd} : T.after ss (some []) r = [] := by
  unfold Trk.after
  rw [List.filter_eq_nil_iff]
  intro c hcm z
  simp only [Bool.and_eq_true, decide_eq_true_eq] at z
  simp [Trk.cands] at z
theorem mon_walk (h : BOk T ss rds S kvs E) (he : E.length = S.length) (hz : S.length ≤ 1000) (hr : rds.length ≤ 900) (hc : ∀ r c, c < T.vals.length → T.fit ss r c = true → r ∈ rds) (row : List Rd) :
    match (T.mon rds S E).walk row with
    | none => T.run ss row = some []
    | some v => S[v]? = some (T.run ss row) := by
  have all : ∀ l : List Rd, match (T.mon rds S E).walk l.reverse with
    | none => T.run ss l.reverse = some []
    | some v => S[v]? = some (T.run ss l.reverse) := fun l => by
    induction l with
    | nil => exact h.s0
    | cons r l ih =>
      rw [List.reverse_cons, walk_snoc, run_snoc]
      cases e : (T.mon rds S E).walk l.reverse with
      | none =>
        rw [e] at ih
        show some _ = some []
        have ih : T.run ss l.reverse = some [] := ih
        rw [ih, after_nil]
      | some v =>
        rw [e] at ih
        have ih : S[v]? = some (T.run ss l.reverse) := ih
        cases ep : lastPos rds rds.length r with
        | none =>
          have est : (T.mon rds S E).step v r = none := by
            unfold Mon.step
            show (lastPos rds rds.length r).map _ = none
            rw [ep]; rfl
          have hn : r ∉ rds := fun z => by
            obtain ⟨p, hp⟩ := List.mem_iff_getElem?.mp z
            exact lastPos_none ep p (List.getElem?_eq_some_iff.mp hp).1 hp
          simp only [Option.bind_some, est]
          rw [after_none hc hn]
        | some p =>
          obtain ⟨p1, p2⟩ := lastPos_some ep
          have vl := (List.getElem?_eq_some_iff.mp ih).1
          have e1 := List.getElem?_eq_getElem (l := E) (i := v) (by omega)
          generalize E[v]'(by omega) = row at e1
          have rl := h.rl row (List.mem_of_getElem? e1)
          have e2 := List.getElem?_eq_getElem (l := row) (i := p) (by omega)
          have est : (T.mon rds S E).step v r = some (row[p]'(by omega)) := by
            unfold Mon.step
            show (lastPos rds rds.length r).map _ = _
            rw [ep]
            show some ((E.getD v []).getD p 0) = _
            rw [getD_some e1, getD_some e2]
          simp only [Option.bind_some, est]
          exact h.ee v row _ e1 ih p r _ p2 e2
  have := all row.reverse
  rwa [List.reverse_reverse] at this
theorem mon_says (h : BOk T ss rds S kvs E) (he : E.length = S.length) (hz : S.length ≤ 1000) (hr : rds.length ≤ 900) (hc : ∀ r c, c < T.vals.length → T.fit ss r c = true → r ∈ rds) (row : List Rd) : (T.mon rds S E).says row = T.verdict (T.run ss row) := by
  have q := mon_walk h he hz hr hc row
  unfold Mon.says
  cases e : (T.mon rds S E).walk row with
  | none =>
    rw [e] at q
    have q : T.run ss row = some [] := q
    rw [q]
    rfl
  | some v =>
    rw [e] at q
    have q : S[v]? = some (T.run ss row) := q
    show (S.map T.verdict).getD v "" = _
    refine getD_some ?_
    rw [List.getElem?_map, q]
    rfl
end
def spBuild : FSp := fun ds P X => ∃ (p0 p1 : D) (ss : List Sens) (T : Trk) (rds : List Rd) (most n : Nat), ds = [pD p0 p1 ss, T.d, .list (rds.map eR), .int (most : Int)] ∧ (∀ s ∈ ss, SOk n s) ∧ ss.length ≤ 5 ∧ TkOk n T ∧ (∀ r ∈ rds, r.length ≤ 1000) ∧ rds.length ≤ 900 ∧ most ≤ 50 ∧
  (∀ r c, c < T.vals.length → T.fit ss r c = true → r ∈ rds) ∧ X ∧ ∀ R : Mon, MonOk R → (∀ row, R.says row = T.verdict (T.run ss row)) → P R.d
theorem vc_build (ds : List D) (Pd : D → Prop) (Px : Prop) (h : spBuild ds Pd Px) : ir_build spSet spVerdict spReduce (start0 n_build.length ds) (goal false Pd Px) := by
  obtain ⟨p0, p1, ss, T, rds, most, n, rfl, hs, hz, hT, hrl, hrn, hm, hc, hx, h⟩ := h
  simp [ir_build, start0, n_build]
  refine asgL_own ?_
  simp
  intro l
  refine ⟨true, fun l2 => ?_⟩
  simp
  refine asgL_own ?_
  simp
  intro l3
  refine wh_gen (fun m G' => ∃ (S : List (Option (List Nat))) (kvs : Kvs) (E : List (List Nat)) (a b c d : Slot), G' = [.im (pD p0 p1 ss), .im T.d, .im (.list (rds.map eR)), .im (.int (most : Int)), .ow l (.lst (S.map memD)), .ow l2 (.dct true kvs), .ow l3 (.lst (E.map fun r => .tuple (nI r))), a, b, c, d, .un] ∧
      m = most + 1 - E.length ∧ BOk T ss rds S kvs E ∧ S.length ≤ most + 900 + 1 ∧ (a = .un ∨ ∃ x, a = .im x)) (most + 1)
    ⟨[none], [], [], _, _, _, _, rfl, rfl, ⟨rfl, fun ms hms => by rw [List.mem_singleton.mp hms]; trivial, fun ms d hd => by simp at hd, by simp, by simp, by simp, fun i row ms hi => by simp at hi⟩, by simp, .inl rfl⟩ ?_
  rintro J m G' ⟨S, kvs, E, a, b, c, d, rfl, rfl, B, hSl, ha⟩ hJ
  have el := B.el
  by_cases c1 : E.length < S.length ∧ S.length ≤ most
  · obtain ⟨c1, c2⟩ := c1
    have c1' : (E.length : Int) < (S.length : Int) := by omega
    have c2' : (S.length : Int) ≤ (most : Int) := by omega
    have e1 := List.getElem?_eq_getElem c1
    generalize S[E.length] = ms at e1
    have mok := B.sm ms (List.mem_of_getElem? e1)
    simp [c1', c2', at_map e1]
    refine asgL_own ?_
    simp
    intro l4
    refine for_gen (fun k G' => ∃ (ext : List (Option (List Nat))) (kvs : Kvs) (row : List Nat) (c d : Slot), G' = [.im (pD p0 p1 ss), .im T.d, .im (.list (rds.map eR)), .im (.int (most : Int)), .ow l (.lst ((S ++ ext).map memD)), .ow l2 (.dct true kvs), .ow l3 (.lst (E.map fun r => .tuple (nI r))), .im (memD ms), .ow l4 (.lst (nI row)), c, d, .un] ∧
        BOk T ss rds (S ++ ext) kvs E ∧ ext.length ≤ k ∧ row.length = k ∧ ∀ (p : Nat) r v, p < k → rds[p]? = some r → row[p]? = some v → (S ++ ext)[v]? = some (some (T.after ss ms r)))
      ⟨[], kvs, [], _, _, by rw [List.append_nil]; rfl, by rw [List.append_nil]; exact B, by simp, rfl, fun p r v hp => absurd hp (Nat.not_lt_zero p)⟩ (fun _ _ _ _ => trivial) ?_ ?_
    · rintro J2 hJ2 k d2 G' hk ⟨ext, kvs, row, c, d, rfl, B2, hext, hrow, hrv⟩
      obtain ⟨r, hr, rfl⟩ := map_get hk
      have kl := (List.getElem?_eq_some_iff.mp hr).1
      have mok2 : MOk T (some (T.after ss ms r)) := after_ok
      simp
      refine ⟨p0, p1, ss, T, ms, r, n, rfl, hs, hz, hrl r (List.mem_of_getElem? hr), hT, mok, ?_⟩
      generalize hl5 : T.after ss ms r = later at mok2
      have Sl : (S ++ ext).length ≤ 100000 := by rw [List.length_append]; omega
      have kn := B2.kn
      have fin : ∀ (ext2 : List (Option (List Nat))) (kvs2 : Kvs) (v : Nat), BOk T ss rds (S ++ ext2) kvs2 E → ext2.length ≤ k + 1 → (∃ e3, ext2 = ext ++ e3) → (S ++ ext2)[v]? = some (some later) →
          J2 (k + 1) [.im (pD p0 p1 ss), .im T.d, .im (.list (rds.map eR)), .im (.int (most : Int)), .ow l (.lst ((S ++ ext2).map memD)), .ow l2 (.dct true kvs2), .ow l3 (.lst (E.map fun r => .tuple (nI r))), .im (memD ms), .ow l4 (.lst (nI row ++ [.int (v : Int)])), .im (eR r), .im (.list (nI later)), .un] := fun ext2 kvs2 v b1 b2 b3 b4 => by
        obtain ⟨e3, rfl⟩ := b3
        refine hJ2 _ _ ⟨_, kvs2, row ++ [v], _, _, by rw [nI_snoc], b1, b2, by simp [hrow], fun p r' v' hp hpr hpv => ?_⟩
        by_cases cp : p < k
        · rw [List.getElem?_append_left (by omega)] at hpv
          have q := hrv p r' v' cp hpr hpv
          rw [← List.append_assoc, List.getElem?_append_left (List.getElem?_eq_some_iff.mp q).1]
          exact q
        · have : p = k := by omega
          subst this
          rw [List.getElem?_append_right (by omega)] at hpv
          rw [hr] at hpr
          cases hpr
          have : p - row.length = 0 := by omega
          rw [this] at hpv
          simp at hpv
          subst hpv
          rw [hl5]
          exact b4
      simp [key_nI]
      cases e : dlook kvs (kN later) with
      | some x =>
        obtain ⟨i, rfl, hi⟩ := B2.kv later x e
        simp [key_nI, e]
        refine ⟨by rw [nI_len]; omega, ?_⟩
        have := fin ext kvs i B2 (by omega) ⟨[], by simp⟩ hi
        simpa using this
      | none =>
        simp [key_nI, look_put]
        have hkl : kvs.length ≤ 1000000 := by omega
        have hsl : S.length + ext.length ≤ 1000000 := by rw [List.length_append] at Sl; omega
        have B3 : BOk T ss rds (S ++ (ext ++ [some later])) (dput kvs (kN later) (.int ((S.length : Int) + (ext.length : Int)))) E := by
          rw [← List.append_assoc]
          refine ⟨by rw [List.getElem?_append_left (List.getElem?_eq_some_iff.mp B2.s0).1]; exact B2.s0, fun ms' hms => ?_, fun ms' d' hd' => ?_, ?_, ?_, B2.rl, fun i rw' ms' hi hsi p r' v' hp hv' => ?_⟩
          · rcases List.mem_append.mp hms with z | z
            · exact B2.sm ms' z
            · rw [List.mem_singleton.mp z]; exact mok2
          · rw [look_put] at hd'
            by_cases ck : kN ms' = kN later
            · rw [if_pos ck] at hd'
              cases hd'
              refine ⟨S.length + ext.length, by simp, ?_⟩
              rw [kN_inj ck, List.getElem?_append_right (by simp)]
              simp
            · rw [if_neg ck] at hd'
              obtain ⟨i, e1, e2⟩ := B2.kv ms' d' hd'
              exact ⟨i, e1, by rw [List.getElem?_append_left (List.getElem?_eq_some_iff.mp e2).1]; exact e2⟩
          · rw [put_len e, List.length_append, List.length_singleton]; omega
          · have := B2.el
            rw [List.length_append]; omega
          · have il := (List.getElem?_eq_some_iff.mp hi).1
            have := B2.el
            rw [List.getElem?_append_left (by omega)] at hsi
            have q := B2.ee i rw' ms' hi hsi p r' v' hp hv'
            rw [List.getElem?_append_left (List.getElem?_eq_some_iff.mp q).1]
            exact q
        refine ⟨hkl, hsl, by rw [nI_len]; omega, ?_⟩
        have q := fin (ext ++ [some later]) _ (S.length + ext.length) B3 (by simp; omega) ⟨_, rfl⟩ (by rw [← List.append_assoc, List.getElem?_append_right (by simp)]; simp)
        simpa [memD] using q
    · rintro G' ⟨ext, kvs, row, c, d, rfl, B2, hext, hrow, hrv⟩
      rw [List.length_map] at hext hrow hrv
      simp
      have El : E.length ≤ 1000000 := by omega
      refine ⟨El, hJ (most + 1 - (E.length + 1)) _ (by omega) ⟨S ++ ext, kvs, E ++ [row], .im (memD ms), .ow l4 (.lst (nI row)), c, d, by simp, by simp, ?_, by rw [List.length_append]; omega, .inr ⟨_, rfl⟩⟩⟩
      refine ⟨B2.s0, B2.sm, B2.kv, B2.kn, by rw [List.length_append, List.length_append]; simp; omega, fun r hr => ?_, fun i rw' ms' hi hsi p r' v' hp hv' => ?_⟩
      · rcases List.mem_append.mp hr with z | z
        · exact B2.rl r z
        · rw [List.mem_singleton.mp z]; exact hrow
      · by_cases ci : i < E.length
        · rw [List.getElem?_append_left ci] at hi
          exact B2.ee i rw' ms' hi hsi p r' v' hp hv'
        · rw [List.getElem?_append_right (by omega)] at hi
          have : i - E.length = 0 := by
            cases z : i - E.length with
            | zero => rfl
            | succ q => rw [z] at hi; simp at hi
          rw [this] at hi
          simp at hi
          subst hi
          have ei : i = E.length := by omega
          subst ei
          rw [List.getElem?_append_left c1, e1] at hsi
          cases hsi
          exact hrv p r' v' (List.getElem?_eq_some_iff.mp hp).1 hp hv'
  · have vs : ∀ x, x ∈ S → MOk T x := B.sm
    by_cases c2 : most < S.length
    · have t1 : (most : Int) < (S.length : Int) := by omega
      have t2 : ¬ (S.length : Int) ≤ (most : Int) := by omega
      by_cases c3 : E.length < S.length
      · have t3 : (E.length : Int) < (S.length : Int) := by omega
        simp [t1, t2, t3]
        exact hx
      · have t3 : ¬ (E.length : Int) < (S.length : Int) := by omega
        simp [t1, t3]
        exact hx
    · have t1 : ¬ (most : Int) < (S.length : Int) := by omega
      have t3 : ¬ (E.length : Int) < (S.length : Int) := by omega
      have ee : E.length = S.length := by omega
      simp [t1, t3]
      have fin := h (T.mon rds S E)
      have M0 := mon_ok B ee (by omega) hrn
      have M1 := mon_says B ee (by omega) hrn hc
      refine lc_rel (fun k r => ∃ ms, S[k]? = some ms ∧ r = .str (T.verdict ms)) (by rcases ha with rfl | ⟨x, rfl⟩ <;> rfl) (by simp [wipeG]) (by rw [List.length_map]; omega) ?_ ?_
      · intro k d2 hk
        obtain ⟨ms, hms, rfl⟩ := map_get hk
        refine ⟨_, rfl, fun Q hQ => ?_⟩
        simp [wipeG] at hQ ⊢
        refine ⟨T, ms, n, rfl, hT, vs ms (List.mem_of_getElem? hms), ?_⟩
        simp
        exact hQ _ ms hms rfl
      · intro acc hl2 hacc
        have ea : acc = S.map fun ms => PyData.str (T.verdict ms) := by
          refine List.ext_getElem? fun k => ?_
          rw [List.length_map] at hl2
          rw [List.getElem?_map]
          cases e : acc[k]? with
          | none =>
            have := List.getElem?_eq_none_iff.mp e
            rw [List.getElem?_eq_none (by omega)]
            rfl
          | some r =>
            obtain ⟨ms, q1, q2⟩ := hacc k r e
            rw [q1, q2]
            rfl
        rw [ea]
        simp
        refine ⟨T.mon rds S E, ?_, M0, fun R hR hs2 => ?_⟩
        · unfold Trk.mon Mon.d
          simp
        · simp
          exact h R hR fun row => (hs2 row).trans (M1 row)
end Wd

/-! C13: machines, labels. -/
namespace Wd
open PySem PySem.Spec PyProof.Rows L2
structure Mach where
  sts : List (List Int)
  starts : List Nat
  steps : List (List Nat)
def Mach.d (M : Mach) : D := .tuple [.tuple (M.sts.map eI), .tuple (nI M.starts), .tuple (M.steps.map fun r => .tuple (nI r))]
structure MkOk (n : Nat) (M : Mach) : Prop where
  z : M.sts.length ≤ 50
  va : ∀ vs ∈ M.sts, VOk n vs
  sl : M.starts.length ≤ 900
  ss : ∀ s ∈ M.starts, s < M.sts.length
  st : M.steps.length = M.sts.length
  rl : ∀ r ∈ M.steps, r.length ≤ 900
  rs : ∀ r ∈ M.steps, ∀ s ∈ r, s < M.sts.length
def bL (bs : List Bool) : D := .list (bs.map .bool)
theorem mstep_at {n : Nat} {M : Mach} (h : MkOk n M) {s : Nat} (hs : s < M.sts.length) : ∃ r, M.steps[s]? = some r ∧ r.length ≤ 900 ∧ (∀ x ∈ r, x < M.sts.length) := by
  have hl : s < M.steps.length := by rw [h.st]; exact hs
  have e := List.getElem?_eq_getElem hl
  exact ⟨_, e, h.rl _ (List.getElem_mem hl), h.rs _ (List.getElem_mem hl)⟩
theorem bool_at {bs : List Bool} {k : Nat} (h : k < bs.length) : ∃ b, atI (bs.map PyData.bool) (k : Int) = some (.bool b) := ⟨bs[k], at_map (List.getElem?_eq_getElem h)⟩
theorem bools_of {acc : List D} {n : Nat} (hl : acc.length = n) (h : ∀ (k : Nat) (r : D), acc[k]? = some r → ∃ b, r = .bool b) : ∃ bs : List Bool, bs.length = n ∧ acc = bs.map .bool := by
  induction acc generalizing n with
  | nil => exact ⟨[], by simpa using hl, rfl⟩
  | cons a r ih =>
    obtain ⟨b, hb⟩ := h 0 a rfl
    obtain ⟨bs, h1, h2⟩ := ih (n := r.length) rfl fun k x hx => h (k + 1) x (by simpa using hx)
    exact ⟨b :: bs, by simp at hl ⊢; omega, by rw [hb, h2]; rfl⟩
theorem rg0 {b : Int} {k : Nat} {d : D} (h : (rgD 0 b)[k]? = some d) : d = .int (k : Int) ∧ (k : Int) < b := by
  obtain ⟨e, h1⟩ := rg_get h
  rw [Int.zero_add] at e
  exact ⟨e, by omega⟩
def spJoined : FSp := fun ds P _ => ∃ (k : Str) (a b : List Bool), ds = [.str k, bL a, bL b] ∧ a.length = b.length ∧ a.length ≤ 1000 ∧ ∀ c : List Bool, c.length = a.length → P (bL c)
theorem vc_joined (ds : List D) (Pd : D → Prop) (Px : Prop) (h : spJoined ds Pd Px) : ir_joined (start0 n_joined.length ds) (goal false Pd Px) := by
  obtain ⟨k, a, b, rfl, hab, hz, h⟩ := h
  have main : ∀ (acc : List D), acc.length = a.length → (∀ (k : Nat) (r : D), acc[k]? = some r → ∃ b, r = .bool b) → Pd (.list acc) := fun acc h1 h2 => by
    obtain ⟨bs, q1, rfl⟩ := bools_of h1 h2
    exact h bs q1
  have rl : (rgD 0 (a.length : Int)).length = a.length := by rw [rg_len]; omega
  by_cases c : k = ("and" : Str)
  · subst c
    simp [ir_joined, start0, n_joined, bL]
    refine ⟨by omega, lc_rel (fun _ r => ∃ b, r = .bool b) rfl trivial (by rw [rl]; omega) ?_ fun acc h1 h2 => ?_⟩
    · intro i d hd
      obtain ⟨rfl, hi⟩ := rg0 hd
      obtain ⟨x, hx⟩ := bool_at (bs := a) (k := i) (by omega)
      obtain ⟨y, hy⟩ := bool_at (bs := b) (k := i) (by omega)
      refine ⟨_, rfl, fun Q hQ => ?_⟩
      cases x <;> simp [wipeG, hx, hy] <;> exact hQ _ ⟨_, rfl⟩
    · exact main acc (by rw [h1, rl]) h2
  · simp [ir_joined, start0, n_joined, bL, c]
    refine ⟨by omega, lc_rel (fun _ r => ∃ b, r = .bool b) rfl trivial (by rw [rl]; omega) ?_ fun acc h1 h2 => ?_⟩
    · intro i d hd
      obtain ⟨rfl, hi⟩ := rg0 hd
      obtain ⟨x, hx⟩ := bool_at (bs := a) (k := i) (by omega)
      obtain ⟨y, hy⟩ := bool_at (bs := b) (k := i) (by omega)
      refine ⟨_, rfl, fun Q hQ => ?_⟩
      cases x <;> simp [wipeG, hx, hy] <;> exact hQ _ ⟨_, rfl⟩
    · exact main acc (by rw [h1, rl]) h2
def spStep : FSp := fun ds P _ => ∃ (M : Mach) (s n : Nat) (bs : List Bool), ds = [M.d, .int (s : Int), bL bs] ∧ MkOk n M ∧ s < M.sts.length ∧ bs.length = M.sts.length ∧ ∀ b, P (.bool b)
theorem vc_some (ds : List D) (Pd : D → Prop) (Px : Prop) (h : spStep ds Pd Px) : ir_some_next (start0 n_some_next.length ds) (goal false Pd Px) := by
  obtain ⟨M, s, n, bs, rfl, hM, hs, hb, h⟩ := h
  obtain ⟨r, hr, r1, r2⟩ := mstep_at hM hs
  simp [ir_some_next, start0, n_some_next, Mach.d, at_map (f := fun r => PyData.tuple (nI r)) hr]
  refine for_gen (fun k G' => ∃ a, G' = [.im M.d, .im (.int (s : Int)), .im (bL bs), a]) ⟨_, rfl⟩ (fun _ _ _ _ => trivial) ?_ ?_
  · rintro J hJ k d G' hk ⟨a, rfl⟩
    obtain ⟨v, hv, rfl⟩ := map_get hk
    have vl := r2 v (List.mem_of_getElem? hv)
    obtain ⟨x, hx⟩ := bool_at (bs := bs) (k := v) (by omega)
    cases x <;> simp [bL, hx]
    · exact hJ _ _ ⟨_, rfl⟩
    · exact h _
  · rintro G' ⟨a, rfl⟩
    simp
    exact h _
theorem vc_each (ds : List D) (Pd : D → Prop) (Px : Prop) (h : spStep ds Pd Px) : ir_each_next (start0 n_each_next.length ds) (goal false Pd Px) := by
  obtain ⟨M, s, n, bs, rfl, hM, hs, hb, h⟩ := h
  obtain ⟨r, hr, r1, r2⟩ := mstep_at hM hs
  simp [ir_each_next, start0, n_each_next, Mach.d, at_map (f := fun r => PyData.tuple (nI r)) hr]
  refine for_gen (fun k G' => ∃ a, G' = [.im M.d, .im (.int (s : Int)), .im (bL bs), a]) ⟨_, rfl⟩ (fun _ _ _ _ => trivial) ?_ ?_
  · rintro J hJ k d G' hk ⟨a, rfl⟩
    obtain ⟨v, hv, rfl⟩ := map_get hk
    have vl := r2 v (List.mem_of_getElem? hv)
    obtain ⟨x, hx⟩ := bool_at (bs := bs) (k := v) (by omega)
    cases x <;> simp [bL, hx]
    · exact h _
    · exact hJ _ _ ⟨_, rfl⟩
  · rintro G' ⟨a, rfl⟩
    simp [Mach.d, at_map (f := fun r => PyData.tuple (nI r)) hr]
    exact h _
theorem shaped_bools (bs : List Bool) : SeqAt.shaped (.list (bs.map .bool)) = true := by
  have h1 : PyData.canLayAll0 (bs.map PyData.bool) = true := by
    induction bs with
    | nil => simp [PyData.canLayAll0]
    | cons a r ih => rw [List.map_cons]; simp [PyData.canLayAll0, PyData.canLay0, ih]
  have h2 : PyData.depthAll (bs.map PyData.bool) = 0 := by
    induction bs with
    | nil => simp [PyData.depthAll]
    | cons a r ih =>
      rw [List.map_cons] at h1 ⊢
      have h1' : PyData.canLayAll0 (r.map PyData.bool) = true := by simp [PyData.canLayAll0, PyData.canLay0] at h1; exact h1
      simp [PyData.depthAll, PyData.depth, ih h1']
  unfold SeqAt.shaped
  simp [PyData.canLay0, PyData.depth, h1, h2]
def spGrown : FSp := fun ds P _ => ∃ (M : Mach) (k : Str) (n : Nat) (bs : List Bool) (r : Int), ds = [M.d, .str k, bL bs, .int r] ∧ MkOk n M ∧ bs.length = M.sts.length ∧ -1000 ≤ r ∧ r ≤ 1000 ∧ ∀ c : List Bool, c.length = M.sts.length → P (bL c)
theorem vc_grown (ds : List D) (Pd : D → Prop) (Px : Prop) (h : spGrown ds Pd Px) : ir_grown spStep spStep (start0 n_grown.length ds) (goal false Pd Px) := by
  obtain ⟨M, kd, n, bs, r, rfl, hM, hb, r1, r2, h⟩ := h
  have hz := hM.z
  simp [ir_grown, start0, n_grown]
  refine ⟨by omega, for_gen (fun k G' => ∃ (bs : List Bool) (a b c : Slot), G' = [.im M.d, .im (.str kd), .im (bL bs), .im (.int r), a, b, c] ∧ bs.length = M.sts.length) ⟨bs, _, _, _, rfl, hb⟩ (fun _ _ _ _ => trivial) ?_ ?_⟩
  · rintro J hJ k d G' hk ⟨bs, a, b, c, rfl, hb⟩
    simp
    refine asgL_own ?_
    simp
    intro l
    simp [bL]
    refine ⟨by omega, for_gen (fun k G' => ∃ (ws : List Bool) (c : Slot), G' = [.im M.d, .im (.str kd), .im (bL bs), .im (.int r), .im d, .ow l (.lst (ws.map .bool)), c] ∧ ws.length = k) ⟨[], _, rfl, rfl⟩ (fun _ _ _ _ => trivial) ?_ ?_⟩
    · rintro J2 hJ2 k2 d2 G' hk2 ⟨ws, c, rfl, hw⟩
      obtain ⟨rfl, hi⟩ := rg0 hk2
      obtain ⟨x, hx⟩ := bool_at (bs := bs) (k := k2) (by omega)
      have fin : ∀ y : Bool, J2 (k2 + 1) [.im M.d, .im (.str kd), .im (bL bs), .im (.int r), .im d, .ow l (.lst (ws.map .bool ++ [.bool y])), .im (.int (k2 : Int))] := fun y =>
        hJ2 _ _ ⟨ws ++ [y], .im (.int (k2 : Int)), by simp, by simp [hw]⟩
      by_cases ck : kd = ("can" : Str)
      · subst ck
        cases x
        · simp [bL, hx]
          refine ⟨M, k2, n, bs, by simp [bL], hM, by omega, hb, fun y => ?_⟩
          simp
          exact ⟨by omega, fin y⟩
        · simp [bL, hx]
          exact ⟨by omega, fin true⟩
      · cases x
        · simp [bL, hx, ck]
          refine ⟨M, k2, n, bs, by simp [bL], hM, by omega, hb, fun y => ?_⟩
          simp
          exact ⟨by omega, fin y⟩
        · simp [bL, hx, ck]
          exact ⟨by omega, fin true⟩
    · rintro G' ⟨ws, c, rfl, hw⟩
      have wl : ws.length = M.sts.length := by rw [hw, rg_len]; omega
      simp [bL]
      refine ⟨⟨shaped_bools ws, shaped_bools bs⟩, ?_⟩
      split
      · exact h bs hb
      · exact hJ _ _ ⟨ws, _, _, _, rfl, wl⟩
  · rintro G' ⟨bs, a, b, c, rfl, hb⟩
    simp
    exact h bs hb
end Wd

/-! C14: facts, wishes, memory. -/
namespace Wd
open PySem PySem.Spec PyProof.Rows L2
inductive Fact where
  | holds (c : Cd)
  | not (f : Fact)
  | and (a b : Fact)
  | next (f : Fact)
  | can (f : Fact)
  | must (f : Fact)
  | canin (k : Int) (f : Fact)
  | mustin (k : Int) (f : Fact)
def Fact.d : Fact → D
  | .holds c => .tuple [.str "holds", c.d]
  | .not f => .tuple [.str "not", f.d]
  | .and a b => .tuple [.str "and", a.d, b.d]
  | .next f => .tuple [.str "next", f.d]
  | .can f => .tuple [.str "can", f.d]
  | .must f => .tuple [.str "must", f.d]
  | .canin k f => .tuple [.str "canin", .int k, f.d]
  | .mustin k f => .tuple [.str "mustin", .int k, f.d]
def FtOk (n : Nat) : Nat → Fact → Prop
  | _, .holds c => COk n 3 c
  | 0, _ => False
  | d + 1, .not f => FtOk n d f
  | d + 1, .and a b => FtOk n d a ∧ FtOk n d b
  | d + 1, .next f => FtOk n d f
  | d + 1, .can f => FtOk n d f
  | d + 1, .must f => FtOk n d f
  | d + 1, .canin k f => 0 ≤ k ∧ k ≤ 100 ∧ FtOk n d f
  | d + 1, .mustin k f => 0 ≤ k ∧ k ≤ 100 ∧ FtOk n d f
def spLabel (d : Nat) : FSp := fun ds P _ => ∃ (M : Mach) (f : Fact) (n : Nat), ds = [M.d, f.d] ∧ MkOk n M ∧ FtOk n d f ∧ ∀ bs : List Bool, bs.length = M.sts.length → P (bL bs)
theorem sts_rel {elt : Sm} {tg : Tg} {own : List Nat} {ds : List D} {stay : Gm → Prop} {G1 : Gm} {P : D → Gm → Prop} (h0 : noOw G1 own = true) (h1 : stay (wipeG G1 own)) (h2 : ds.length ≤ 1000000)
    (h3 : ∀ (k : Nat) (d : D), ds[k]? = some d → ∃ Gb, setTg (wipeG G1 own) d tg = some Gb ∧ ∀ Q : D → Gm → Prop, (∀ b : Bool, Q (.bool b) Gb) → elt Gb Q (fun _ => False)) (h4 : ∀ bs : List Bool, bs.length = ds.length → P (bL bs) G1) : LcG elt tg tTrue own ds stay G1 P :=
  lc_rel (fun _ r => ∃ b, r = .bool b) h0 h1 h2 (fun k d hd => let ⟨Gb, g1, g2⟩ := h3 k d hd; ⟨Gb, g1, fun Q hQ => g2 Q fun b => hQ _ ⟨b, rfl⟩⟩) fun acc a1 a2 => by
    obtain ⟨bs, q1, rfl⟩ := bools_of a1 a2
    exact h4 bs q1
theorem vc_label {d : Nat} (ds : List D) (Pd : D → Prop) (Px : Prop) (h : spLabel d ds Pd Px) : ir_label (spTrue 3) spJoined spStep spGrown (down spLabel d) (start0 n_label.length ds) (goal false Pd Px) := by
  obtain ⟨M, f, n, rfl, hM, hf, h⟩ := h
  have hz := hM.z
  cases f with
  | holds c =>
    have hc : COk n 3 c := by cases d <;> exact hf
    simp [ir_label, start0, n_label, Fact.d, Mach.d]
    refine sts_rel rfl trivial (by rw [List.length_map]; omega) ?_ fun bs hb => ?_
    · intro k x hk
      obtain ⟨vs, hv, rfl⟩ := map_get hk
      refine ⟨_, rfl, fun Q hQ => ?_⟩
      simp [wipeG] at hQ ⊢
      refine ⟨c, vs, n, rfl, hc, hM.va vs (List.mem_of_getElem? hv), ?_⟩
      cases c.v vs with
      | false => exact hQ.1
      | true => exact hQ.2
    · exact h bs (by rw [hb, List.length_map])
  | not f =>
    cases d with
    | zero => exact hf.elim
    | succ d =>
      simp [ir_label, start0, n_label, Fact.d]
      refine ⟨M, f, n, rfl, hM, hf, fun bs hb => ?_⟩
      simp [bL]
      refine sts_rel rfl trivial (by rw [List.length_map]; omega) ?_ fun cs hc => ?_
      · intro k x hk
        obtain ⟨b, hb1, rfl⟩ := map_get hk
        refine ⟨_, rfl, fun Q hQ => ?_⟩
        simp [wipeG] at hQ ⊢
        cases b
        · exact hQ.2
        · exact hQ.1
      · exact h cs (by rw [hc, List.length_map, hb])
  | and a b =>
    cases d with
    | zero => exact hf.elim
    | succ d =>
      have hf : FtOk n d a ∧ FtOk n d b := hf
      simp [ir_label, start0, n_label, Fact.d]
      refine ⟨M, a, n, rfl, hM, hf.1, fun as ha => ?_⟩
      simp
      refine ⟨M, b, n, rfl, hM, hf.2, fun bs hb => ?_⟩
      simp
      refine ⟨_, as, bs, rfl, by omega, by omega, fun cs hc => ?_⟩
      simp
      exact h cs (by omega)
  | next f =>
    cases d with
    | zero => exact hf.elim
    | succ d =>
      simp [ir_label, start0, n_label, Fact.d]
      refine ⟨M, f, n, rfl, hM, hf, fun bs hb => ?_⟩
      simp [bL]
      refine ⟨by omega, sts_rel rfl trivial (by rw [rg_len]; omega) ?_ fun cs hc => ?_⟩
      · intro k x hk
        obtain ⟨rfl, hk2⟩ := rg0 hk
        refine ⟨_, rfl, fun Q hQ => ?_⟩
        simp [wipeG] at hQ ⊢
        exact ⟨M, k, n, bs, by simp [bL, Fact.d], hM, by omega, hb, fun b => by cases b <;> simp [hQ, Fact.d]⟩
      · exact h cs (by rw [hc, rg_len, ← hb]; omega)
  | can f =>
    cases d with
    | zero => exact hf.elim
    | succ d =>
      simp [ir_label, start0, n_label, Fact.d]
      refine ⟨M, f, n, rfl, hM, hf, fun bs hb => ?_⟩
      simp [bL]
      refine ⟨M, _, n, bs, _, rfl, hM, hb, by omega, by omega, fun cs hc => ?_⟩
      simp
      exact h cs hc
  | must f =>
    cases d with
    | zero => exact hf.elim
    | succ d =>
      simp [ir_label, start0, n_label, Fact.d]
      refine ⟨M, f, n, rfl, hM, hf, fun bs hb => ?_⟩
      simp [bL]
      refine ⟨M, _, n, bs, _, rfl, hM, hb, by omega, by omega, fun cs hc => ?_⟩
      simp
      exact h cs hc
  | canin k f =>
    cases d with
    | zero => exact hf.elim
    | succ d =>
      have hf : 0 ≤ k ∧ k ≤ 100 ∧ FtOk n d f := hf
      have sl : (Str.ofString "canin").length ≤ 100000 := by decide
      simp [ir_label, start0, n_label, Fact.d]
      refine ⟨M, f, n, rfl, hM, hf.2.2, fun bs hb => ?_⟩
      simp [bL, sl]
      refine ⟨M, _, n, bs, _, rfl, hM, hb, by split <;> omega, by split <;> omega, fun cs hc => ?_⟩
      simp
      exact h cs hc
  | mustin k f =>
    cases d with
    | zero => exact hf.elim
    | succ d =>
      have hf : 0 ≤ k ∧ k ≤ 100 ∧ FtOk n d f := hf
      have sl : (Str.ofString "mustin").length ≤ 100000 := by decide
      simp [ir_label, start0, n_label, Fact.d]
      refine ⟨M, f, n, rfl, hM, hf.2.2, fun bs hb => ?_⟩
      simp [bL, sl]
      refine ⟨M, _, n, bs, _, rfl, hM, hb, by split <;> omega, by split <;> omega, fun cs hc => ?_⟩
      simp
      exact h cs hc
end Wd

/-! C15: wishes, memory. -/
namespace Wd
open PySem PySem.Spec PyProof.Rows L2
inductive Wish where
  | fact (f : Fact)
  | not (w : Wish)
  | and (a b : Wish)
  | or (a b : Wish)
  | since (a b : Wish)
  | once (w : Wish)
  | before (w : Wish)
  | oncein (k : Int) (w : Wish)
def Wish.d : Wish → D
  | .fact f => .tuple [.str "fact", f.d]
  | .not w => .tuple [.str "not", w.d]
  | .and a b => .tuple [.str "and", a.d, b.d]
  | .or a b => .tuple [.str "or", a.d, b.d]
  | .since a b => .tuple [.str "since", a.d, b.d]
  | .once w => .tuple [.str "once", w.d]
  | .before w => .tuple [.str "before", w.d]
  | .oncein k w => .tuple [.str "oncein", .int k, w.d]
def WOk (n : Nat) : Nat → Wish → Prop
  | _, .fact f => FtOk n 3 f
  | 0, _ => False
  | d + 1, .not w => WOk n d w
  | d + 1, .and a b => WOk n d a ∧ WOk n d b
  | d + 1, .or a b => WOk n d a ∧ WOk n d b
  | d + 1, .since a b => WOk n d a ∧ WOk n d b
  | d + 1, .once w => WOk n d w
  | d + 1, .before w => WOk n d w
  | d + 1, .oncein k w => 0 ≤ k ∧ k ≤ 100 ∧ WOk n d w
def Wish.fs : Wish → List Fact
  | .fact f => [f]
  | .not w => w.fs
  | .and a b => a.fs ++ b.fs
  | .or a b => a.fs ++ b.fs
  | .since a b => a.fs ++ b.fs
  | .once w => w.fs
  | .before w => w.fs
  | .oncein _ w => w.fs
def Wish.sz : Wish → Nat
  | .fact _ => 1
  | .not w => w.sz
  | .and a b => a.sz + b.sz
  | .or a b => a.sz + b.sz
  | .since a b => 1 + a.sz + b.sz
  | .once w => 1 + w.sz
  | .before w => 1 + w.sz
  | .oncein _ w => 1 + w.sz
/-- what a memory is like -/
def MemOk : Wish → List D → Prop
  | .fact _, ms => ∃ b : Bool, ms = [.bool b]
  | .not w, ms => MemOk w ms
  | .and a b, ms => ∃ x y, ms = x ++ y ∧ MemOk a x ∧ MemOk b y
  | .or a b, ms => ∃ x y, ms = x ++ y ∧ MemOk a x ∧ MemOk b y
  | .since a b, ms => ∃ (c : Bool) (x y : List D), ms = .bool c :: (x ++ y) ∧ MemOk a x ∧ MemOk b y
  | .once w, ms => ∃ (c : Bool) (x : List D), ms = .bool c :: x ∧ MemOk w x
  | .before w, ms => ∃ (c : Bool) (x : List D), ms = .bool c :: x ∧ MemOk w x
  | .oncein _ w, ms => ∃ (i : Int) (x : List D), ms = .int i :: x ∧ MemOk w x
theorem mem_len : ∀ {w : Wish} {ms : List D}, MemOk w ms → ms.length = w.sz
  | .fact _, _, ⟨b, rfl⟩ => rfl
  | .not w, _, h => mem_len (w := w) h
  | .and a b, _, ⟨x, y, rfl, h1, h2⟩ => by rw [List.length_append, mem_len h1, mem_len h2]; rfl
  | .or a b, _, ⟨x, y, rfl, h1, h2⟩ => by rw [List.length_append, mem_len h1, mem_len h2]; rfl
  | .since a b, _, ⟨c, x, y, rfl, h1, h2⟩ => by rw [List.length_cons, List.length_append, mem_len h1, mem_len h2]; show _ = 1 + a.sz + b.sz; omega
  | .once w, _, ⟨c, x, rfl, h⟩ => by rw [List.length_cons, mem_len h]; show _ = 1 + w.sz; omega
  | .before w, _, ⟨c, x, rfl, h⟩ => by rw [List.length_cons, mem_len h]; show _ = 1 + w.sz; omega
  | .oncein k w, _, ⟨c, x, rfl, h⟩ => by rw [List.length_cons, mem_len h]; show _ = 1 + w.sz; omega
theorem sz_le {n : Nat} : ∀ {d : Nat} {w : Wish}, WOk n d w → w.sz < 2 ^ (d + 1) ∧ w.fs.length ≤ 2 ^ d
  | d, .fact _, _ => ⟨by show 1 < _; have := Nat.one_lt_two_pow (n := d + 1) (by omega); exact this, Nat.one_le_two_pow⟩
  | d + 1, .not w, h => by
    obtain ⟨a, b⟩ := sz_le (d := d) (w := w) h
    rw [Nat.pow_succ] at a ⊢
    have := Nat.pow_succ 2 d
    exact ⟨by show w.sz < _; omega, by show w.fs.length ≤ _; omega⟩
  | d + 1, .and x y, h => by
    obtain ⟨a, b⟩ := sz_le (d := d) (w := x) h.1
    obtain ⟨a', b'⟩ := sz_le (d := d) (w := y) h.2
    rw [Nat.pow_succ]
    have := Nat.pow_succ 2 d
    exact ⟨by show x.sz + y.sz < _; omega, by show (x.fs ++ y.fs).length ≤ _; rw [List.length_append]; omega⟩
  | d + 1, .or x y, h => by
    obtain ⟨a, b⟩ := sz_le (d := d) (w := x) h.1
    obtain ⟨a', b'⟩ := sz_le (d := d) (w := y) h.2
    rw [Nat.pow_succ]
    have := Nat.pow_succ 2 d
    exact ⟨by show x.sz + y.sz < _; omega, by show (x.fs ++ y.fs).length ≤ _; rw [List.length_append]; omega⟩
  | d + 1, .since x y, h => by
    obtain ⟨a, b⟩ := sz_le (d := d) (w := x) h.1
    obtain ⟨a', b'⟩ := sz_le (d := d) (w := y) h.2
    rw [Nat.pow_succ]
    have := Nat.pow_succ 2 d
    exact ⟨by show 1 + x.sz + y.sz < _; omega, by show (x.fs ++ y.fs).length ≤ _; rw [List.length_append]; omega⟩
  | d + 1, .once w, h => by
    obtain ⟨a, b⟩ := sz_le (d := d) (w := w) h
    rw [Nat.pow_succ]
    have := Nat.pow_succ 2 d
    exact ⟨by show 1 + w.sz < _; omega, by show w.fs.length ≤ _; omega⟩
  | d + 1, .before w, h => by
    obtain ⟨a, b⟩ := sz_le (d := d) (w := w) h
    rw [Nat.pow_succ]
    have := Nat.pow_succ 2 d
    exact ⟨by show 1 + w.sz < _; omega, by show w.fs.length ≤ _; omega⟩
  | d + 1, .oncein k w, h => by
    obtain ⟨a, b⟩ := sz_le (d := d) (w := w) h.2.2
    rw [Nat.pow_succ]
    have := Nat.pow_succ 2 d
    exact ⟨by show 1 + w.sz < _; omega, by show w.fs.length ≤ _; omega⟩
theorem sz_small {n d : Nat} {w : Wish} (hd : d ≤ 10) (h : WOk n d w) : w.sz ≤ 2048 ∧ w.fs.length ≤ 1024 := by
  obtain ⟨a, b⟩ := sz_le h
  have h1 : 2 ^ (d + 1) ≤ 2 ^ 11 := Nat.pow_le_pow_right (by decide) (by omega)
  have h2 : 2 ^ d ≤ 2 ^ 10 := Nat.pow_le_pow_right (by decide) hd
  exact ⟨by omega, by omega⟩
/-! slices by a length -/
theorem cut_take (xs : List D) (k : Nat) : cutD xs none (some (k : Int)) = xs.take k := by
  unfold cutD
  rw [HT.sIx_none, HT.sIx_nat, List.drop_zero, Nat.sub_zero]
  rcases Nat.le_total k xs.length with h | h
  · rw [Nat.min_eq_left h]
  · rw [Nat.min_eq_right h, List.take_length, List.take_of_length_le h]
theorem cut_drop (xs : List D) (k : Nat) : cutD xs (some (k : Int)) none = xs.drop k := by
  unfold cutD
  rw [HT.sIx_none, HT.sIx_nat]
  rcases Nat.le_total k xs.length with h | h
  · rw [Nat.min_eq_left h, List.take_of_length_le (by rw [List.length_drop]; omega)]
  · rw [Nat.min_eq_right h, List.drop_length, List.drop_of_length_le h]; simp
theorem cut_tail (x : D) (xs : List D) : cutD (x :: xs) (some 1) none = xs := cut_drop (x :: xs) 1
theorem cut_l (xs ys : List D) (k : Nat) (h : xs.length = k) : cutD (xs ++ ys) none (some (k : Int)) = xs := by rw [cut_take, ← h, List.take_left]
theorem cut_r (xs ys : List D) (k : Nat) (h : xs.length = k) : cutD (xs ++ ys) (some (k : Int)) none = ys := by rw [cut_drop, ← h, List.drop_left]
/-! ### facts_in, size_of, meets -/
def spFacts (d : Nat) : FSp := fun ds P _ => ∃ (w : Wish) (n : Nat), ds = [w.d] ∧ WOk n d w ∧ P (.list (w.fs.map Fact.d))
theorem vc_facts {hot : Bool} {d : Nat} (hd : d ≤ 10) (ds : List D) (Pd : D → Prop) (Px : Prop) (h : spFacts d ds Pd Px) : ir_facts_in (down spFacts d) (start0 n_facts_in.length ds) (goal hot Pd Px) := by
  obtain ⟨w, n, rfl, hw, h⟩ := h
  have one : ∀ {w : Wish} {d : Nat}, d ≤ 10 → WOk n d w → w.fs.length ≤ 1024 := fun a b => (sz_small a b).2
  cases w with
  | fact f => simp [ir_facts_in, start0, n_facts_in, Wish.d]; exact h
  | not w => cases d with
    | zero => exact hw.elim
    | succ d => simp [ir_facts_in, start0, n_facts_in, Wish.d]; refine ⟨w, n, rfl, hw, ?_⟩; simp; exact h
  | once w => cases d with
    | zero => exact hw.elim
    | succ d => simp [ir_facts_in, start0, n_facts_in, Wish.d]; refine ⟨w, n, rfl, hw, ?_⟩; simp; exact h
  | before w => cases d with
    | zero => exact hw.elim
    | succ d => simp [ir_facts_in, start0, n_facts_in, Wish.d]; refine ⟨w, n, rfl, hw, ?_⟩; simp; exact h
  | oncein k w => cases d with
    | zero => exact hw.elim
    | succ d => simp [ir_facts_in, start0, n_facts_in, Wish.d]; refine ⟨w, n, rfl, hw.2.2, ?_⟩; simp; exact h
  | and a b => cases d with
    | zero => exact hw.elim
    | succ d =>
      have := one (by omega) hw.1; have := one (by omega) hw.2
      have h : Pd (.list ((a.fs ++ b.fs).map Fact.d)) := h
      rw [List.map_append] at h
      simp [ir_facts_in, start0, n_facts_in, Wish.d]; refine ⟨a, n, rfl, hw.1, ?_⟩; simp; refine ⟨b, n, rfl, hw.2, ?_⟩; simp; exact ⟨by omega, h⟩
  | or a b => cases d with
    | zero => exact hw.elim
    | succ d =>
      have := one (by omega) hw.1; have := one (by omega) hw.2
      have h : Pd (.list ((a.fs ++ b.fs).map Fact.d)) := h
      rw [List.map_append] at h
      simp [ir_facts_in, start0, n_facts_in, Wish.d]; refine ⟨a, n, rfl, hw.1, ?_⟩; simp; refine ⟨b, n, rfl, hw.2, ?_⟩; simp; exact ⟨by omega, h⟩
  | since a b => cases d with
    | zero => exact hw.elim
    | succ d =>
      have := one (by omega) hw.1; have := one (by omega) hw.2
      have h : Pd (.list ((a.fs ++ b.fs).map Fact.d)) := h
      rw [List.map_append] at h
      simp [ir_facts_in, start0, n_facts_in, Wish.d]; refine ⟨a, n, rfl, hw.1, ?_⟩; simp; refine ⟨b, n, rfl, hw.2, ?_⟩; simp; exact ⟨by omega, h⟩
def spSize (d : Nat) : FSp := fun ds P _ => ∃ (w : Wish) (n : Nat), ds = [w.d] ∧ WOk n d w ∧ P (.int (w.sz : Int))
theorem vc_size {d : Nat} (ds : List D) (Pd : D → Prop) (Px : Prop) (h : spSize d ds Pd Px) : ir_size_of (down spSize d) (start0 n_size_of.length ds) (goal false Pd Px) := by
  obtain ⟨w, n, rfl, hw, h⟩ := h
  cases w with
  | fact f => simp [ir_size_of, start0, n_size_of, Wish.d]; exact h
  | not w => cases d with
    | zero => exact hw.elim
    | succ d => simp [ir_size_of, start0, n_size_of, Wish.d]; refine ⟨w, n, rfl, hw, ?_⟩; simp; exact h
  | once w => cases d with
    | zero => exact hw.elim
    | succ d => simp [ir_size_of, start0, n_size_of, Wish.d]; refine ⟨w, n, rfl, hw, ?_⟩; simp; simpa [Wish.sz] using h
  | before w => cases d with
    | zero => exact hw.elim
    | succ d => simp [ir_size_of, start0, n_size_of, Wish.d]; refine ⟨w, n, rfl, hw, ?_⟩; simp; simpa [Wish.sz] using h
  | oncein k w => cases d with
    | zero => exact hw.elim
    | succ d => simp [ir_size_of, start0, n_size_of, Wish.d]; refine ⟨w, n, rfl, hw.2.2, ?_⟩; simp; simpa [Wish.sz] using h
  | and a b => cases d with
    | zero => exact hw.elim
    | succ d => simp [ir_size_of, start0, n_size_of, Wish.d]; refine ⟨a, n, rfl, hw.1, ?_⟩; simp; refine ⟨b, n, rfl, hw.2, ?_⟩; simp; simpa [Wish.sz] using h
  | or a b => cases d with
    | zero => exact hw.elim
    | succ d => simp [ir_size_of, start0, n_size_of, Wish.d]; refine ⟨a, n, rfl, hw.1, ?_⟩; simp; refine ⟨b, n, rfl, hw.2, ?_⟩; simp; simpa [Wish.sz] using h
  | since a b => cases d with
    | zero => exact hw.elim
    | succ d => simp [ir_size_of, start0, n_size_of, Wish.d]; refine ⟨a, n, rfl, hw.1, ?_⟩; simp; refine ⟨b, n, rfl, hw.2, ?_⟩; simp; simpa [Wish.sz] using h
def spMeets (d : Nat) : FSp := fun ds P _ => ∃ (w : Wish) (n : Nat) (ms : List D), ds = [w.d, .tuple ms] ∧ WOk n d w ∧ MemOk w ms ∧ ∀ b, P (.bool b)
theorem vc_meets {hot : Bool} {d : Nat} (ds : List D) (Pd : D → Prop) (Px : Prop) (h : spMeets d ds Pd Px) : ir_meets (down spSize d) (down spMeets d) (start0 n_meets.length ds) (goal hot Pd Px) := by
  obtain ⟨w, n, ms, rfl, hw, hm, h⟩ := h
  cases w with
  | fact f => obtain ⟨b, rfl⟩ := hm; simp [ir_meets, start0, n_meets, Wish.d]; exact h b
  | not w => cases d with
    | zero => exact hw.elim
    | succ d => simp [ir_meets, start0, n_meets, Wish.d]; refine ⟨w, n, ms, rfl, hw, hm, fun b => ?_⟩; simp; exact h _
  | once w => cases d with
    | zero => exact hw.elim
    | succ d => obtain ⟨c, x, rfl, hx⟩ := hm; simp [ir_meets, start0, n_meets, Wish.d]; exact h _
  | before w => cases d with
    | zero => exact hw.elim
    | succ d => obtain ⟨c, x, rfl, hx⟩ := hm; simp [ir_meets, start0, n_meets, Wish.d]; exact h _
  | since a b => cases d with
    | zero => exact hw.elim
    | succ d => obtain ⟨c, x, y, rfl, hx, hy⟩ := hm; simp [ir_meets, start0, n_meets, Wish.d]; exact h _
  | oncein k w => cases d with
    | zero => exact hw.elim
    | succ d => obtain ⟨c, x, rfl, hx⟩ := hm; simp [ir_meets, start0, n_meets, Wish.d]; exact h _
  | and a b => cases d with
    | zero => exact hw.elim
    | succ d =>
      obtain ⟨x, y, rfl, hx, hy⟩ := hm
      simp [ir_meets, start0, n_meets, Wish.d]
      refine ⟨a, n, rfl, hw.1, ?_⟩
      simp [cut_l x y _ (mem_len hx)]
      refine ⟨a, n, x, rfl, hw.1, hx, fun p => ?_⟩
      simp [cut_r x y _ (mem_len hx)]
      refine ⟨b, n, y, rfl, hw.2, hy, fun q => ?_⟩
      cases p <;> simp <;> exact h _
  | or a b => cases d with
    | zero => exact hw.elim
    | succ d =>
      obtain ⟨x, y, rfl, hx, hy⟩ := hm
      simp [ir_meets, start0, n_meets, Wish.d]
      refine ⟨a, n, rfl, hw.1, ?_⟩
      simp [cut_l x y _ (mem_len hx)]
      refine ⟨a, n, x, rfl, hw.1, hx, fun p => ?_⟩
      simp [cut_r x y _ (mem_len hx)]
      refine ⟨b, n, y, rfl, hw.2, hy, fun q => ?_⟩
      cases p <;> simp <;> exact h _
end Wd

/-! C16: first_memory, next_memory, next_pair. -/
namespace Wd
open PySem PySem.Spec PyProof.Rows L2
/-- what the memory of a plain fact is -/
def Det (w : Wish) (bs : List Bool) (ms : List D) : Prop := ∀ f, w = .fact f → ms = [.bool (bs.getD 0 false)]
def spFirst (d : Nat) : FSp := fun ds P _ => ∃ (w : Wish) (n : Nat) (bs : List Bool), ds = [w.d, bL bs] ∧ WOk n d w ∧ bs.length = w.fs.length ∧ ∀ ms, MemOk w ms → Det w bs ms → P (.tuple ms)
theorem bcut_l (xs ys : List Bool) (k : Nat) (h : xs.length = k) : cutD ((xs ++ ys).map PyData.bool) none (some (k : Int)) = xs.map .bool := by rw [List.map_append]; exact cut_l _ _ _ (by rw [List.length_map]; exact h)
theorem bcut_r (xs ys : List Bool) (k : Nat) (h : xs.length = k) : cutD ((xs ++ ys).map PyData.bool) (some (k : Int)) none = ys.map .bool := by rw [List.map_append]; exact cut_r _ _ _ (by rw [List.length_map]; exact h)
theorem split_bs {bs : List Bool} {a b : Wish} (h : bs.length = (a.fs ++ b.fs).length) : ∃ x y, bs = x ++ y ∧ x.length = a.fs.length ∧ y.length = b.fs.length := by
  rw [List.length_append] at h
  exact ⟨bs.take a.fs.length, bs.drop a.fs.length, (List.take_append_drop _ _).symm, by rw [List.length_take]; omega, by rw [List.length_drop]; omega⟩
theorem vc_first {hot : Bool} {d : Nat} (hd : d ≤ 10) (ds : List D) (Pd : D → Prop) (Px : Prop) (h : spFirst d ds Pd Px) : ir_first_memory (down spFacts d) (down spMeets d) (down spFirst d) (start0 n_first_memory.length ds) (goal hot Pd Px) := by
  obtain ⟨w, n, bs, rfl, hw, hb, h⟩ := h
  have lens : ∀ {w : Wish} {d : Nat} {ms : List D}, d ≤ 10 → WOk n d w → MemOk w ms → ms.length ≤ 2048 := fun a b c => by rw [mem_len c]; exact (sz_small a b).1
  cases w with
  | fact f =>
    match bs, hb with
    | [b], _ => simp [ir_first_memory, start0, n_first_memory, Wish.d, bL]; exact h _ ⟨b, rfl⟩ (fun _ _ => rfl)
  | not w => cases d with
    | zero => exact hw.elim
    | succ d =>
      simp [ir_first_memory, start0, n_first_memory, Wish.d]
      refine ⟨w, n, bs, rfl, hw, hb, fun ms hm _ => ?_⟩
      simp
      exact h ms hm (fun _ e => by cases e)
  | once w => cases d with
    | zero => exact hw.elim
    | succ d =>
      simp [ir_first_memory, start0, n_first_memory, Wish.d]
      refine ⟨w, n, bs, rfl, hw, hb, fun ms hm _ => ?_⟩
      simp
      refine ⟨w, n, ms, rfl, hw, hm, fun b => ?_⟩
      have := lens (w := w) (d := d) (by omega) hw hm
      simp
      exact ⟨by omega, h _ ⟨b, ms, rfl, hm⟩ (fun _ e => by cases e)⟩
  | before w => cases d with
    | zero => exact hw.elim
    | succ d =>
      simp [ir_first_memory, start0, n_first_memory, Wish.d]
      refine ⟨w, n, bs, rfl, hw, hb, fun ms hm _ => ?_⟩
      have := lens (w := w) (d := d) (by omega) hw hm
      simp
      exact ⟨by omega, h _ ⟨false, ms, rfl, hm⟩ (fun _ e => by cases e)⟩
  | oncein k w => cases d with
    | zero => exact hw.elim
    | succ d =>
      simp [ir_first_memory, start0, n_first_memory, Wish.d]
      refine ⟨w, n, bs, rfl, hw.2.2, hb, fun ms hm _ => ?_⟩
      have := lens (by omega) hw.2.2 hm
      simp
      refine ⟨w, n, ms, rfl, hw.2.2, hm, fun b => ?_⟩
      cases b <;> simp
      · exact ⟨by omega, h _ ⟨_, ms, rfl, hm⟩ (fun _ e => by cases e)⟩
      · exact ⟨by omega, h _ ⟨_, ms, rfl, hm⟩ (fun _ e => by cases e)⟩
  | and a b => cases d with
    | zero => exact hw.elim
    | succ d =>
      obtain ⟨x, y, rfl, hx, hy⟩ := split_bs (a := a) (b := b) hb
      simp [ir_first_memory, start0, n_first_memory, Wish.d]
      refine ⟨a, n, rfl, hw.1, ?_⟩
      simp only [bL]
      simp [bcut_l x y _ hx, -List.map_append]
      refine ⟨a, n, x, rfl, hw.1, hx, fun ma h1 _ => ?_⟩
      simp [bcut_r x y _ hx, -List.map_append]
      refine ⟨b, n, y, rfl, hw.2, hy, fun mb h2 _ => ?_⟩
      have := lens (by omega) hw.1 h1
      have := lens (by omega) hw.2 h2
      simp
      exact ⟨by omega, h _ ⟨ma, mb, rfl, h1, h2⟩ (fun _ e => by cases e)⟩
  | or a b => cases d with
    | zero => exact hw.elim
    | succ d =>
      obtain ⟨x, y, rfl, hx, hy⟩ := split_bs (a := a) (b := b) hb
      simp [ir_first_memory, start0, n_first_memory, Wish.d]
      refine ⟨a, n, rfl, hw.1, ?_⟩
      simp only [bL]
      simp [bcut_l x y _ hx, -List.map_append]
      refine ⟨a, n, x, rfl, hw.1, hx, fun ma h1 _ => ?_⟩
      simp [bcut_r x y _ hx, -List.map_append]
      refine ⟨b, n, y, rfl, hw.2, hy, fun mb h2 _ => ?_⟩
      have := lens (by omega) hw.1 h1
      have := lens (by omega) hw.2 h2
      simp
      exact ⟨by omega, h _ ⟨ma, mb, rfl, h1, h2⟩ (fun _ e => by cases e)⟩
  | since a b => cases d with
    | zero => exact hw.elim
    | succ d =>
      obtain ⟨x, y, rfl, hx, hy⟩ := split_bs (a := a) (b := b) hb
      simp [ir_first_memory, start0, n_first_memory, Wish.d]
      refine ⟨a, n, rfl, hw.1, ?_⟩
      simp only [bL]
      simp [bcut_l x y _ hx, -List.map_append]
      refine ⟨a, n, x, rfl, hw.1, hx, fun ma h1 _ => ?_⟩
      simp [bcut_r x y _ hx, -List.map_append]
      refine ⟨b, n, y, rfl, hw.2, hy, fun mb h2 _ => ?_⟩
      have := lens (by omega) hw.1 h1
      have := lens (by omega) hw.2 h2
      simp
      refine ⟨b, n, mb, rfl, hw.2, h2, fun p => ?_⟩
      simp
      exact ⟨by omega, by omega, h _ ⟨p, ma, mb, rfl, h1, h2⟩ (fun _ e => by cases e)⟩
def spNext (d : Nat) : FSp := fun ds P _ => ∃ (w : Wish) (n : Nat) (ms : List D) (bs : List Bool), ds = [w.d, .tuple ms, bL bs] ∧ WOk n d w ∧ MemOk w ms ∧ bs.length = w.fs.length ∧ ∀ ms', MemOk w ms' → Det w bs ms' → P (.tuple ms')
def isPair : Wish → Bool
  | .and _ _ => true
  | .or _ _ => true
  | .since _ _ => true
  | _ => false
def spPair (d : Nat) : FSp := fun ds P _ => ∃ (w : Wish) (n : Nat) (ms : List D) (bs : List Bool), ds = [w.d, .tuple ms, bL bs] ∧ isPair w = true ∧ WOk n d w ∧ MemOk w ms ∧ bs.length = w.fs.length ∧ ∀ ms', MemOk w ms' → P (.tuple ms')
theorem vc_pair {d : Nat} (hd : d ≤ 10) (ds : List D) (Pd : D → Prop) (Px : Prop) (h : spPair d ds Pd Px) : ir_next_pair (down spFacts d) (down spSize d) (down spMeets d) (down spNext d) (start0 n_next_pair.length ds) (goal false Pd Px) := by
  obtain ⟨w, n, ms, bs, rfl, hp, hw, hm, hb, h⟩ := h
  have lens : ∀ {w : Wish} {d : Nat} {ms : List D}, d ≤ 10 → WOk n d w → MemOk w ms → ms.length ≤ 2048 := fun a b c => by rw [mem_len c]; exact (sz_small a b).1
  cases d with
  | zero => cases w <;> first | exact hw.elim | cases hp
  | succ d =>
  cases w with
  | fact f => cases hp
  | not w => cases hp
  | once w => cases hp
  | before w => cases hp
  | oncein k w => cases hp
  | and a b =>
    obtain ⟨x, y, rfl, hx, hy⟩ := split_bs (a := a) (b := b) hb
    obtain ⟨u, v, rfl, hu, hv⟩ := hm
    simp [ir_next_pair, start0, n_next_pair, Wish.d]
    refine ⟨a, n, rfl, hw.1, ?_⟩
    simp
    refine ⟨a, n, rfl, hw.1, ?_⟩
    simp only [bL]
    simp [bcut_l x y _ hx, cut_l u v _ (mem_len hu), -List.map_append]
    refine ⟨a, n, u, x, rfl, hw.1, hu, hx, fun ma h1 _ => ?_⟩
    simp [bcut_r x y _ hx, cut_r u v _ (mem_len hu), -List.map_append]
    refine ⟨b, n, v, y, rfl, hw.2, hv, hy, fun mb h2 _ => ?_⟩
    have := lens (by omega) hw.1 h1
    have := lens (by omega) hw.2 h2
    simp
    exact ⟨by omega, h _ ⟨ma, mb, rfl, h1, h2⟩⟩
  | or a b =>
    obtain ⟨x, y, rfl, hx, hy⟩ := split_bs (a := a) (b := b) hb
    obtain ⟨u, v, rfl, hu, hv⟩ := hm
    simp [ir_next_pair, start0, n_next_pair, Wish.d]
    refine ⟨a, n, rfl, hw.1, ?_⟩
    simp
    refine ⟨a, n, rfl, hw.1, ?_⟩
    simp only [bL]
    simp [bcut_l x y _ hx, cut_l u v _ (mem_len hu), -List.map_append]
    refine ⟨a, n, u, x, rfl, hw.1, hu, hx, fun ma h1 _ => ?_⟩
    simp [bcut_r x y _ hx, cut_r u v _ (mem_len hu), -List.map_append]
    refine ⟨b, n, v, y, rfl, hw.2, hv, hy, fun mb h2 _ => ?_⟩
    have := lens (by omega) hw.1 h1
    have := lens (by omega) hw.2 h2
    simp
    exact ⟨by omega, h _ ⟨ma, mb, rfl, h1, h2⟩⟩
  | since a b =>
    obtain ⟨x, y, rfl, hx, hy⟩ := split_bs (a := a) (b := b) hb
    obtain ⟨c, u, v, rfl, hu, hv⟩ := hm
    simp [ir_next_pair, start0, n_next_pair, Wish.d, cut_tail]
    refine ⟨a, n, rfl, hw.1, ?_⟩
    simp
    refine ⟨a, n, rfl, hw.1, ?_⟩
    simp only [bL]
    simp [bcut_l x y _ hx, cut_l u v _ (mem_len hu), -List.map_append]
    refine ⟨a, n, u, x, rfl, hw.1, hu, hx, fun ma h1 _ => ?_⟩
    simp [bcut_r x y _ hx, cut_r u v _ (mem_len hu), -List.map_append]
    refine ⟨b, n, v, y, rfl, hw.2, hv, hy, fun mb h2 _ => ?_⟩
    have := lens (by omega) hw.1 h1
    have := lens (by omega) hw.2 h2
    have fin : ∀ p : Bool, Pd (.tuple (.bool p :: (ma ++ mb))) := fun p => h _ ⟨p, ma, mb, rfl, h1, h2⟩
    simp
    refine ⟨b, n, mb, rfl, hw.2, h2, fun p => ?_⟩
    cases p
    · cases c
      · simp
        exact ⟨by omega, by omega, fin _⟩
      · simp
        refine ⟨a, n, ma, rfl, hw.1, h1, fun q => ?_⟩
        simp
        exact ⟨by omega, by omega, fin _⟩
    · simp
      exact ⟨by omega, by omega, fin _⟩
theorem vc_next {d : Nat} (hd : d ≤ 10) (ds : List D) (Pd : D → Prop) (Px : Prop) (h : spNext d ds Pd Px) : ir_next_memory (down spMeets d) (down spNext d) (spPair d) (start0 n_next_memory.length ds) (goal false Pd Px) := by
  obtain ⟨w, n, ms, bs, rfl, hw, hm, hb, h⟩ := h
  have lens : ∀ {w : Wish} {d : Nat} {ms : List D}, d ≤ 10 → WOk n d w → MemOk w ms → ms.length ≤ 2048 := fun a b c => by rw [mem_len c]; exact (sz_small a b).1
  cases w with
  | fact f =>
    match bs, hb with
    | [b], _ => simp [ir_next_memory, start0, n_next_memory, Wish.d, bL]; exact h _ ⟨b, rfl⟩ (fun _ _ => rfl)
  | and a b =>
    simp [ir_next_memory, start0, n_next_memory, Wish.d]
    refine ⟨.and a b, n, ms, bs, rfl, rfl, hw, hm, hb, fun ms' h' => ?_⟩
    simp
    exact h ms' h' (fun _ e => by cases e)
  | or a b =>
    simp [ir_next_memory, start0, n_next_memory, Wish.d]
    refine ⟨.or a b, n, ms, bs, rfl, rfl, hw, hm, hb, fun ms' h' => ?_⟩
    simp
    exact h ms' h' (fun _ e => by cases e)
  | since a b =>
    simp [ir_next_memory, start0, n_next_memory, Wish.d]
    refine ⟨.since a b, n, ms, bs, rfl, rfl, hw, hm, hb, fun ms' h' => ?_⟩
    simp
    exact h ms' h' (fun _ e => by cases e)
  | not w => cases d with
    | zero => exact hw.elim
    | succ d =>
      simp [ir_next_memory, start0, n_next_memory, Wish.d]
      refine ⟨w, n, ms, bs, rfl, hw, hm, hb, fun ms' h' _ => ?_⟩
      simp
      exact h ms' h' (fun _ e => by cases e)
  | once w => cases d with
    | zero => exact hw.elim
    | succ d =>
      obtain ⟨c, x, rfl, hx⟩ := hm
      simp [ir_next_memory, start0, n_next_memory, Wish.d, cut_tail]
      refine ⟨w, n, x, bs, rfl, hw, hx, hb, fun ms' h' _ => ?_⟩
      have := lens (w := w) (d := d) (by omega) hw h'
      simp
      refine ⟨w, n, ms', rfl, hw, h', fun b => ?_⟩
      cases b <;> simp
      · exact ⟨by omega, h _ ⟨_, ms', rfl, h'⟩ (fun _ e => by cases e)⟩
      · exact ⟨by omega, h _ ⟨_, ms', rfl, h'⟩ (fun _ e => by cases e)⟩
  | before w => cases d with
    | zero => exact hw.elim
    | succ d =>
      obtain ⟨c, x, rfl, hx⟩ := hm
      simp [ir_next_memory, start0, n_next_memory, Wish.d, cut_tail]
      refine ⟨w, n, x, bs, rfl, hw, hx, hb, fun ms' h' _ => ?_⟩
      have := lens (w := w) (d := d) (by omega) hw h'
      simp [cut_tail]
      refine ⟨w, n, x, rfl, hw, hx, fun b => ?_⟩
      simp
      exact ⟨by omega, h _ ⟨_, ms', rfl, h'⟩ (fun _ e => by cases e)⟩
  | oncein k w => cases d with
    | zero => exact hw.elim
    | succ d =>
      obtain ⟨c, x, rfl, hx⟩ := hm
      simp [ir_next_memory, start0, n_next_memory, Wish.d, cut_tail]
      refine ⟨w, n, x, bs, rfl, hw.2.2, hx, hb, fun ms' h' _ => ?_⟩
      have := lens (by omega) hw.2.2 h'
      simp
      refine ⟨w, n, ms', rfl, hw.2.2, h', fun b => ?_⟩
      cases b <;> simp
      · exact ⟨by omega, h _ ⟨_, ms', rfl, h'⟩ (fun _ e => by cases e)⟩
      · exact ⟨by omega, h _ ⟨_, ms', rfl, h'⟩ (fun _ e => by cases e)⟩
end Wd

/-! C17: labels_of, number_of, track. -/
namespace Wd
open PySem PySem.Spec PyProof.Rows L2
theorem exists_map {α : Type} {p : α → Prop} {f : α → D} : ∀ {acc : List D}, (∀ (k : Nat) (r : D), acc[k]? = some r → ∃ x, p x ∧ r = f x) → ∃ xs : List α, xs.length = acc.length ∧ (∀ x ∈ xs, p x) ∧ acc = xs.map f
  | [], _ => ⟨[], rfl, by simp, rfl⟩
  | a :: r, h => by
    obtain ⟨x, hx, e⟩ := h 0 a rfl
    obtain ⟨xs, h1, h2, h3⟩ := exists_map (acc := r) fun k y hy => h (k + 1) y (by simpa using hy)
    exact ⟨x :: xs, by simp [h1], fun y hy => (List.mem_cons.mp hy).elim (fun z => z ▸ hx) (h2 y), by rw [e, h3]; rfl⟩
theorem fs_ok {n : Nat} : ∀ {d : Nat} {w : Wish}, WOk n d w → ∀ f ∈ w.fs, FtOk n 3 f
  | d, .fact g, h, f, hf => by
    rw [List.mem_singleton.mp hf]
    cases d <;> exact h
  | d + 1, .not w, h, f, hf => fs_ok (d := d) (w := w) h f hf
  | d + 1, .once w, h, f, hf => fs_ok (d := d) (w := w) h f hf
  | d + 1, .before w, h, f, hf => fs_ok (d := d) (w := w) h f hf
  | d + 1, .oncein k w, h, f, hf => fs_ok (d := d) (w := w) h.2.2 f hf
  | d + 1, .and a b, h, f, hf => (List.mem_append.mp hf).elim (fs_ok (d := d) (w := a) h.1 f) (fs_ok (d := d) (w := b) h.2 f)
  | d + 1, .or a b, h, f, hf => (List.mem_append.mp hf).elim (fs_ok (d := d) (w := a) h.1 f) (fs_ok (d := d) (w := b) h.2 f)
  | d + 1, .since a b, h, f, hf => (List.mem_append.mp hf).elim (fs_ok (d := d) (w := a) h.1 f) (fs_ok (d := d) (w := b) h.2 f)
def spLabels (d : Nat) : FSp := fun ds P _ => ∃ (M : Mach) (w : Wish) (n : Nat), ds = [M.d, w.d] ∧ MkOk n M ∧ WOk n d w ∧ ∀ H : List (List Bool), H.length = M.sts.length → (∀ r ∈ H, r.length = w.fs.length) → P (.list (H.map bL))
/-- by the labels and the facts that one has -/
theorem vc_labels {hot : Bool} {pl pf : FSp} {M : Mach} {w : Wish} {n : Nat} {Pd : D → Prop} {Px : Prop} (hM : MkOk n M) (hfl : w.fs.length ≤ 1024)
    (hf : ∀ (P : D → Prop) (X : Prop), P (.list (w.fs.map Fact.d)) → pf [w.d] P X) (hl : ∀ f ∈ w.fs, ∀ (P : D → Prop) (X : Prop), (∀ bs : List Bool, bs.length = M.sts.length → P (bL bs)) → pl [M.d, f.d] P X)
    (h : ∀ H : List (List Bool), H.length = M.sts.length → (∀ r ∈ H, r.length = w.fs.length) → Pd (.list (H.map bL))) : ir_labels_of pl pf (start0 n_labels_of.length [M.d, w.d]) (goal hot Pd Px) := by
  have hz := hM.z
  simp [ir_labels_of, start0, n_labels_of]
  refine hf _ _ ?_
  simp
  refine lc_rel (fun _ r => ∃ bs : List Bool, bs.length = M.sts.length ∧ r = bL bs) rfl trivial (by rw [List.length_map]; omega) ?_ fun acc a1 a2 => ?_
  · intro k x hk
    obtain ⟨f, hf1, rfl⟩ := map_get hk
    refine ⟨_, rfl, fun Q hQ => ?_⟩
    simp [wipeG] at hQ ⊢
    refine hl f (List.mem_of_getElem? hf1) _ _ fun bs hb => ?_
    exact hQ _ bs hb rfl
  · obtain ⟨R, r1, r2, rfl⟩ := exists_map a2
    have a1 : R.length = w.fs.length := by simpa using a1
    simp [Mach.d]
    refine ⟨by omega, lc_rel (fun _ r => ∃ bs : List Bool, bs.length = w.fs.length ∧ r = bL bs) rfl trivial (by rw [rg_len]; omega) ?_ fun acc b1 b2 => ?_⟩
    · intro k x hk
      obtain ⟨rfl, hk2⟩ := rg0 hk
      refine ⟨_, rfl, fun Q hQ => ?_⟩
      simp [wipeG] at hQ ⊢
      refine sts_rel rfl trivial (by rw [List.length_map]; omega) ?_ fun bs hb => ?_
      · intro k2 y hy
        obtain ⟨row, hrow, rfl⟩ := map_get hy
        have rl := r2 row (List.mem_of_getElem? hrow)
        obtain ⟨b, hb⟩ := bool_at (bs := row) (k := k) (by omega)
        refine ⟨_, rfl, fun Q2 hQ2 => ?_⟩
        have hQ2 := hQ2 b
        simp [wipeG, bL, hb] at hQ2 ⊢
        exact hQ2
      · refine hQ _ bs ?_ rfl
        rw [hb, List.length_map]
        exact a1
    · obtain ⟨H, h1, h2, rfl⟩ := exists_map b2
      rw [List.length_map, rg_len] at b1
      exact h H (by omega) h2
/-! ### number_of -/
theorem vc_number (x : D) (l : Addr) (ds : List D) (m : Addr) (kvs : Kvs) (k : NestedKey) (hk : keyOf true x = some k) (h1 : ds.length ≤ 1000000) (h2 : kvs.length ≤ 1000000) : ir_number_of [.im x, .ow l (.lst ds), .ow m (.dct true kvs)] (goalN l ds m kvs k x) := by
  simp [ir_number_of, hk]
  cases e : dlook kvs k with
  | some v => simp [hk, e, goalN, numV, numL, numD]
  | none => simp [hk, e, h1, h2, look_put, goalN, numV, numL, numD]
theorem num_mk {x : D} {i j : Nat} {G : Gm} {P : D → Gm → Prop} {l m : Addr} {ds : List D} {kvs : Kvs} {k : NestedKey} (hi : G[i]? = some (.ow l (.lst ds))) (hj : G[j]? = some (.ow m (.dct true kvs))) (hk : keyOf true x = some k) (h1 : ds.length ≤ 1000000) (h2 : kvs.length ≤ 1000000)
    (h : P (numV ds kvs k) ((G.set i (.ow l (.lst (numL ds kvs k x)))).set j (.ow m (.dct true (numD ds kvs k))))) : NumG x i j G P := by
  unfold NumG
  rw [hi, hj]
  dsimp only
  rw [hk]
  dsimp only
  unfold numV numL numD at h
  cases e : dlook kvs k with
  | some v =>
    rw [e] at h
    dsimp only at h ⊢
    rw [setSame hi, setSame hj] at h
    exact ⟨⟨h1, h2⟩, h⟩
  | none =>
    rw [e] at h
    exact ⟨⟨h1, h2⟩, h⟩
/-! ### track -/
abbrev Pr := Nat × List D
def prD (p : Pr) : D := .tuple [.int (p.1 : Int), .tuple p.2]
theorem app_key {x y : List D} : (∃ ks, keyNs x = some ks ∧ NestedKey.depthAll ks = 0) → (∃ ks, keyNs y = some ks ∧ NestedKey.depthAll ks = 0) → ∃ ks, keyNs (x ++ y) = some ks ∧ NestedKey.depthAll ks = 0 := by
  rintro ⟨ks, e, d⟩ ⟨ls, e2, d2⟩
  induction x generalizing ks with
  | nil => exact ⟨ls, e2, d2⟩
  | cons a r ih =>
    have e : (keyN a).bind (fun k => (keyNs r).map fun ks => k :: ks) = some ks := e
    obtain ⟨k, hk, e⟩ := Option.bind_eq_some_iff.mp e
    obtain ⟨ks', hks, rfl⟩ := Option.map_eq_some_iff.mp e
    have dd : k.depth = 0 ∧ NestedKey.depthAll ks' = 0 := by
      have q : max k.depth (NestedKey.depthAll ks') = 0 := by simpa [NestedKey.depthAll] using d
      omega
    obtain ⟨l2, f1, f2⟩ := ih ks' hks dd.2
    refine ⟨k :: l2, ?_, by simp [NestedKey.depthAll, dd.1, f2]⟩
    show (keyN a).bind (fun k => (keyNs (r ++ y)).map fun ks => k :: ks) = _
    rw [hk, f1]
    rfl
theorem mem_key : ∀ {w : Wish} {ms : List D}, MemOk w ms → ∃ ks, keyNs ms = some ks ∧ NestedKey.depthAll ks = 0
  | .fact _, _, ⟨b, rfl⟩ => ⟨_, rfl, by simp [NestedKey.depthAll, NestedKey.depth]⟩
  | .not w, _, h => mem_key (w := w) h
  | .and a b, _, ⟨x, y, rfl, h1, h2⟩ => app_key (mem_key h1) (mem_key h2)
  | .or a b, _, ⟨x, y, rfl, h1, h2⟩ => app_key (mem_key h1) (mem_key h2)
  | .since a b, _, ⟨c, x, y, rfl, h1, h2⟩ => by
    obtain ⟨ks, e, d⟩ := app_key (mem_key h1) (mem_key h2)
    exact ⟨_ :: ks, by show (keyN _).bind _ = _; rw [e]; rfl, by simp [NestedKey.depthAll, NestedKey.depth, d]⟩
  | .once w, _, ⟨c, x, rfl, h⟩ => by
    obtain ⟨ks, e, d⟩ := mem_key h
    exact ⟨_ :: ks, by show (keyN _).bind _ = _; rw [e]; rfl, by simp [NestedKey.depthAll, NestedKey.depth, d]⟩
  | .before w, _, ⟨c, x, rfl, h⟩ => by
    obtain ⟨ks, e, d⟩ := mem_key h
    exact ⟨_ :: ks, by show (keyN _).bind _ = _; rw [e]; rfl, by simp [NestedKey.depthAll, NestedKey.depth, d]⟩
  | .oncein k w, _, ⟨c, x, rfl, h⟩ => by
    obtain ⟨ks, e, d⟩ := mem_key h
    exact ⟨_ :: ks, by show (keyN _).bind _ = _; rw [e]; rfl, by simp [NestedKey.depthAll, NestedKey.depth, d]⟩
theorem pr_key {w : Wish} {s : Nat} {ms : List D} (h : MemOk w ms) : ∃ k, keyOf true (prD (s, ms)) = some k := by
  obtain ⟨ks, e, d⟩ := mem_key h
  refine ⟨.tup [.num (s : Int), .tup ks], ?_⟩
  have h3 : keyNs [.int (s : Int), .tuple ms] = some [.num (s : Int), .tup ks] := by
    show (keyN (.int (s : Int))).bind (fun k => (keyNs [.tuple ms]).map fun ks => k :: ks) = _
    have h1 : keyN (.tuple ms) = some (.tup ks) := by show (keyNs ms).map NestedKey.tup = _; rw [e]; rfl
    have : keyNs [.tuple ms] = some [.tup ks] := by
      show (keyN (.tuple ms)).bind (fun k => (keyNs []).map fun ks => k :: ks) = _
      rw [h1]; rfl
    rw [this]; rfl
  show ((keyNs [.int (s : Int), .tuple ms]).bind fun ks => if (NestedKey.tup ks).depth ≤ 8 then some (NestedKey.tup ks) else none) = _
  rw [h3]
  show (if _ then _ else _) = _
  rw [if_pos (by simp only [NestedKey.depth, NestedKey.depthAll, d]; decide)]
/-- the pairs so far -/
structure PrOk (N : Nat) (w : Wish) (H : List (List Bool)) (simple : Prop) (ps : List Pr) (kvs : Kvs) : Prop where
  st : ∀ p ∈ ps, p.1 < N ∧ MemOk w p.2
  kv : ∀ q d, dlook kvs q = some d → ∃ v : Nat, d = .int (v : Int) ∧ v < ps.length
  kn : kvs.length ≤ ps.length
  ke : ∀ p ∈ ps, ∀ k, keyOf true (prD p) = some k → (dlook kvs k).isSome = true
  de : simple → ∀ p ∈ ps, p.2 = [.bool ((H.getD p.1 []).getD 0 false)]
  nd : simple → (ps.map (·.1)).Nodup
def prL (ps : List Pr) (kvs : Kvs) (k : NestedKey) (p : Pr) : List Pr := match dlook kvs k with
  | some _ => ps
  | none => ps ++ [p]
theorem prL_map {ps : List Pr} {kvs : Kvs} {k : NestedKey} {p : Pr} : numL (ps.map prD) kvs k (prD p) = (prL ps kvs k p).map prD := by
  unfold numL prL
  cases dlook kvs k <;> simp
theorem pr_step {N : Nat} {w : Wish} {H : List (List Bool)} {simple : Prop} {ps : List Pr} {kvs : Kvs} {p : Pr} {k : NestedKey} (h : PrOk N w H simple ps kvs) (hk : keyOf true (prD p) = some k) (hp : p.1 < N ∧ MemOk w p.2) (hd : simple → p.2 = [.bool ((H.getD p.1 []).getD 0 false)]) :
    PrOk N w H simple (prL ps kvs k p) (numD (ps.map prD) kvs k) ∧ (∃ v : Nat, numV (ps.map prD) kvs k = .int (v : Int) ∧ v < (prL ps kvs k p).length) ∧ (∃ e, prL ps kvs k p = ps ++ e) ∧ (prL ps kvs k p).length ≤ ps.length + 1 := by
  unfold prL numD numV
  cases e : dlook kvs k with
  | some d =>
    obtain ⟨v, rfl, hv⟩ := h.kv k d e
    exact ⟨h, ⟨v, rfl, hv⟩, ⟨[], by simp⟩, by simp⟩
  | none =>
    refine ⟨⟨fun q hq => ?_, fun q d hq => ?_, ?_, fun q hq k' hk' => ?_, fun hs q hq => ?_, fun hs => ?_⟩, ⟨ps.length, by simp, by simp⟩, ⟨_, rfl⟩, by simp⟩
    · rcases List.mem_append.mp hq with z | z
      · exact h.st q z
      · rw [List.mem_singleton.mp z]; exact hp
    · dsimp only at hq
      rw [look_put] at hq
      split at hq
      · cases hq; exact ⟨ps.length, by simp, by simp⟩
      · obtain ⟨v, e1, e2⟩ := h.kv q d hq
        exact ⟨v, e1, by simp; omega⟩
    · have := h.kn
      dsimp only
      rw [put_len e]
      simp
      omega
    · dsimp only
      rw [look_put]
      split
      · rfl
      · rename_i c
        rcases List.mem_append.mp hq with z | z
        · exact h.ke q z k' hk'
        · rw [List.mem_singleton.mp z, hk] at hk'
          cases hk'
          exact absurd rfl c
    · rcases List.mem_append.mp hq with z | z
      · exact h.de hs q z
      · rw [List.mem_singleton.mp z]; exact hd hs
    · rw [List.map_append, List.nodup_append]
      refine ⟨h.nd hs, by simp, fun a ha b hb eab => ?_⟩
      have hb : b = p.1 := by simpa using hb
      obtain ⟨q, hq, rfl⟩ := List.mem_map.mp ha
      have eq : q = p := by
        have e1 := h.de hs q hq
        have e2 := hd hs
        have e3 : q.1 = p.1 := eab.trans hb
        rw [e3] at e1
        exact Prod.ext e3 (e1.trans e2.symm)
      have z := h.ke q hq k (by rw [eq]; exact hk)
      rw [e] at z
      cases z
end Wd

/-! C18: track. -/
namespace Wd
open PySem PySem.Spec PyProof.Rows L2
theorem hold_at {H : List (List Bool)} {s : Nat} (h : s < H.length) : atI (H.map bL) (s : Int) = some (bL (H.getD s [])) ∧ H.getD s [] ∈ H := by
  have e := List.getElem?_eq_getElem h
  rw [getD_some e]
  exact ⟨at_map e, List.getElem_mem h⟩
/-- what track hands out -/
def Mach.trk (M : Mach) (ps : List Pr) (L : List Nat) (E : List (List Nat)) (R : List Bool) : Trk := ⟨ps.map fun p => M.sts.getD p.1 [], ps.map fun p => .tuple p.2, L, E, R⟩
theorem trk_d {M : Mach} {ps : List Pr} {L : List Nat} {E : List (List Nat)} {R : List Bool} : (M.trk ps L E R).d = .tuple [.tuple (ps.map fun p => .tuple [eI (M.sts.getD p.1 []), .tuple p.2]), .tuple (nI L), .tuple (E.map fun r => .tuple (nI r)), .tuple (R.map .bool)] := by
  unfold Trk.d
  have e : (List.range (M.trk ps L E R).vals.length).map (M.trk ps L E R).mark = ps.map fun p => .tuple [eI (M.sts.getD p.1 []), .tuple p.2] := by
    refine List.ext_getElem? fun k => ?_
    have hl : (M.trk ps L E R).vals.length = ps.length := by show (ps.map _).length = _; rw [List.length_map]
    rw [List.getElem?_map, List.getElem?_map, hl]
    by_cases hk : k < ps.length
    · rw [List.getElem?_range hk, List.getElem?_eq_getElem hk]
      show some ((M.trk ps L E R).mark k) = some _
      unfold Trk.mark
      have e1 : (M.trk ps L E R).vals.getD k [] = M.sts.getD ps[k].1 [] := getD_some (by show (ps.map _)[k]? = _; rw [List.getElem?_map, List.getElem?_eq_getElem hk]; rfl)
      have e2 : (M.trk ps L E R).mems.getD k .none = .tuple ps[k].2 := getD_some (by show (ps.map _)[k]? = _; rw [List.getElem?_map, List.getElem?_eq_getElem hk]; rfl)
      rw [e1, e2]
    · rw [List.getElem?_eq_none (by rw [List.length_range]; omega), List.getElem?_eq_none (by omega)]
      rfl
  rw [e]
  rfl
theorem vc_track {hot : Bool} {r : Ss} {pm pf pn pl : FSp} {M : Mach} {w : Wish} {n most : Nat} {Pd : D → Prop} {Px : Prop} {simple : Prop} (hM : MkOk n M) (hmost : most ≤ 100) (hsl : M.starts.length ≤ 100)
    (hl : ∀ (P : D → Prop) (X : Prop), (∀ H : List (List Bool), H.length = M.sts.length → (∀ r ∈ H, r.length = w.fs.length) → P (.list (H.map bL))) → pl [M.d, w.d] P X)
    (hf : ∀ (bs : List Bool) (P : D → Prop) (X : Prop), bs.length = w.fs.length → (∀ ms, MemOk w ms → Det w bs ms → P (.tuple ms)) → pf [w.d, bL bs] P X)
    (hn : ∀ (ms : List D) (bs : List Bool) (P : D → Prop) (X : Prop), MemOk w ms → bs.length = w.fs.length → (∀ ms', MemOk w ms' → Det w bs ms' → P (.tuple ms')) → pn [w.d, .tuple ms, bL bs] P X)
    (hm : ∀ (ms : List D) (P : D → Prop) (X : Prop), MemOk w ms → (∀ b : Bool, P (.bool b)) → pm [w.d, .tuple ms] P X)
    (hs : simple → ∃ f, w = .fact f) (hr : (simple ∧ M.sts.length ≤ most) ∨ (r = sRaise ∧ hot = false ∧ Px))
    (h : ∀ T : Trk, TkOk n T → (∀ vs ∈ T.vals, vs ∈ M.sts) → Pd T.d) : irR_track r pm pf pn pl (start0 n_track.length [M.d, w.d, .int (most : Int)]) (goal hot Pd Px) := by
  have hz := hM.z
  have det : ∀ {bs : List Bool} {ms : List D}, Det w bs ms → simple → ms = [.bool (bs.getD 0 false)] := fun q s => let ⟨f, e⟩ := hs s; q f e
  simp [irR_track, start0, n_track]
  refine hl _ _ fun H h1 h2 => ?_
  simp
  refine asgL_own ?_
  simp
  intro l
  refine ⟨true, fun l2 => ?_⟩
  simp
  refine asgL_own ?_
  simp
  intro l3
  simp [Mach.d]
  refine for_gen (fun k G' => ∃ (a : Slot) (ps : List Pr) (kvs : Kvs) (L : List Nat), G' = [.im M.d, .im w.d, .im (.int (most : Int)), .im (.list (H.map bL)), .ow l (.lst (ps.map prD)), .ow l2 (.dct true kvs), .ow l3 (.lst (nI L)), a, .un, .un, .un, .un, .un, .un, .un] ∧ (a = .un ∨ ∃ x, a = .im x) ∧
      PrOk M.sts.length w H simple ps kvs ∧ ps.length ≤ k ∧ L.length = k ∧ ∀ v ∈ L, v < ps.length)
    ⟨_, [], [], [], rfl, .inl rfl, ⟨by simp, fun q d hq => by simp at hq, by simp, by simp, by simp, by simp⟩, by simp, rfl, by simp⟩ (fun _ _ _ _ => trivial) ?_ ?_
  · rintro J hJ k d G' hk ⟨a, ps, kvs, L, rfl, ha, B, pl1, Ll, Lb⟩
    obtain ⟨s, hs1, rfl⟩ := map_get hk
    have kl := (List.getElem?_eq_some_iff.mp hs1).1
    have sl := hM.ss s (List.mem_of_getElem? hs1)
    obtain ⟨q1, q2⟩ := hold_at (H := H) (s := s) (by omega)
    generalize hbs : H.getD s [] = bs at q1 q2
    have kn := B.kn
    simp [q1]
    refine hf bs _ _ (h2 bs q2) fun ms g1 g2 => ?_
    simp
    obtain ⟨key, hkey⟩ := pr_key (s := s) g1
    obtain ⟨B2, ⟨v, ev, vl⟩, ⟨ext, he⟩, len2⟩ := pr_step (p := (s, ms)) B hkey ⟨sl, g1⟩ (fun z => by rw [hbs]; exact det g2 z)
    refine num_mk (l := l) (m := l2) (ds := ps.map prD) (kvs := kvs) (k := key) rfl rfl hkey (by rw [List.length_map]; omega) (by omega) ?_
    rw [ev, show (PyData.tuple [.int (s : Int), .tuple ms]) = prD (s, ms) from rfl, prL_map]
    simp
    refine ⟨by rw [nI_len]; omega, hJ _ _ ⟨.im (.int (s : Int)), _, _, L ++ [v], by rw [nI_snoc], .inr ⟨_, rfl⟩, B2, by omega, by simp [Ll], fun x hx => ?_⟩⟩
    rcases List.mem_append.mp hx with z | z
    · have := Lb x z
      rw [he, List.length_append]; omega
    · rw [List.mem_singleton.mp z]; exact vl
  · rintro G' ⟨a, ps, kvs, L, rfl, ha, B, pl1, Ll, Lb⟩
    rw [nI_len] at pl1 Ll
    simp
    refine asgL_own ?_
    simp
    intro l4
    refine wh_gen (fun m G' => ∃ (a b c d e : Slot) (ps : List Pr) (kvs : Kvs) (E : List (List Nat)), G' = [.im M.d, .im w.d, .im (.int (most : Int)), .im (.list (H.map bL)), .ow l (.lst (ps.map prD)), .ow l2 (.dct true kvs), .ow l3 (.lst (nI L)), a, .ow l4 (.lst (E.map fun r => .tuple (nI r))), b, c, d, e, .un, .un] ∧
        m = most + 1 - E.length ∧ (a = .un ∨ ∃ x, a = .im x) ∧ (b = .un ∨ ∃ x, b = .im x) ∧ PrOk M.sts.length w H simple ps kvs ∧ ps.length ≤ 1000 ∧ (∀ v ∈ L, v < ps.length) ∧ E.length ≤ ps.length ∧ (∀ r ∈ E, r.length ≤ 900 ∧ ∀ v ∈ r, v < ps.length) ∧ (ps.length ≤ most + 900))
      (most + 1) ⟨a, _, _, _, _, ps, kvs, [], rfl, rfl, ha, .inl rfl, B, by omega, Lb, by simp, by simp, by omega⟩ ?_
    clear B pl1 Lb ha
    rintro J m G' ⟨a, b, c, d, e, ps, kvs, E, rfl, rfl, ha, hb, B, pz, Lb, el, Eb, pm2⟩ hJ
    by_cases c1 : E.length < ps.length ∧ ps.length ≤ most
    · obtain ⟨c1, c2⟩ := c1
      have c1' : (E.length : Int) < (ps.length : Int) := by omega
      have c2' : (ps.length : Int) ≤ (most : Int) := by omega
      have e1 := List.getElem?_eq_getElem c1
      generalize ps[E.length] = p at e1
      obtain ⟨s, ms⟩ := p
      obtain ⟨st1, st2⟩ := B.st _ (List.mem_of_getElem? e1)
      obtain ⟨row, hrow, r1, r2⟩ := mstep_at hM st1
      simp [c1', c2', at_map e1, prD, setTg, setMany]
      refine asgL_own ?_
      simp
      intro l5
      simp [Mach.d, at_map (f := fun r => PyData.tuple (nI r)) hrow]
      refine for_gen (fun k G' => ∃ (d e : Slot) (ext : List Pr) (kvs : Kvs) (R : List Nat), G' = [.im M.d, .im w.d, .im (.int (most : Int)), .im (.list (H.map bL)), .ow l (.lst ((ps ++ ext).map prD)), .ow l2 (.dct true kvs), .ow l3 (.lst (nI L)), .im (.int (s : Int)), .ow l4 (.lst (E.map fun r => .tuple (nI r))), .im (.tuple ms), .ow l5 (.lst (nI R)), d, e, .un, .un] ∧
          PrOk M.sts.length w H simple (ps ++ ext) kvs ∧ ext.length ≤ k ∧ R.length = k ∧ ∀ v ∈ R, v < (ps ++ ext).length)
        ⟨_, _, [], kvs, [], by rw [List.append_nil]; rfl, by rw [List.append_nil]; exact B, by simp, rfl, by simp⟩ (fun _ _ _ _ => trivial) ?_ ?_
      · rintro J2 hJ2 k dd G' hk ⟨d, e, ext, kvs, R, rfl, B2, xl, Rl, Rb⟩
        obtain ⟨s2, hs2, rfl⟩ := map_get hk
        have kl := (List.getElem?_eq_some_iff.mp hs2).1
        have sl := r2 s2 (List.mem_of_getElem? hs2)
        obtain ⟨q1, q2⟩ := hold_at (H := H) (s := s2) (by omega)
        generalize hbs : H.getD s2 [] = bs at q1 q2
        have kn := B2.kn
        have pl3 : (ps ++ ext).length ≤ 2000 := by rw [List.length_append]; omega
        simp [q1, -List.map_append]
        refine hn ms bs _ _ st2 (h2 bs q2) fun ms' g1 g2 => ?_
        simp [-List.map_append]
        obtain ⟨key, hkey⟩ := pr_key (s := s2) g1
        obtain ⟨B3, ⟨v, ev, vl⟩, ⟨ext2, he⟩, len2⟩ := pr_step (p := (s2, ms')) B2 hkey ⟨sl, g1⟩ (fun z => by rw [hbs]; exact det g2 z)
        refine num_mk (l := l) (m := l2) (ds := (ps ++ ext).map prD) (kvs := kvs) (k := key) rfl rfl hkey (by rw [List.length_map]; omega) (by omega) ?_
        rw [ev, show (PyData.tuple [.int (s2 : Int), .tuple ms']) = prD (s2, ms') from rfl, prL_map, he]
        rw [he] at B3 vl len2
        simp [-List.map_append]
        rw [List.append_assoc] at B3 vl len2
        simp only [List.length_append] at len2
        refine ⟨by rw [nI_len]; omega, hJ2 _ _ ⟨.im (.int (s2 : Int)), .im (prD (s2, ms')), ext ++ ext2, _, R ++ [v], by rw [nI_snoc], B3, by rw [List.length_append]; omega, by simp [Rl], fun x hx => ?_⟩⟩
        rcases List.mem_append.mp hx with z | z
        · have := Rb x z
          simp only [List.length_append] at this ⊢
          omega
        · rw [List.mem_singleton.mp z]; exact vl
      · rintro G' ⟨d, e, ext, kvs, R, rfl, B2, xl, Rl, Rb⟩
        rw [nI_len] at xl Rl
        simp [-List.map_append]
        refine ⟨by omega, hJ (most + 1 - (E.length + 1)) _ (by omega) ⟨.im (.int (s : Int)), .im (.tuple ms), .ow l5 (.lst (nI R)), d, e, ps ++ ext, kvs, E ++ [R], by simp, by simp, .inr ⟨_, rfl⟩, .inr ⟨_, rfl⟩, B2, by rw [List.length_append]; omega, fun x hx => ?_, by rw [List.length_append, List.length_append]; simp; omega, fun r' hr' => ?_, by rw [List.length_append]; omega⟩⟩
        · have := Lb x hx
          rw [List.length_append]; omega
        · rcases List.mem_append.mp hr' with z | z
          · obtain ⟨z1, z2⟩ := Eb r' z
            exact ⟨z1, fun x hx => by have := z2 x hx; rw [List.length_append]; omega⟩
          · rw [List.mem_singleton.mp z]
            exact ⟨by omega, Rb⟩
    · -- the loop is over
      have over : (Ps : Prop) → (¬ (E.length : Int) < (ps.length : Int) → (ps.length : Int) ≤ (most : Int) → Ps) → ((most : Int) < (ps.length : Int) → Ps) → Ps := fun Ps p1 p2 => by
        by_cases z : ps.length ≤ most
        · exact p1 (fun y => c1 ⟨by omega, z⟩) (by omega)
        · exact p2 (by omega)
      refine over _ (fun t1 t2 => ?_) fun t1 => ?_
      · have t3 : ¬ (most : Int) < (ps.length : Int) := by omega
        have ee : E.length = ps.length := by omega
        simp [t1, t3]
        have pst := B.st
        refine lc_rel (fun k x => ∃ p : Pr, (ps[k]? = some p) ∧ x = .tuple [eI (M.sts.getD p.1 []), .tuple p.2]) (by rcases ha with rfl | ⟨x, rfl⟩ <;> rcases hb with rfl | ⟨y, rfl⟩ <;> rfl) (by simp [wipeG]) (by rw [List.length_map]; omega) ?_ fun acc a1 a2 => ?_
        · intro k x hk
          obtain ⟨p, hp, rfl⟩ := map_get hk
          obtain ⟨s, ms⟩ := p
          obtain ⟨st1, st2⟩ := pst _ (List.mem_of_getElem? hp)
          have e5 := List.getElem?_eq_getElem (l := M.sts) (i := s) st1
          refine ⟨_, rfl, fun Q hQ => ?_⟩
          have hQ := hQ _ ⟨_, hp, rfl⟩
          rw [getD_some e5] at hQ
          simp [wipeG, Mach.d, at_map e5] at hQ ⊢
          exact hQ
        · have ea : acc = ps.map fun p => .tuple [eI (M.sts.getD p.1 []), .tuple p.2] := by
            refine List.ext_getElem? fun k => ?_
            rw [List.length_map] at a1
            rw [List.getElem?_map]
            cases e : acc[k]? with
            | none =>
              have := List.getElem?_eq_none_iff.mp e
              rw [List.getElem?_eq_none (by omega)]
              rfl
            | some x =>
              obtain ⟨p, q1, q2⟩ := a2 k x e
              rw [q1, q2]
              rfl
          rw [ea]
          generalize hMk : (ps.map fun p => PyData.tuple [eI (M.sts.getD p.1 []), .tuple p.2]) = mk
          simp
          refine sts_rel (by rcases ha with rfl | ⟨x, rfl⟩ <;> rcases hb with rfl | ⟨y, rfl⟩ <;> rfl) (by simp [wipeG]) (by rw [List.length_map]; omega) ?_ fun bs hb2 => ?_
          · intro k x hk
            obtain ⟨p, hp, rfl⟩ := map_get hk
            obtain ⟨s, ms⟩ := p
            obtain ⟨st1, st2⟩ := pst _ (List.mem_of_getElem? hp)
            refine ⟨_, rfl, fun Q hQ => ?_⟩
            simp [wipeG] at hQ ⊢
            exact hm ms _ _ st2 fun b => by cases b; exact hQ.1; exact hQ.2
          · rw [List.length_map] at hb2
            simp [bL]
            have fin := h (M.trk ps L E bs) ?_ ?_
            · rw [trk_d, hMk] at fin
              exact fin
            · have vl : (M.trk ps L E bs).vals.length = ps.length := by show (ps.map _).length = _; rw [List.length_map]
              refine ⟨by omega, by rw [vl]; exact ee, by rw [vl]; exact hb2, fun vs hvs => ?_, ?_, by rw [vl]; exact Lb, fun r' hr' => (Eb r' hr').1, by rw [vl]; exact fun r' hr' => (Eb r' hr').2⟩
              · obtain ⟨p, hp, rfl⟩ := List.mem_map.mp hvs
                have e5 := List.getElem?_eq_getElem (l := M.sts) (i := p.1) (pst p hp).1
                rw [getD_some e5]
                exact hM.va _ (List.mem_of_getElem? e5)
              · show L.length ≤ 1000
                rw [Ll]
                omega
            · intro vs hvs
              obtain ⟨p, hp, rfl⟩ := List.mem_map.mp hvs
              have e5 := List.getElem?_eq_getElem (l := M.sts) (i := p.1) (pst p hp).1
              rw [getD_some e5]
              exact List.mem_of_getElem? e5
      · have t2 : ¬ (ps.length : Int) ≤ (most : Int) := by omega
        rcases hr with ⟨z1, z2⟩ | ⟨rfl, z1, z2⟩
        · exfalso
          have := nodup_len (B.nd z1) (n := M.sts.length) fun x hx => by
            obtain ⟨p, hp, rfl⟩ := List.mem_map.mp hx
            exact (B.st p hp).1
          rw [List.length_map] at this
          omega
        · by_cases t4 : (E.length : Int) < (ps.length : Int)
          · simp [t1, t2, t4]
            exact ⟨z1, z2⟩
          · simp [t1, t4]
            exact ⟨z1, z2⟩
end Wd

/-! C19: the law's draws, terms, conditions, moves. -/
namespace Wd
open PySem PySem.Spec PyProof.Rows L2
/-- the script, a locked list -/
def scD (ns : List Int) : D := .dict (ns.map fun i => (.int i, .none))
theorem sc_keys (ns : List Int) : (ns.map fun i => ((.int i, .none) : D × D)).map (·.1) = ns.map PyData.int := by rw [List.map_map]; rfl
def spCell : FSp := fun ds P _ => ∃ (ns : List Int) (k : Int), ds = [scD ns, .int k] ∧ 0 ≤ k ∧ ∀ c : Int, P (.int c)
theorem vc_cell (ds : List D) (Pd : D → Prop) (Px : Prop) (h : spCell ds Pd Px) : ir_law_cell (start0 n_law_cell.length ds) (goal false Pd Px) := by
  obtain ⟨ns, k, rfl, hk, h⟩ := h
  by_cases c : k < (ns.length : Int)
  · obtain ⟨x, e, _, hx⟩ := at_some (l := ns.map PyData.int) hk (by rw [List.length_map]; exact c)
    obtain ⟨y, _, rfl⟩ := List.mem_map.mp hx
    have e' : atI ((ns.map fun i => ((.int i, .none) : D × D)).map (·.1)) k = some (.int y) := by rw [sc_keys]; exact e
    rw [List.map_map] at e'
    simp [ir_law_cell, start0, n_law_cell, scD, c, e']
    exact h _
  · simp [ir_law_cell, start0, n_law_cell, scD, c]
    exact h _
def iL (l : List Int) : D := .list (l.map .int)
/-- digits of these sizes -/
def DgOk (sz rs : List Int) : Prop := rs.length = sz.length ∧ ∀ (i : Nat) r s, rs[i]? = some r → sz[i]? = some s → 0 ≤ r ∧ r < s
def spDraw : FSp := fun ds P _ => ∃ (ns : List Int) (k : Int) (sz : List Int), ds = [scD ns, .int k, iL sz] ∧ 0 ≤ k ∧ sz.length ≤ 1000 ∧ (∀ s ∈ sz, 1 ≤ s ∧ s ≤ 1000) ∧ ∀ rs, DgOk sz rs → P (iL rs)
theorem dg_snoc {sz rs : List Int} {k : Nat} {r s : Int} (h : DgOk (sz.take k) rs) (hs : sz[k]? = some s) (h0 : 0 ≤ r) (h1 : r < s) : DgOk (sz.take (k + 1)) (rs ++ [r]) := by
  have hk := (List.getElem?_eq_some_iff.mp hs).1
  have tl : (sz.take k).length = k := by rw [List.length_take]; omega
  have rl : rs.length = k := by rw [h.1, tl]
  rw [take_snoc hs]
  refine ⟨by simp [rl, tl], fun i x y hx hy => ?_⟩
  by_cases c : i < k
  · rw [List.getElem?_append_left (by omega)] at hx hy
    exact h.2 i x y hx hy
  · rw [List.getElem?_append_right (by omega)] at hx hy
    have : i - rs.length = 0 := by
      cases z : i - rs.length with
      | zero => rfl
      | succ n => rw [z] at hx; simp at hx
    rw [this] at hx
    have : i - (sz.take k).length = 0 := by omega
    rw [this] at hy
    simp at hx hy
    subst hx hy
    exact ⟨h0, h1⟩
theorem vc_draw (ds : List D) (Pd : D → Prop) (Px : Prop) (h : spDraw ds Pd Px) : ir_law_draw spCell (start0 n_law_draw.length ds) (goal false Pd Px) := by
  obtain ⟨ns, k, sz, rfl, hk, hz, hs, h⟩ := h
  have cp : CPow 10 18 := ⟨by decide, by decide, by decide⟩
  have cm : CMul 31 k := .inl ⟨by decide, by decide⟩
  have il : ∀ rs : List Int, (rs.map PyData.int).length = rs.length := fun rs => List.length_map _
  simp [ir_law_draw, start0, n_law_draw]
  refine ⟨ns, k, rfl, hk, fun c => ?_⟩
  -- behind the sign
  have main : ∀ c : Int, (sSeq (sAsgL 4 (eLst aNil)) (sSeq (sIf (tCmp .GtE (eVar 3) (eBin .Pow (eC (.int 10)) (eC (.int 18)))) (sSeq (sAsg 3 (eBin .Sub (eVar 3) (eBin .Pow (eC (.int 10)) (eC (.int 18))))) (sSeq (sFor 5 (iName 2) (sSeq (sApp 4 (eBin .Mod (eVar 3) (eVar 5))) (sAsg 3 (eBin .FloorDiv (eVar 3) (eVar 5))))) (sRet (eVar 4)))) sNop) (sSeq (sAsg 6 (eBin .Mod (eBin .Add (eBin .Add (eVar 3) (eC (.int 1))) (eBin .Mult (eC (.int 31)) (eVar 1))) (eC (.int 2147483647)))) (sSeq (sFor 7 (iR1 (eLenN 2)) (sSeq (sAsg 6 (eBin .Mod (eBin .Add (eBin .Add (eBin .Mult (eVar 6) (eC (.int 48271))) (eC (.int 11))) (eVar 7)) (eC (.int 2147483647)))) (sSeq (sAsg 6 (eBin .Mod (eBin .Add (eBin .Mult (eVar 6) (eC (.int 69621))) (eC (.int 3))) (eC (.int 2147483647)))) (sApp 4 (eBin .Mod (eBin .FloorDiv (eVar 6) (eC (.int 7))) (eIxN 2 (eVar 7))))))) (sRet (eVar 4))))))
      [.im (scD ns), .im (.int k), .im (iL sz), .im (.int c), .un, .un, .un, .un] (goal false Pd Px) := fun c => by
    simp
    refine asgL_own ?_
    simp
    intro l
    simp [cp]
    split
    · simp [cp, iL]
      refine for_gen (fun k2 G' => ∃ (c : Int) (a : Slot) (rs : List Int), G' = [.im (scD ns), .im (.int k), .im (iL sz), .im (.int c), .ow l (.lst (rs.map .int)), a, .un, .un] ∧ DgOk (sz.take k2) rs) ⟨_, _, [], rfl, rfl, by simp⟩ (fun _ _ _ _ => trivial) ?_ ?_
      · rintro J hJ k2 d G' hk2 ⟨c, a, rs, rfl, hd⟩
        obtain ⟨s, hs1, rfl⟩ := map_get hk2
        obtain ⟨s1, s2⟩ := hs s (List.mem_of_getElem? hs1)
        have rl : rs.length ≤ 1000 := by rw [hd.1, List.length_take]; omega
        have cd : CDiv c s := ⟨by omega, by omega⟩
        simp [cd]
        refine ⟨by omega, by omega, hJ _ _ ⟨c / s, .im (.int s), rs ++ [c % s], by simp [iL], dg_snoc hd hs1 (Int.emod_nonneg _ (by omega)) (Int.emod_lt_of_pos _ (by omega))⟩⟩
      · rintro G' ⟨c, a, rs, rfl, hd⟩
        rw [il, List.take_length] at hd
        simp
        exact h rs hd
    · simp [cm, iL]
      refine ⟨by omega, for_gen (fun k2 G' => ∃ (c2 : Int) (a : Slot) (rs : List Int), G' = [.im (scD ns), .im (.int k), .im (iL sz), .im (.int c), .ow l (.lst (rs.map .int)), .un, .im (.int c2), a] ∧ DgOk (sz.take k2) rs) ⟨_, _, [], rfl, rfl, by simp⟩ (fun _ _ _ _ => trivial) ?_ ?_⟩
      · rintro J hJ k2 d G' hk2 ⟨c2, a, rs, rfl, hd⟩
        obtain ⟨rfl, hk3⟩ := rg0 hk2
        have hs1 := List.getElem?_eq_getElem (l := sz) (i := k2) (by omega)
        generalize sz[k2]'(by omega) = s at hs1
        obtain ⟨s1, s2⟩ := hs s (List.mem_of_getElem? hs1)
        have rl : rs.length ≤ 1000 := by rw [hd.1, List.length_take]; omega
        have m1 : ∀ x : Int, CMul x 48271 := fun x => .inr ⟨by decide, by decide⟩
        have m2 : ∀ x : Int, CMul x 69621 := fun x => .inr ⟨by decide, by decide⟩
        have d7 : ∀ x : Int, CDiv x 7 := fun x => ⟨by decide, by decide⟩
        simp [m1, m2, d7, iL, at_map (f := PyData.int) hs1]
        refine ⟨by omega, by omega, hJ _ _ ⟨((c2 * 48271 + 11 + (k2 : Int)) % 2147483647 * 69621 + 3) % 2147483647, .im (.int (k2 : Int)), rs ++ [((c2 * 48271 + 11 + (k2 : Int)) % 2147483647 * 69621 + 3) % 2147483647 / 7 % s], by simp [iL], dg_snoc hd hs1 (Int.emod_nonneg _ (by omega)) (Int.emod_lt_of_pos _ (by omega))⟩⟩
      · rintro G' ⟨c2, a, rs, rfl, hd⟩
        rw [rg_len] at hd
        have : ((sz.length : Int) - 0).toNat = sz.length := by omega
        rw [this, List.take_length] at hd
        simp
        exact h rs hd
  have main1 := main (-c)
  have main2 := main c
  revert main1 main2
  clear main
  generalize (sSeq (sAsgL 4 (eLst aNil)) _) = rest
  intro main1 main2
  simp
  split
  · exact main1
  · exact main2
end Wd

/-! C20: the law's terms, conditions, moves, sensors. -/
namespace Wd
open PySem PySem.Spec PyProof.Rows L2
/-- digits -/
def Dg (dg : List Int) : Prop := ∀ x ∈ dg, 0 ≤ x ∧ x ≤ 1000
theorem dig_at {dg : List Int} {i : Int} (h : Dg dg) (h0 : 0 ≤ i) (h1 : i < dg.length) : ∃ x : Int, atI (dg.map PyData.int) i = some (.int x) ∧ 0 ≤ x ∧ x ≤ 1000 := by
  obtain ⟨y, e, _, hy⟩ := at_some (l := dg.map PyData.int) h0 (by rw [List.length_map]; exact h1)
  obtain ⟨x, hx, rfl⟩ := List.mem_map.mp hy
  exact ⟨x, e, h x hx⟩
theorem mod_nat {x : Int} {m : Nat} (hm : 0 < m) : ∃ v : Nat, x % (m : Int) = (v : Int) ∧ v < m := by
  have h0 := Int.emod_nonneg x (b := (m : Int)) (by omega)
  have h1 := Int.emod_lt_of_pos x (b := (m : Int)) (by omega)
  obtain ⟨v, hv⟩ := Int.eq_ofNat_of_zero_le h0
  exact ⟨v, hv, by omega⟩
def spTerm : FSp := fun ds P _ => ∃ (dg : List Int) (at_ : Int) (m : Nat), ds = [iL dg, .int at_, .int (m : Int)] ∧ Dg dg ∧ 0 ≤ at_ ∧ at_ + 2 < dg.length ∧ 0 < m ∧ ∀ t, TOk m 2 t → P t.d
theorem vc_term (ds : List D) (Pd : D → Prop) (Px : Prop) (h : spTerm ds Pd Px) : ir_law_term (start0 n_law_term.length ds) (goal false Pd Px) := by
  obtain ⟨dg, a, m, rfl, hd, h0, h1, hm, h⟩ := h
  obtain ⟨x0, e0, _, _⟩ := dig_at hd h0 (by omega)
  obtain ⟨x1, e1, _, _⟩ := dig_at hd (i := a + 1) (by omega) (by omega)
  obtain ⟨x2, e2, _, _⟩ := dig_at hd (i := a + 2) (by omega) (by omega)
  obtain ⟨v, ev, hv⟩ := mod_nat (x := x1) hm
  obtain ⟨u, eu, hu⟩ := mod_nat (x := x2) hm
  have q0 := Int.emod_nonneg x2 (b := 4) (by decide)
  have q1 := Int.emod_lt_of_pos x2 (b := 4) (by decide)
  have pm : (0 : Int) < (m : Int) := by omega
  generalize hn : x2 % 4 - 1 = nn
  have nb : -20 ≤ nn ∧ nn ≤ 20 := by omega
  have r1 := h (.num nn) nb
  have r2 := h (.bin .add (.var v) (.num nn)) ⟨hv, nb⟩
  have r3 := h (.bin .sub (.num nn) (.var v)) ⟨nb, hv⟩
  have r4 := h (.bin .min (.bin .add (.var v) (.num 1)) (.num nn)) ⟨⟨hv, by show -20 ≤ (1 : Int) ∧ (1 : Int) ≤ 20; omega⟩, nb⟩
  have r5 := h (.bin .max (.var v) (.num nn)) ⟨hv, nb⟩
  have r6 := h (.bin .mul (.num nn) (.var v)) ⟨nb, hv⟩
  have r7 := h (.neg (.var u)) hu
  have r8 := h (.bin .sub (.var v) (.var u)) ⟨hv, hu⟩
  have r9 := h (.var v) hv
  simp only [Trm.d, Op.s] at r1 r2 r3 r4 r5 r6 r7 r8 r9
  simp [ir_law_term, start0, n_law_term, iL, e0, e1, e2, ev, hn, hm, eu]
  repeat' split
  all_goals first
    | exact r1
    | exact r2
    | exact r3
    | exact r4
    | exact r5
    | exact r6
    | exact r7
    | exact r8
    | exact r9
def spCond : FSp := fun ds P _ => ∃ (dg : List Int) (at_ : Int) (m : Nat), ds = [iL dg, .int at_, .int (m : Int)] ∧ Dg dg ∧ 0 ≤ at_ ∧ at_ + 6 < dg.length ∧ 0 < m ∧ ∀ c, COk m 3 c → P c.d
theorem tok_up {n : Nat} : ∀ {d : Nat} {t : Trm}, TOk n d t → TOk n (d + 1) t
  | 0, .num _, h => h
  | 0, .var _, h => h
  | d + 1, .num _, h => h
  | d + 1, .var _, h => h
  | d + 1, .neg t, h => tok_up (d := d) (t := t) h
  | d + 1, .bin _ l r, h => ⟨tok_up (d := d) (t := l) h.1, tok_up (d := d) (t := r) h.2⟩
theorem vc_cond (ds : List D) (Pd : D → Prop) (Px : Prop) (h : spCond ds Pd Px) : ir_law_condition spTerm (start0 n_law_condition.length ds) (goal false Pd Px) := by
  obtain ⟨dg, a, m, rfl, hd, h0, h1, hm, h⟩ := h
  obtain ⟨x0, e0, _, _⟩ := dig_at hd h0 (by omega)
  obtain ⟨x1, e1, _, _⟩ := dig_at hd (i := a + 5) (by omega) (by omega)
  obtain ⟨x2, e2, _, _⟩ := dig_at hd (i := a + 6) (by omega) (by omega)
  obtain ⟨v, ev, hv⟩ := mod_nat (x := x1) hm
  have q0 := Int.emod_nonneg x2 (b := 3) (by decide)
  have q1 := Int.emod_lt_of_pos x2 (b := 3) (by decide)
  have pm : (0 : Int) < (m : Int) := by omega
  generalize hn : x2 % 3 - 1 = nn
  have nb : -20 ≤ nn ∧ nn ≤ 20 := by omega
  simp [ir_law_condition, start0, n_law_condition]
  simp only [iL]
  simp [e0]
  refine ⟨dg, a + 1, m, rfl, hd, by omega, by omega, hm, fun t ht => ?_⟩
  simp
  refine ⟨dg, a + 4, m, rfl, hd, by omega, by omega, hm, fun t2 ht2 => ?_⟩
  have T1 := tok_up ht
  have T2 := tok_up ht2
  have S1 : TOk m 3 (.var v) := hv
  have S2 : TOk m 3 (.num nn) := nb
  have r1 := h .tru trivial
  have r2 := h (.less t t2) ⟨T1, T2⟩
  have r3 := h (.same (.var v) (.num nn)) ⟨S1, S2⟩
  have r4 := h (.not (.less t t2)) ⟨T1, T2⟩
  have r5 := h (.or (.less t t2) (.same (.var v) (.num nn))) ⟨⟨T1, T2⟩, S1, S2⟩
  have r6 := h (.and (.not (.same (.var v) (.num nn))) (.or (.less t t2) .fls)) ⟨⟨S1, S2⟩, ⟨T1, T2⟩, trivial⟩
  simp only [Cd.d, Trm.d] at r1 r2 r3 r4 r5 r6
  simp [iL, e1, e2, ev, hn, hm]
  repeat' split
  all_goals first
    | exact r1
    | exact r2
    | exact r3
    | exact r4
    | exact r5
    | exact r6
/-! ### plants -/
structure Vr where
  nm : Str
  a : Int
  b : Int
  lo : Int
  hi : Int
def Vr.d (v : Vr) : D := .tuple [.str v.nm, .int v.a, .int v.b, .int v.lo, .int v.hi]
def VrOk (v : Vr) : Prop := -1 ≤ v.a ∧ v.a ≤ v.lo ∧ v.lo ≤ v.hi ∧ v.hi ≤ v.b ∧ v.b ≤ v.a + 2 ∧ v.a ≤ 1
structure Stg where
  i : Nat
  lo : Trm
  hi : Trm
def Stg.d (s : Stg) : D := .tuple [.int (s.i : Int), s.lo.d, s.hi.d]
def StgOk (n : Nat) (s : Stg) : Prop := TOk n 3 s.lo ∧ TOk n 3 s.hi
structure Mv where
  nm : Str
  c : Cd
  ss : List Stg
def Mv.d (m : Mv) : D := .tuple [.str m.nm, m.c.d, .tuple (m.ss.map Stg.d)]
def MvOk (n : Nat) (m : Mv) : Prop := COk n 3 m.c ∧ m.ss.length ≤ 10 ∧ ∀ s ∈ m.ss, StgOk n s
structure Pt where
  nm : Str
  i : Nat
  k : Nat
  ms : List Mv
def Pt.d (p : Pt) : D := .tuple [.str p.nm, .int (p.i : Int), .int (p.k : Int), .tuple (p.ms.map Mv.d)]
def PtOk (n : Nat) (p : Pt) : Prop := p.i + p.k ≤ n ∧ 1 ≤ p.k ∧ p.k ≤ 2 ∧ p.ms.length ≤ 4 ∧ ∀ m ∈ p.ms, MvOk n m
structure Pl where
  vs : List Vr
  ps : List Pt
  ss : List Sens
def Pl.d (p : Pl) : D := pD (.tuple (p.vs.map Vr.d)) (.tuple (p.ps.map Pt.d)) p.ss
/-- the parts lie one behind the other -/
def Seg : Nat → List Pt → Nat → Prop
  | a, [], b => a = b
  | a, p :: ps, b => p.i = a ∧ Seg (a + p.k) ps b
structure PlOk (p : Pl) : Prop where
  n1 : 1 ≤ p.vs.length
  n5 : p.vs.length ≤ 5
  v : ∀ v ∈ p.vs, VrOk v
  pt : ∀ q ∈ p.ps, PtOk p.vs.length q
  pz : p.ps.length ≤ 3
  seg : Seg 0 p.ps p.vs.length
  s : ∀ s ∈ p.ss, SOk p.vs.length s
  sz : p.ss.length ≤ 2
def spMove : FSp := fun ds P _ => ∃ (ns : List Int) (k a : Int) (f c m : Nat), ds = [scD ns, .int k, .int a, .int (f : Int), .int (c : Int), .int (m : Int)] ∧ 0 ≤ k ∧ 0 ≤ a ∧ a ≤ 100 ∧ c ≤ 2 ∧ 0 < m ∧ ∀ mv, MvOk m mv → P mv.d
theorem dg_of {n : Nat} {c : Int} {rs : List Int} (h : DgOk (List.replicate n c) rs) (hc : c ≤ 1000) : Dg rs ∧ rs.length = n := by
  obtain ⟨h1, h2⟩ := h
  rw [List.length_replicate] at h1
  refine ⟨fun x hx => ?_, h1⟩
  obtain ⟨i, hi⟩ := List.mem_iff_getElem?.mp hx
  have il := (List.getElem?_eq_some_iff.mp hi).1
  have := h2 i x c hi (by rw [List.getElem?_replicate, if_pos (by omega)])
  omega
theorem str1 {t : Str} {s : String} (h : t.length ≤ 20) (hs : (Str.ofString s).length ≤ 10) : (Str.ofString s).length + t.length ≤ 100000 := by omega
theorem vc_move (ds : List D) (Pd : D → Prop) (Px : Prop) (h : spMove ds Pd Px) : ir_law_move spDraw spTerm spCond (start0 n_law_move.length ds) (goal false Pd Px) := by
  obtain ⟨ns, k, a, f, c, m, rfl, hk, ha, ha2, hc, hm, h⟩ := h
  simp [ir_law_move, start0, n_law_move]
  refine ⟨ns, k, List.replicate 24 9, rfl, hk, by simp, fun s hs => by rw [List.eq_of_mem_replicate hs]; decide, fun rs hrs => ?_⟩
  obtain ⟨hd, hl⟩ := dg_of hrs (by decide)
  simp
  refine asgL_own ?_
  simp
  intro l
  refine ⟨by omega, ?_⟩
  refine for_gen (fun k2 G' => ∃ (x y z : Slot) (S : List Stg), G' = [.im (scD ns), .im (.int k), .im (.int a), .im (.int (f : Int)), .im (.int (c : Int)), .im (.int (m : Int)), .im (iL rs), .ow l (.lst (S.map Stg.d)), x, y, z] ∧ S.length ≤ k2 ∧ ∀ s ∈ S, StgOk m s) ⟨_, _, _, [], rfl, by simp, by simp⟩ (fun _ _ _ _ => trivial) ?_ ?_
  · rintro J hJ k2 d G' hk2 ⟨x, y, z, S, rfl, hS, hs⟩
    obtain ⟨rfl, hk3⟩ := rg0 hk2
    obtain ⟨x0, e0, _, _⟩ := dig_at hd (i := 7 + (k2 : Int)) (by omega) (by omega)
    obtain ⟨x1, e1, _, _⟩ := dig_at hd (i := 12 + 6 * (k2 : Int)) (by omega) (by omega)
    have cm : CMul 6 (k2 : Int) := .inl ⟨by decide, by decide⟩
    simp only [iL]
    simp [e0]
    split
    · exact hJ _ _ ⟨_, _, _, S, rfl, by omega, hs⟩
    · simp [cm]
      refine ⟨rs, 9 + 6 * (k2 : Int), m, rfl, hd, by omega, by omega, hm, fun t ht => ?_⟩
      simp [e0]
      have T1 := tok_up ht
      have q0 := Int.emod_nonneg x1 (b := 3) (by decide)
      have q1 := Int.emod_lt_of_pos x1 (b := 3) (by decide)
      split
      · have SO : StgOk m ⟨f + k2, t, .bin .add t (.num (x1 % 3))⟩ := ⟨T1, ht, by show -20 ≤ _ ∧ _ ≤ 20; omega⟩
        simp [cm, e1]
        refine ⟨by omega, hJ _ _ ⟨.im (.int (k2:Int)), .im t.d, .im (.tuple [.str (Str.ofString "add"), t.d, .tuple [.str (Str.ofString "num"), .int (x1 % 3)]]), S ++ [⟨f + k2, t, .bin .add t (.num (x1 % 3))⟩], by simp [Stg.d, Trm.d, Op.s, iL], by simp; omega, fun s h' => ?_⟩⟩
        rcases List.mem_append.mp h' with z | z
        · exact hs s z
        · rw [List.mem_singleton.mp z]; exact SO
      · have SO : StgOk m ⟨f + k2, t, t⟩ := ⟨T1, T1⟩
        refine ⟨by omega, hJ _ _ ⟨.im (.int (k2:Int)), .im t.d, .im t.d, S ++ [⟨f + k2, t, t⟩], by simp [Stg.d, iL], by simp; omega, fun s h' => ?_⟩⟩
        rcases List.mem_append.mp h' with z | z
        · exact hs s z
        · rw [List.mem_singleton.mp z]; exact SO
  · rintro G' ⟨x, y, z, S, rfl, hS, hs⟩
    have hS : S.length ≤ 10 := by
      have : (rgD 0 (c : Int)).length = c := by rw [rg_len]; omega
      omega
    obtain ⟨x0, e0, _, _⟩ := dig_at hd (i := 22) (by omega) (by omega)
    simp only [iL]
    simp [e0]
    split
    · refine ⟨by omega, fun t ht => ⟨str1 ht (by decide), rs, 0, m, rfl, hd, by omega, by omega, hm, fun cd hcd => ?_⟩⟩
      have := h ⟨Str.ofString "m" ++ t, cd, S.reverse⟩ ⟨hcd, by rw [List.length_reverse]; exact hS, fun s h' => hs s (List.mem_reverse.mp h')⟩
      simp [Mv.d, List.map_reverse] at this
      simp [this]
    · refine ⟨by omega, fun t ht => ⟨str1 ht (by decide), rs, 0, m, rfl, hd, by omega, by omega, hm, fun cd hcd => ?_⟩⟩
      have := h ⟨Str.ofString "m" ++ t, cd, S⟩ ⟨hcd, hS, hs⟩
      simp [Mv.d] at this
      simp [this]
end Wd

/-! C21: the law's sensors and plants. -/
namespace Wd
open PySem PySem.Spec PyProof.Rows L2
theorem dg_get {sz rs : List Int} (h : DgOk sz rs) {i s : Int} (h0 : 0 ≤ i) (hs : sz[i.toNat]? = some s) : ∃ x : Int, atI (rs.map PyData.int) i = some (.int x) ∧ 0 ≤ x ∧ x < s := by
  have il := (List.getElem?_eq_some_iff.mp hs).1
  obtain ⟨y, e, e2, hy⟩ := at_some (l := rs.map PyData.int) h0 (by rw [List.length_map, h.1]; omega)
  obtain ⟨x, hx, rfl⟩ := map_get e2
  exact ⟨x, e, h.2 _ _ _ hx hs⟩
def spSensors : FSp := fun ds P _ => ∃ (ns : List Int) (m : Nat), ds = [scD ns, .int (m : Int)] ∧ 0 < m ∧ ∀ ss : List Sens, (∀ s ∈ ss, SOk m s) → ss.length ≤ 2 → P (.list (ss.map Sens.d))
theorem str_l {a b : String} (h : (Str.ofString a).length = (Str.ofString b).length) : True := trivial
theorem vc_sensors (ds : List D) (Pd : D → Prop) (Px : Prop) (h : spSensors ds Pd Px) : ir_law_sensors spDraw spTerm (start0 n_law_sensors.length ds) (goal false Pd Px) := by
  obtain ⟨ns, m, rfl, hm, h⟩ := h
  simp [ir_law_sensors, start0, n_law_sensors]
  refine asgL_own ?_
  simp
  intro l
  refine ⟨ns, 20, [4], rfl, by decide, by decide, by decide, fun rs hrs => ?_⟩
  obtain ⟨x, ex, x0, x4⟩ := dg_get hrs (i := 0) (by decide) rfl
  have hc : ∃ c : Nat, atI [PyData.int 1, .int 0, .int 2, .int 1] x = some (.int (c : Int)) ∧ c ≤ 2 := by
    obtain ⟨y, e, _, hy⟩ := at_some (l := [PyData.int 1, .int 0, .int 2, .int 1]) x0 (by simpa using x4)
    simp at hy
    rcases hy with rfl | rfl | rfl | rfl <;> first | exact ⟨1, e, by decide⟩ | exact ⟨0, e, by decide⟩ | exact ⟨2, e, by decide⟩
  obtain ⟨c, ec, hc⟩ := hc
  simp only [iL]
  simp [ex, ec]
  refine ⟨by omega, ?_⟩
  refine for_gen (fun k G' => ∃ (x y : Slot) (S : List Sens), G' = [.im (scD ns), .im (.int (m : Int)), .ow l (.lst (S.map Sens.d)), .im (.list (rs.map .int)), x, y] ∧ S.length ≤ k ∧ ∀ s ∈ S, SOk m s) ⟨_, _, [], rfl, by simp, by simp⟩ (fun _ _ _ _ => trivial) ?_ ?_
  · rintro J hJ k d G' hk ⟨x, y, S, rfl, hS, hs⟩
    obtain ⟨rfl, hk3⟩ := rg0 hk
    simp
    refine ⟨ns, 21 + (k : Int), [9, 9, 9, 3, 3], rfl, by omega, by decide, by decide, fun rs2 hrs2 => ?_⟩
    obtain ⟨hd, hl⟩ : Dg rs2 ∧ rs2.length = 5 := by
      refine ⟨fun x hx => ?_, hrs2.1⟩
      obtain ⟨i, hi⟩ := List.mem_iff_getElem?.mp hx
      have il := (List.getElem?_eq_some_iff.mp hi).1
      have i5 : i < 5 := by have := hrs2.1; simp at this; omega
      have : ∃ s, [9, 9, 9, 3, 3][i]? = some s ∧ (s : Int) ≤ 9 := by
        rcases i with _ | _ | _ | _ | _ | i <;> simp
        omega
      obtain ⟨s, h1, h2⟩ := this
      have := hrs2.2 i x s hi h1
      omega
    obtain ⟨x3, e3, a3, b3⟩ := dg_get hrs2 (i := 3) (by decide) rfl
    obtain ⟨x4, e4, a4, b4⟩ := dg_get hrs2 (i := 4) (by decide) rfl
    simp
    refine ⟨by omega, fun t ht => ⟨str1 ht (by decide), rs2, 0, m, rfl, hd, by decide, by omega, hm, fun tt htt => ?_⟩⟩
    simp only [iL]
    simp [e3, e4]
    refine ⟨by omega, hJ _ _ ⟨.im (.int (k : Int)), .im (.list (rs2.map .int)), S ++ [⟨Str.ofString "s" ++ t, tt, x3, decide (x4 = 1)⟩], by simp [Sens.d], by simp; omega, fun s hz => ?_⟩⟩
    rcases List.mem_append.mp hz with z | z
    · exact hs s z
    · rw [List.mem_singleton.mp z]
      exact ⟨tok_up htt, a3, by show x3 ≤ 5; omega⟩
  · rintro G' ⟨x, y, S, rfl, hS, hs⟩
    rw [rg_len] at hS
    simp
    exact h S hs (by omega)
theorem seg_snoc {p : Pt} : ∀ {a b : Nat} {ps : List Pt}, Seg a ps b → p.i = b → Seg a (ps ++ [p]) (b + p.k)
  | _, _, [], h, e => by cases h; exact ⟨e, rfl⟩
  | _, _, q :: ps, ⟨h1, h2⟩, e => ⟨h1, seg_snoc h2 e⟩
theorem sum_take {l : List Nat} {k c : Nat} (h : l[k]? = some c) : (l.take (k + 1)).sum = (l.take k).sum + c := by
  rw [List.take_add_one, h, List.sum_append]
  rfl
theorem nI_sum (l : List Nat) : (l.map fun (i : Nat) => (i : Int)).sum = (l.sum : Nat) := by
  induction l with
  | nil => rfl
  | cons a r ih => rw [List.map_cons, List.sum_cons, ih, List.sum_cons]; omega
theorem str2 {s t : Str} {a b : String} (hs : s.length ≤ 20) (ht : t.length ≤ 20) (ha : (Str.ofString a).length ≤ 10) (hb : (Str.ofString b).length ≤ 10) :
    (Str.ofString a).length + s.length ≤ 100000 ∧ (Str.ofString a ++ s).length + (Str.ofString b).length ≤ 100000 ∧ (Str.ofString a ++ s ++ Str.ofString b).length + t.length ≤ 100000 := by
  rw [Str.length_append, Str.length_append, Str.length_append]
  omega
def spPlant : FSp := fun ds P _ => ∃ (ns : List Int), ds = [scD ns] ∧ ∀ p : Pl, PlOk p → P p.d
theorem vc_plant (ds : List D) (Pd : D → Prop) (Px : Prop) (h : spPlant ds Pd Px) : ir_law_plant spDraw spMove spSensors (start0 n_law_plant.length ds) (goal false Pd Px) := by
  obtain ⟨ns, rfl, h⟩ := h
  simp [ir_law_plant, start0, n_law_plant]
  refine ⟨ns, 0, [3, 2, 2, 2, 4, 4, 4, 3], rfl, by decide, by decide, by decide, fun rs hrs => ?_⟩
  obtain ⟨y0, e0, a0, b0⟩ := dg_get hrs (i := 0) (by decide) rfl
  obtain ⟨y1, e1, a1, b1⟩ := dg_get hrs (i := 1) (by decide) rfl
  obtain ⟨y2, e2, a2, b2⟩ := dg_get hrs (i := 2) (by decide) rfl
  obtain ⟨y3, e3, a3, b3⟩ := dg_get hrs (i := 3) (by decide) rfl
  have hc : ∃ cs : List Nat, cutD [.int (1 + y1), .int (1 + y2), .int 1] none (some (1 + if y3 < y0 then y0 - y3 else 0)) = nI cs ∧ 1 ≤ cs.length ∧ cs.length ≤ 3 ∧ cs.sum ≤ 5 ∧ 1 ≤ cs.sum ∧ ∀ c ∈ cs, 1 ≤ c ∧ c ≤ 2 := by
    obtain ⟨n1, rfl⟩ := Int.eq_ofNat_of_zero_le a1
    obtain ⟨n2, rfl⟩ := Int.eq_ofNat_of_zero_le a2
    have hm : ∃ n : Nat, (1 + if y3 < y0 then y0 - y3 else 0) = ((n + 1 : Nat) : Int) ∧ n ≤ 2 := by
      split
      · exact ⟨(y0 - y3).toNat, by omega, by omega⟩
      · exact ⟨0, by omega, by omega⟩
    obtain ⟨n, en, hn⟩ := hm
    rw [en, cut_take]
    refine ⟨[1 + n1, 1 + n2, 1].take (n + 1), by unfold nI; rw [List.map_take]; rfl, ?_, ?_, ?_, ?_, ?_⟩
    · rw [List.length_take]; simp; omega
    · rw [List.length_take]; simp; omega
    · rcases n with _ | _ | _ | n <;> simp <;> omega
    · rcases n with _ | _ | _ | n <;> simp <;> omega
    · intro c hc
      have := List.mem_of_mem_take hc
      simp at this
      omega
  obtain ⟨cs, ec, cl1, cl3, cs5, cs1, cb⟩ := hc
  simp only [iL]
  simp
  refine asgL_own ?_
  simp [e0, e1, e2, e3, ec, ints_nI, nI_sum]
  refine asgL_own ?_
  simp
  intro l4
  refine asgL_own ?_
  simp
  intro l5
  have nl : (nI cs).length = cs.length := by unfold nI; rw [List.length_map]
  simp [nl]
  refine ⟨by omega, ?_⟩
  generalize hm : cs.sum = m at cs5 cs1
  refine for_gen (fun k G' => ∃ (a7 a8 a9 a10 a11 a12 a13 a14 : Slot) (vs : List Vr) (ps : List Pt) (t : Int), G' = [.im (scD ns), .im (iL rs), .im (.list (nI cs)), .im (.int (m : Int)), .ow l4 (.lst (vs.map Vr.d)), .ow l5 (.lst (ps.map Pt.d)), .im (.int t), a7, a8, a9, a10, a11, a12, a13, a14] ∧
      0 ≤ t ∧ vs.length = (cs.take k).sum ∧ (∀ v ∈ vs, VrOk v) ∧ (∀ q ∈ ps, PtOk m q) ∧ ps.length = k ∧ Seg 0 ps vs.length)
    ⟨_, _, _, _, _, _, _, _, [], [], 1, rfl, by decide, by simp, by simp, by simp, rfl, rfl⟩ (fun _ _ _ _ => trivial) ?_ ?_
  · rintro J hJ k d G' hk ⟨a7, a8, a9, a10, a11, a12, a13, a14, vs, ps, t, rfl, t0, vl, vo, po, pk, sg⟩
    obtain ⟨rfl, hk3⟩ := rg0 hk
    have kl : k < cs.length := by omega
    have gc := List.getElem?_eq_getElem kl
    obtain ⟨c1, c2⟩ := cb _ (List.getElem_mem kl)
    generalize cs[k] = c at gc c1 c2
    have sc := sum_take gc
    have sm : (cs.take (k + 1)).sum ≤ m := by
      rw [← hm]
      conv => rhs; rw [← List.take_append_drop (k + 1) cs, List.sum_append]
      omega
    have gat : atI (nI cs) (k : Int) = some (.int (c : Int)) := at_map (f := fun (i : Nat) => PyData.int (i : Int)) gc
    simp [gat]
    refine ⟨by omega, ?_⟩
    refine for_gen (fun k2 G' => ∃ (a9 a10 a11 a12 a13 : Slot) (ws : List Vr) (t : Int), G' = [.im (scD ns), .im (iL rs), .im (.list (nI cs)), .im (.int (m : Int)), .ow l4 (.lst ((vs ++ ws).map Vr.d)), .ow l5 (.lst (ps.map Pt.d)), .im (.int t), .im (.int (k : Int)), .im (.int (vs.length : Int)), a9, a10, a11, a12, a13, a14] ∧
      0 ≤ t ∧ ws.length = k2 ∧ ∀ v ∈ ws, VrOk v) ⟨_, _, _, _, _, [], t, by rw [List.append_nil], t0, rfl, by simp⟩ (fun _ _ _ _ => trivial) ?_ ?_
    · rintro J2 hJ2 k2 d G' hk2 ⟨a9, a10, a11, a12, a13, ws, t, rfl, t0, wl, wo⟩
      obtain ⟨rfl, hk4⟩ := rg0 hk2
      simp [-List.map_append]
      refine ⟨ns, t, [3, 3, 3, 3], rfl, t0, by decide, by decide, fun us hus => ?_⟩
      obtain ⟨u0, f0, p0, q0⟩ := dg_get hus (i := 0) (by decide) rfl
      obtain ⟨u1, f1, p1, q1⟩ := dg_get hus (i := 1) (by decide) rfl
      obtain ⟨u2, f2, p2, q2⟩ := dg_get hus (i := 2) (by decide) rfl
      obtain ⟨u3, f3, p3, q3⟩ := dg_get hus (i := 3) (by decide) rfl
      have w0 := Int.emod_nonneg u2 (b := u1 + 1) (by omega)
      have w1 := Int.emod_lt_of_pos u2 (b := u1 + 1) (by omega)
      generalize hlo : u0 - 1 + u2 % (u1 + 1) = lo
      have w2 := Int.emod_nonneg u3 (b := u0 - 1 + u1 - lo + 1) (by omega)
      have w3 := Int.emod_lt_of_pos u3 (b := u0 - 1 + u1 - lo + 1) (by omega)
      have w4 : (0 : Int) < u1 + 1 := by omega
      have w5 : (0 : Int) < u0 - 1 + u1 - lo + 1 := by omega
      simp only [iL]
      simp [f0, f1, f2, f3, hlo, w4, w5, -List.map_append]
      refine ⟨by omega, fun s1 hs1 => ⟨str1 hs1 (by decide), (str2 hs1 (t := s1) hs1 (by decide) (by decide)).2.1, by omega, fun s2 hs2 => ⟨(str2 (a := "p") (b := ".v") hs1 hs2 (by decide) (by decide)).2.2, ?_⟩⟩⟩
      refine ⟨?_, ?_⟩
      · have : ws.length ≤ 2 := by omega
        have : vs.length ≤ 5 := by omega
        omega
      · refine hJ2 _ _ ⟨.im (.int (k2 : Int)), .im (.list (us.map .int)), .im (.int (u0 - 1)), .im (.int lo), .im (.int (lo + u3 % (u0 - 1 + u1 - lo + 1))), ws ++ [⟨Str.ofString "p" ++ s1 ++ Str.ofString ".v" ++ s2, u0 - 1, u0 - 1 + u1, lo, lo + u3 % (u0 - 1 + u1 - lo + 1)⟩], t + 1, by simp [Vr.d, iL], by omega, by simp [wl], fun v hv => ?_⟩
        rcases List.mem_append.mp hv with z | z
        · exact wo v z
        · rw [List.mem_singleton.mp z]
          refine ⟨?_, ?_, ?_, ?_, ?_, ?_⟩ <;> simp only [] <;> omega
    · rintro G' ⟨a9, a10, a11, a12, a13, ws, t, rfl, t0, wl, wo⟩
      rw [rg_len] at wl
      simp [-List.map_append]
      refine asgL_own ?_
      simp [-List.map_append]
      intro l6
      have k3 := Int.emod_nonneg (k : Int) (b := 3) (by decide)
      have k4 := Int.emod_lt_of_pos (k : Int) (b := 3) (by decide)
      have hg : ∃ x : Int, atI (rs.map PyData.int) (4 + (k : Int) % 3) = some (.int x) ∧ 0 ≤ x ∧ x < 4 := by
        refine dg_get hrs (by omega) ?_
        have : (k : Int) % 3 = 0 ∨ (k : Int) % 3 = 1 ∨ (k : Int) % 3 = 2 := by omega
        rcases this with z | z | z <;> rw [z] <;> rfl
      obtain ⟨x, ex, x0, x4⟩ := hg
      have x5 := Int.emod_nonneg x (b := 4) (by decide)
      have x6 := Int.emod_lt_of_pos x (b := 4) (by decide)
      simp only [iL]
      simp [ex, -List.map_append]
      refine ⟨by omega, ?_⟩
      have pz : ps.length ≤ 2 := by omega
      refine for_gen (fun k2 G' => ∃ (a9 : Slot) (ms : List Mv) (t : Int), G' = [.im (scD ns), .im (iL rs), .im (.list (nI cs)), .im (.int (m : Int)), .ow l4 (.lst ((vs ++ ws).map Vr.d)), .ow l5 (.lst (ps.map Pt.d)), .im (.int t), .im (.int (k : Int)), .im (.int (vs.length : Int)), a9, a10, a11, a12, a13, .ow l6 (.lst (ms.map Mv.d))] ∧
        0 ≤ t ∧ ms.length = k2 ∧ ∀ v ∈ ms, MvOk m v) ⟨_, [], t, rfl, t0, rfl, by simp⟩ (fun _ _ _ _ => trivial) ?_ ?_
      · rintro J2 hJ2 k2 d G' hk2 ⟨a9, ms, t, rfl, t0, wl2, wo2⟩
        obtain ⟨rfl, hk4⟩ := rg0 hk2
        simp [gat, -List.map_append]
        refine ⟨ns, t, (k2 : Int), vs.length, c, m, rfl, t0, by omega, by omega, by omega, by omega, fun mv hmv => ?_⟩
        simp [-List.map_append]
        refine ⟨by omega, hJ2 _ _ ⟨.im (.int (k2 : Int)), ms ++ [mv], t + 1, by simp, by omega, by simp [wl2], fun v hv => ?_⟩⟩
        rcases List.mem_append.mp hv with z | z
        · exact wo2 v z
        · rw [List.mem_singleton.mp z]; exact hmv
      · rintro G' ⟨a9, ms, t, rfl, t0, wl2, wo2⟩
        rw [rg_len] at wl2
        simp [gat, -List.map_append]
        refine ⟨by omega, fun s1 hs1 => ⟨str1 hs1 (by decide), by omega, ?_⟩⟩
        refine hJ _ _ ⟨.im (.int (k : Int)), .im (.int (vs.length : Int)), a9, a10, a11, a12, a13, .ow l6 (.lst (ms.map Mv.d)), vs ++ ws, ps ++ [⟨Str.ofString "p" ++ s1, vs.length, c, ms⟩], t, by simp [Pt.d], t0, ?_, fun v hv => ?_, fun q hq => ?_, by simp [pk], ?_⟩
        · rw [List.length_append]; omega
        · rcases List.mem_append.mp hv with z | z
          · exact vo v z
          · exact wo v z
        · rcases List.mem_append.mp hq with z | z
          · exact po q z
          · rw [List.mem_singleton.mp z]
            refine ⟨?_, c1, c2, ?_, wo2⟩
            · show vs.length + c ≤ m; omega
            · show ms.length ≤ 4; omega
        · have e := seg_snoc (p := ⟨Str.ofString "p" ++ s1, vs.length, c, ms⟩) sg rfl
          have : (vs ++ ws).length = vs.length + c := by rw [List.length_append]; omega
          rw [this]
          exact e
  · rintro G' ⟨a7, a8, a9, a10, a11, a12, a13, a14, vs, ps, t, rfl, t0, vl, vo, po, pk, sg⟩
    rw [rg_len] at vl pk
    have e : ((cs.length : Int) - 0).toNat = cs.length := by omega
    rw [e] at vl pk
    rw [List.take_length, hm] at vl
    simp
    refine ⟨ns, m, rfl, by omega, fun ss hss sl => ?_⟩
    simp
    exact h ⟨vs, ps, ss⟩ ⟨by show 1 ≤ vs.length; omega, by show vs.length ≤ 5; omega, vo, by show ∀ q ∈ ps, PtOk vs.length q; rw [vl]; exact po, by show ps.length ≤ 3; omega, sg, by show ∀ s ∈ ss, SOk vs.length s; rw [vl]; exact hss, sl⟩
end Wd

/-! C22: the law's values, conditions, boxes. -/
namespace Wd
open PySem PySem.Spec PyProof.Rows L2
theorem vc_lvalue {d : Nat} (hd : bd d < 2 ^ 63) (ds : List D) (Pd : D → Prop) (Px : Prop) (h : spValue d ds Pd Px) : ir_law_value (down spValue d) (start0 n_law_value.length ds) (goal false Pd Px) := by
  obtain ⟨t, vs, n, rfl, ht, hv, h⟩ := h
  cases t with
  | num i => simp [ir_law_value, start0, n_law_value, Trm.d]; exact h
  | var m =>
    have hm : m < n := by cases d <;> exact ht
    simp [ir_law_value, start0, n_law_value, Trm.d, eI, at_var hv hm]; exact h
  | neg t =>
    cases d with
    | zero => exact ht.elim
    | succ d =>
      simp [ir_law_value, start0, n_law_value, Trm.d]
      refine ⟨t, vs, n, rfl, ht, hv, ?_⟩
      simp
      have h : Pd (.int (-t.v vs)) := h
      exact h
  | bin o l r =>
    cases d with
    | zero => exact ht.elim
    | succ d =>
      have ht : TOk n d l ∧ TOk n d r := ht
      have := bd_mono d
      have hb := trm_bd hv ht.1
      simp [ir_law_value, start0, n_law_value, Trm.d]
      have h1 : ¬ o.s = ("num" : Str) := by cases o <;> simp [Op.s]
      have h2 : ¬ o.s = ("var" : Str) := by cases o <;> simp [Op.s]
      have h3 : ¬ o.s = ("neg" : Str) := by cases o <;> simp [Op.s]
      simp [h1, h2, h3]
      refine ⟨l, vs, n, rfl, ht.1, hv, ?_⟩
      simp
      refine ⟨r, vs, n, rfl, ht.2, hv, ?_⟩
      have h : Pd (.int (o.f (l.v vs) (r.v vs))) := h
      generalize l.v vs = a at h hb
      generalize r.v vs = b at h
      cases o <;> simp [Op.s]
      · exact h
      · exact h
      · exact ⟨by unfold CMul; omega, h⟩
      · simp only [Op.f] at h
        by_cases c : b < a
        · rw [if_pos c] at h
          have : ¬ a < b := by omega
          simp [this]; exact h
        · rw [if_neg c] at h
          by_cases c2 : a < b
          · simp [c2]; exact h
          · have : a = b := by omega
            simp [c2, ← this]; exact h
      · simp only [Op.f] at h
        by_cases c : b > a
        · rw [if_pos c] at h
          rw [if_neg (by omega)]; exact h
        · rw [if_neg c] at h
          rw [if_pos (by omega)]; exact h
theorem vc_ltrue {d : Nat} (ds : List D) (Pd : D → Prop) (Px : Prop) (h : spTrue d ds Pd Px) : ir_law_true (spValue 3) (down spTrue d) (start0 n_law_true.length ds) (goal false Pd Px) := by
  obtain ⟨c, vs, n, rfl, hc, hv, h⟩ := h
  cases c with
  | tru => simp [ir_law_true, start0, n_law_true, Cd.d]; exact h
  | fls => simp [ir_law_true, start0, n_law_true, Cd.d]; exact h
  | less l r =>
    have hc : TOk n 3 l ∧ TOk n 3 r := by cases d <;> exact hc
    simp [ir_law_true, start0, n_law_true, Cd.d]
    refine ⟨l, vs, n, rfl, hc.1, hv, ?_⟩
    simp
    refine ⟨r, vs, n, rfl, hc.2, hv, ?_⟩
    simp
    exact h
  | same l r =>
    have hc : TOk n 3 l ∧ TOk n 3 r := by cases d <;> exact hc
    simp [ir_law_true, start0, n_law_true, Cd.d]
    refine ⟨l, vs, n, rfl, hc.1, hv, ?_⟩
    simp
    refine ⟨r, vs, n, rfl, hc.2, hv, ?_⟩
    simp
    exact h
  | not c =>
    cases d with
    | zero => exact hc.elim
    | succ d =>
      simp [ir_law_true, start0, n_law_true, Cd.d]
      refine ⟨c, vs, n, rfl, hc, hv, ?_⟩
      simp
      exact h
  | and a b =>
    cases d with
    | zero => exact hc.elim
    | succ d =>
      have hc : COk n d a ∧ COk n d b := hc
      simp [ir_law_true, start0, n_law_true, Cd.d]
      refine ⟨a, vs, n, rfl, hc.1, hv, ?_⟩
      have h : Pd (.bool (a.v vs && b.v vs)) := h
      cases e : a.v vs with
      | true => rw [e] at h; simp; refine ⟨b, vs, n, rfl, hc.2, hv, ?_⟩; simp; exact h
      | false => rw [e] at h; simp; exact h
  | or a b =>
    cases d with
    | zero => exact hc.elim
    | succ d =>
      have hc : COk n d a ∧ COk n d b := hc
      simp [ir_law_true, start0, n_law_true, Cd.d]
      refine ⟨a, vs, n, rfl, hc.1, hv, ?_⟩
      have h : Pd (.bool (a.v vs || b.v vs)) := h
      cases e : a.v vs with
      | false => rw [e] at h; simp; refine ⟨b, vs, n, rfl, hc.2, hv, ?_⟩; simp; exact h
      | true => rw [e] at h; simp; exact h
/-! ### boxes -/
def bx {α : Type} (rows : List (List α)) (cs : List α) : List (List α) := rows.flatMap fun r => cs.map fun c => r ++ [c]
theorem bx_map {α β : Type} (f : α → β) (rows : List (List α)) (cs : List α) : bx (rows.map (·.map f)) (cs.map f) = (bx rows cs).map (·.map f) := by
  unfold bx
  rw [List.flatMap_map, List.map_flatMap]
  have : (fun r => List.map (fun c => List.map f r ++ [c]) (List.map f cs)) = fun r : List α => List.map (·.map f) (List.map (fun c => r ++ [c]) cs) := by
    funext r
    rw [List.map_map, List.map_map]
    refine List.map_congr_left fun c _ => ?_
    simp
  rw [this]
theorem bx_len {α : Type} (rows : List (List α)) (cs : List α) : (bx rows cs).length = rows.length * cs.length := by
  unfold bx
  induction rows with
  | nil => simp
  | cons r rs ih => rw [List.flatMap_cons, List.length_append, ih, List.length_map, List.length_cons, Nat.succ_mul, Nat.add_comm]
theorem bx_mem {α : Type} {rows : List (List α)} {cs : List α} {w : List α} : w ∈ bx rows cs ↔ ∃ r c, r ∈ rows ∧ c ∈ cs ∧ w = r ++ [c] := by
  unfold bx
  rw [List.mem_flatMap]
  constructor
  · rintro ⟨r, hr, h⟩
    obtain ⟨c, hc, rfl⟩ := List.mem_map.mp h
    exact ⟨r, c, hr, hc, rfl⟩
  · rintro ⟨r, c, hr, hc, rfl⟩
    exact ⟨r, hr, List.mem_map.mpr ⟨c, hc, rfl⟩⟩
def spBox : FSp := fun ds P _ => ∃ (rows : List (List D)) (cs : List D), ds = [.list (rows.map .tuple), .list cs] ∧ rows.length ≤ 10000 ∧ cs.length ≤ 10000 ∧ rows.length * cs.length ≤ 900000 ∧ (∀ r ∈ rows, r.length ≤ 100) ∧ P (.list ((bx rows cs).map .tuple))
theorem bx_take {α : Type} {rows : List (List α)} {cs : List α} {k : Nat} {r : List α} (h : rows[k]? = some r) : bx (rows.take (k + 1)) cs = bx (rows.take k) cs ++ cs.map fun c => r ++ [c] := by
  unfold bx
  rw [List.take_add_one, h, List.flatMap_append]
  simp
theorem le_mul {a b c d n : Nat} (h : c * d ≤ n) (h1 : a < c) (h2 : b ≤ d) : a * d + b ≤ n := by
  have : (a + 1) * d ≤ c * d := Nat.mul_le_mul_right d h1
  rw [Nat.succ_mul] at this
  omega
theorem vc_box (ds : List D) (Pd : D → Prop) (Px : Prop) (h : spBox ds Pd Px) : ir_law_box (start0 n_law_box.length ds) (goal false Pd Px) := by
  obtain ⟨rows, cs, rfl, h1, h2, h3, h4, h⟩ := h
  simp [ir_law_box, start0, n_law_box]
  refine asgL_own ?_
  simp
  intro l
  refine for_gen (fun k G' => ∃ (a b : Slot), G' = [.im (.list (rows.map .tuple)), .im (.list cs), .ow l (.lst ((bx (rows.take k) cs).map .tuple)), a, b]) ⟨_, _, rfl⟩ (fun _ _ _ _ => trivial) ?_ ?_
  · rintro J hJ k d G' hk ⟨a, b, rfl⟩
    obtain ⟨r, hr, rfl⟩ := map_get hk
    have kl := (List.getElem?_eq_some_iff.mp hr).1
    have rl := h4 r (List.mem_of_getElem? hr)
    have bl : (bx (rows.take k) cs).length = k * cs.length := by rw [bx_len, List.length_take, Nat.min_eq_left (by omega)]
    simp
    refine for_gen (fun k2 G' => ∃ (b : Slot), G' = [.im (.list (rows.map .tuple)), .im (.list cs), .ow l (.lst ((bx (rows.take k) cs ++ (cs.take k2).map fun c => r ++ [c]).map .tuple)), .im (.tuple r), b]) ⟨_, by simp; rfl⟩ (fun _ _ _ _ => trivial) ?_ ?_
    · rintro J2 hJ2 k2 c G' hk2 ⟨b, rfl⟩
      have kl2 := (List.getElem?_eq_some_iff.mp hk2).1
      have := le_mul h3 kl (Nat.le_of_lt kl2)
      simp [-List.map_append]
      refine ⟨by omega, ?_, hJ2 _ _ ⟨.im c, by rw [List.take_add_one, hk2]; simp⟩⟩
      rw [bl]
      omega
    · rintro G' ⟨b, rfl⟩
      exact hJ _ _ ⟨.im (.tuple r), b, by rw [bx_take hr, List.take_length]⟩
  · rintro G' ⟨a, b, rfl⟩
    simp
    exact h
end Wd

/-! C23: the law's next states. -/
namespace Wd
open PySem PySem.Spec PyProof.Rows L2
theorem eqvAll_ints : ∀ ns ms : List Int, PyData.eqvAll (ns.map PyData.int) (ms.map PyData.int) = decide (ns = ms)
  | [], [] => by simp [PyData.eqvAll]
  | [], _ :: _ => by simp [PyData.eqvAll]
  | _ :: _, [] => by simp [PyData.eqvAll]
  | a :: r, b :: t => by
    simp only [List.map_cons, PyData.eqvAll, PyData.eqv, eqvAll_ints r t]
    by_cases h : a = b <;> by_cases h' : r = t <;> simp [h, h']
theorem eqv_eI (a b : List Int) : PyData.eqv (eI a) (eI b) = decide (a = b) := by
  unfold eI
  rw [PyData.eqv]
  exact eqvAll_ints a b
theorem any_eI (f : List (List Int)) (r : List Int) : ((f.map eI).any fun z => PyData.eqv z (eI r)) = decide (r ∈ f) := by
  induction f with
  | nil => simp
  | cons a t ih =>
    rw [List.map_cons, List.any_cons, ih, eqv_eI]
    by_cases h : a = r
    · simp [h]
    · have : ¬ r = a := fun e => h e.symm
      simp [h, this]
theorem layAll_ints : ∀ ns : List Int, PyData.canLayAll0 (ns.map PyData.int) = true
  | [] => rfl
  | n :: r => by simp [PyData.canLayAll0, PyData.canLay0, layAll_ints r]
theorem dpAll_ints : ∀ ns : List Int, PyData.depthAll (ns.map PyData.int) = 0
  | [] => rfl
  | n :: r => by simp [PyData.depthAll, PyData.depth, dpAll_ints r]
theorem lay_eI (a : List Int) : (eI a).canLay0 = true := by simp only [eI, PyData.canLay0]; exact layAll_ints a
theorem dp_eI (a : List Int) : (eI a).depth ≤ 1 := by simp only [eI, PyData.depth, dpAll_ints]; omega
theorem shaped_eI (a : List Int) : SeqAt.shaped (eI a) = true := by
  have := dp_eI a
  show ((eI a).canLay0 && decide ((eI a).depth ≤ 64)) = true
  rw [lay_eI, decide_eq_true (by omega)]
  rfl
theorem layAll_eI : ∀ f : List (List Int), PyData.canLayAll0 (f.map eI) = true
  | [] => rfl
  | n :: r => by simp [PyData.canLayAll0, lay_eI, layAll_eI r]
theorem dpAll_eI : ∀ f : List (List Int), PyData.depthAll (f.map eI) ≤ 1
  | [] => by simp [PyData.depthAll]
  | n :: r => by
    have := dpAll_eI r
    have := dp_eI n
    simp only [List.map_cons, PyData.depthAll]
    omega
theorem shaped_rows (f : List (List Int)) : SeqAt.shaped (.list (f.map eI)) = true := by
  have h := dpAll_eI f
  have h2 : PyData.depth (.list (f.map eI)) ≤ 64 := by
    simp only [PyData.depth]
    omega
  show (PyData.canLay0 (.list (f.map eI)) && decide (PyData.depth (.list (f.map eI)) ≤ 64)) = true
  rw [Bool.and_eq_true]
  exact ⟨by simp only [PyData.canLay0]; exact layAll_eI f, decide_eq_true h2⟩
theorem fold_take {α β : Type} {f : β → α → β} {a : β} {l : List α} {k : Nat} {x : α} (h : l[k]? = some x) : (l.take (k + 1)).foldl f a = f ((l.take k).foldl f a) x := by rw [List.take_add_one, h, List.foldl_append]; rfl
theorem lc_filter {elt : Sm} {tg : Tg} {cond : Tm} {own : List Nat} {ds : List D} {stay : Gm → Prop} {G1 : Gm} {P : D → Gm → Prop} (p : D → Bool) (h0 : noOw G1 own = true) (h1 : stay (wipeG G1 own)) (h2 : ds.length ≤ 1000000)
    (h3 : ∀ (k : Nat) (d : D), ds[k]? = some d → ∃ Gb, setTg (wipeG G1 own) d tg = some Gb ∧ (∀ Q : Bool → Gm → Prop, Q (p d) Gb → cond Gb Q (fun _ => False)) ∧ ∀ Q : D → Gm → Prop, Q d Gb → elt Gb Q (fun _ => False))
    (h4 : P (.list (ds.filter p)) G1) : LcG elt tg cond own ds stay G1 P := by
  refine ⟨h0, h1, h2, fun k acc => acc = (ds.take k).filter p, by simp, fun k d acc hd e _ => ?_, fun acc _ e => ?_⟩
  · obtain ⟨Gb, g1, g2, g3⟩ := h3 k d hd
    have e : acc = (ds.take k).filter p := e
    refine ⟨Gb, g1, g2 _ ⟨rfl, ?_⟩⟩
    have e2 : (ds.take (k + 1)).filter p = acc ++ [d].filter p := by rw [List.take_add_one, hd, List.filter_append, e]; rfl
    by_cases c : p d = true
    · rw [if_pos c]
      refine g3 _ ⟨rfl, ?_⟩
      show acc ++ [d] = _
      rw [e2, List.filter_cons_of_pos c]
      rfl
    · rw [if_neg c]
      show acc = _
      rw [e2, List.filter_cons_of_neg c]
      simp
  · have e : acc = (ds.take ds.length).filter p := e
    rw [e, List.take_length]
    exact h4
/-! ### what they compute -/
def rgI (a b : Int) : List Int := (List.range (b - a).toNat).map fun i => a + (i : Nat)
theorem rgI_d (a b : Int) : (rgI a b).map PyData.int = rgD a b := by
  unfold rgI rgD
  rw [List.map_map]
  rfl
theorem rgI_mem {a b x : Int} : x ∈ rgI a b ↔ a ≤ x ∧ x < b := by
  unfold rgI
  simp only [List.mem_map, List.mem_range]
  constructor
  · rintro ⟨n, hn, rfl⟩
    omega
  · rintro ⟨h1, h2⟩
    exact ⟨(x - a).toNat, by omega, by omega⟩
theorem rgI_len (a b : Int) : (rgI a b).length = (b - a).toNat := by unfold rgI; rw [List.length_map, List.length_range]
theorem rgI_nodup (a b : Int) : (rgI a b).Nodup := by
  unfold rgI
  rw [List.nodup_iff_pairwise_ne, List.pairwise_map]
  exact (List.nodup_range (n := (b - a).toNat)).imp fun h e => h (by omega)
def Pl.vr (p : Pl) (i : Nat) : Vr := p.vs.getD i ⟨Str.ofString "", 0, 0, 0, 0⟩
def inR (s : Stg) (vs : List Int) (x : Int) : Bool := decide (s.lo.v vs ≤ x) && decide (x ≤ s.hi.v vs)
def chStep (p : Pl) (vs : List Int) (i : Nat) (c : List Int) (s : Stg) : List Int := if s.i = i then (rgI (p.vr i).a ((p.vr i).b + 1)).filter (inR s vs) else c
def chs (p : Pl) (vs : List Int) (i : Nat) (ss : List Stg) : List Int := ss.foldl (chStep p vs i) [vs.getD i 0]
def mvStep (p : Pl) (q : Pt) (vs : List Int) (m : Mv) (rows : List (List Int)) (j : Nat) : List (List Int) := bx rows (chs p vs (q.i + j) m.ss)
def mvRows (p : Pl) (q : Pt) (vs : List Int) (m : Mv) (k : Nat) : List (List Int) := (List.range k).foldl (mvStep p q vs m) (if m.c.v vs = true then [[]] else [])
def addN (f : List (List Int)) (rows : List (List Int)) : List (List Int) := rows.foldl (fun f r => if r ∈ f then f else f ++ [r]) f
def ptNx (p : Pl) (q : Pt) (vs : List Int) : List (List Int) := q.ms.foldl (fun f m => addN f (mvRows p q vs m q.k)) []
def nxStep (p : Pl) (vs : List Int) (rows : List (List Int)) (q : Pt) : List (List Int) := rows.flatMap fun r => (ptNx p q vs).map fun o => r ++ o
def nx (p : Pl) (vs : List Int) : List (List Int) := p.ps.foldl (nxStep p vs) [[]]
def fsS (p : Pl) : List (List Int) := p.vs.foldl (fun rows v => bx rows (rgI v.lo (v.hi + 1))) [[]]
/-! ### how long -/
theorem vr_ok {p : Pl} (h : PlOk p) {i : Nat} (hi : i < p.vs.length) : ∃ v, p.vs[i]? = some v ∧ p.vr i = v ∧ VrOk v := by
  have e := List.getElem?_eq_getElem hi
  exact ⟨_, e, getD_some e, h.v _ (List.getElem_mem hi)⟩
theorem chs_len {p : Pl} (h : PlOk p) {vs : List Int} {i : Nat} (hi : i < p.vs.length) : ∀ (ss : List Stg) (c : List Int), c.length ≤ 3 → (ss.foldl (chStep p vs i) c).length ≤ 3
  | [], c, hc => hc
  | s :: r, c, hc => by
    refine chs_len h hi r _ ?_
    unfold chStep
    split
    · obtain ⟨v, _, e, h1, h2, h3, h4, h5, h6⟩ := vr_ok h hi
      have := List.length_filter_le (inR s vs) (rgI (p.vr i).a ((p.vr i).b + 1))
      rw [rgI_len, e] at this
      rw [e]
      omega
    · exact hc
theorem mvRows_succ {p : Pl} {q : Pt} {vs : List Int} {m : Mv} {k : Nat} : mvRows p q vs m (k + 1) = bx (mvRows p q vs m k) (chs p vs (q.i + k) m.ss) := by
  unfold mvRows
  rw [List.range_succ, List.foldl_append]
  rfl
theorem mvRows_len {p : Pl} (h : PlOk p) {q : Pt} {vs : List Int} {m : Mv} : ∀ k, q.i + k ≤ p.vs.length → (mvRows p q vs m k).length ≤ 3 ^ k
  | 0, _ => by
    unfold mvRows
    show (if m.c.v vs = true then [[]] else [] : List (List Int)).length ≤ 1
    split <;> simp
  | k + 1, hk => by
    rw [mvRows_succ, bx_len, Nat.pow_succ]
    exact Nat.mul_le_mul (mvRows_len h k (by omega)) (chs_len h (by omega) _ _ (by simp))
theorem addN_len : ∀ (rows f : List (List Int)), (addN f rows).length ≤ f.length + rows.length
  | [], f => by simp [addN]
  | r :: t, f => by
    have := addN_len t (if r ∈ f then f else f ++ [r])
    show (addN (if r ∈ f then f else f ++ [r]) t).length ≤ _
    have h2 : (if r ∈ f then f else f ++ [r]).length ≤ f.length + 1 := by split <;> simp
    simp only [List.length_cons]
    omega
theorem addN_nodup : ∀ (rows f : List (List Int)), f.Nodup → (addN f rows).Nodup
  | [], f, h => h
  | r :: t, f, h => by
    refine addN_nodup t _ ?_
    show (if r ∈ f then f else f ++ [r]).Nodup
    split
    · exact h
    · rename_i c
      rw [List.nodup_append]
      refine ⟨h, by simp, fun a ha b hb => ?_⟩
      rw [List.mem_singleton.mp hb]
      exact fun e => c (e ▸ ha)
theorem addN_mem : ∀ (rows f : List (List Int)) {w : List Int}, w ∈ addN f rows ↔ w ∈ f ∨ w ∈ rows
  | [], f, w => by simp [addN]
  | r :: t, f, w => by
    show w ∈ addN (if r ∈ f then f else f ++ [r]) t ↔ _
    rw [addN_mem t]
    split
    · rename_i c
      constructor
      · rintro (z | z)
        · exact .inl z
        · exact .inr (List.mem_cons_of_mem _ z)
      · rintro (z | z)
        · exact .inl z
        · rcases List.mem_cons.mp z with rfl | z
          · exact .inl c
          · exact .inr z
    · simp [or_assoc]
theorem ptf_len {p : Pl} (h : PlOk p) {q : Pt} {vs : List Int} (hq : q.i + q.k ≤ p.vs.length) (h2 : q.k ≤ 2) : ∀ (ms : List Mv) (f : List (List Int)), (ms.foldl (fun f m => addN f (mvRows p q vs m q.k)) f).length ≤ f.length + 9 * ms.length
  | [], f => by simp
  | m :: r, f => by
    have a := ptf_len h hq h2 (vs := vs) r (addN f (mvRows p q vs m q.k))
    have b := addN_len (mvRows p q vs m q.k) f
    have c := mvRows_len h (vs := vs) (m := m) q.k hq
    have d : 3 ^ q.k ≤ 9 := by
      have := Nat.pow_le_pow_right (n := 3) (by decide) h2
      omega
    rw [List.foldl_cons, List.length_cons]
    omega
theorem ptNx_len {p : Pl} (h : PlOk p) {q : Pt} {vs : List Int} (hq : q ∈ p.ps) : (ptNx p q vs).length ≤ 36 := by
  obtain ⟨h1, h2, h3, h4, h5⟩ := h.pt q hq
  have := ptf_len h (vs := vs) h1 h3 q.ms []
  unfold ptNx
  simp only [List.length_nil] at this
  omega
theorem ptf_nodup {p : Pl} {q : Pt} {vs : List Int} : ∀ (ms : List Mv) (f : List (List Int)), f.Nodup → (ms.foldl (fun f m => addN f (mvRows p q vs m q.k)) f).Nodup
  | [], f, h => h
  | m :: r, f, h => ptf_nodup r _ (addN_nodup _ _ h)
theorem ptNx_nodup {p : Pl} {q : Pt} {vs : List Int} : (ptNx p q vs).Nodup := ptf_nodup _ _ List.nodup_nil
/-! ### what lies in them -/
def Ok1 (p : Pl) (vs : List Int) (i : Nat) (x : Int) : Prop := vs[i]? = some x ∨ ∃ v, p.vs[i]? = some v ∧ v.a ≤ x ∧ x ≤ v.b
theorem chs_ok {p : Pl} (h : PlOk p) {vs : List Int} {i : Nat} (hi : i < p.vs.length) : ∀ (ss : List Stg) (c : List Int), (∀ x ∈ c, Ok1 p vs i x) → ∀ x ∈ ss.foldl (chStep p vs i) c, Ok1 p vs i x
  | [], c, hc => hc
  | s :: r, c, hc => by
    refine chs_ok h hi r _ ?_
    unfold chStep
    split
    · obtain ⟨v, e1, e, _⟩ := vr_ok h hi
      intro x hx
      have := rgI_mem.mp (List.mem_filter.mp hx).1
      rw [e] at this
      exact .inr ⟨v, e1, by omega, by omega⟩
    · exact hc
def OkW (p : Pl) (vs : List Int) (o n : Nat) (w : List Int) : Prop := w.length = n ∧ ∀ t x, w[t]? = some x → Ok1 p vs (o + t) x
theorem okw_app {p : Pl} {vs : List Int} {o n m : Nat} {a b : List Int} (h : OkW p vs o n a) (h2 : OkW p vs (o + n) m b) : OkW p vs o (n + m) (a ++ b) := by
  refine ⟨by rw [List.length_append, h.1, h2.1], fun t x hx => ?_⟩
  by_cases c : t < a.length
  · rw [List.getElem?_append_left c] at hx
    exact h.2 t x hx
  · rw [List.getElem?_append_right (by omega)] at hx
    have := h2.2 _ x hx
    have e : o + n + (t - a.length) = o + t := by have := h.1; omega
    rw [e] at this
    exact this
theorem mvRows_ok {p : Pl} (h : PlOk p) {q : Pt} {vs : List Int} {m : Mv} (hv : vs.length = p.vs.length) : ∀ k, q.i + k ≤ p.vs.length → ∀ w ∈ mvRows p q vs m k, OkW p vs q.i k w
  | 0, _, w, hw => by
    have : w = [] := by
      unfold mvRows at hw
      have hw : w ∈ (if m.c.v vs = true then [[]] else [] : List (List Int)) := hw
      split at hw <;> simp at hw
      exact hw
    rw [this]
    exact ⟨rfl, by simp⟩
  | k + 1, hk, w, hw => by
    rw [mvRows_succ] at hw
    obtain ⟨r, c, hr, hc, rfl⟩ := bx_mem.mp hw
    refine okw_app (mvRows_ok h hv k (by omega) r hr) ⟨rfl, fun t x hx => ?_⟩
    have : t = 0 ∧ c = x := by
      rcases t with _ | t
      · exact ⟨rfl, by simpa using hx⟩
      · simp at hx
    obtain ⟨rfl, rfl⟩ := this
    have hl : q.i + k < vs.length := by omega
    refine chs_ok h (by omega) _ _ ?_ c hc
    intro y hy
    rw [List.mem_singleton.mp hy]
    exact .inl (by rw [Nat.add_zero, List.getD_eq_getElem?_getD, List.getElem?_eq_getElem hl]; rfl)
theorem ptf_ok {p : Pl} (h : PlOk p) {q : Pt} {vs : List Int} (hv : vs.length = p.vs.length) (hq : q.i + q.k ≤ p.vs.length) : ∀ (ms : List Mv) (f : List (List Int)), (∀ w ∈ f, OkW p vs q.i q.k w) → ∀ w ∈ ms.foldl (fun f m => addN f (mvRows p q vs m q.k)) f, OkW p vs q.i q.k w
  | [], f, hf => hf
  | m :: r, f, hf => by
    refine ptf_ok h hv hq r _ fun w hw => ?_
    rcases (addN_mem _ _).mp hw with z | z
    · exact hf w z
    · exact mvRows_ok h hv q.k hq w z
theorem ptNx_ok {p : Pl} (h : PlOk p) {q : Pt} {vs : List Int} (hv : vs.length = p.vs.length) (hq : q ∈ p.ps) : ∀ w ∈ ptNx p q vs, OkW p vs q.i q.k w := ptf_ok h hv (h.pt q hq).1 q.ms [] (by simp)
theorem nxf {p : Pl} (h : PlOk p) {vs : List Int} (hv : vs.length = p.vs.length) : ∀ (ps : List Pt) (a b : Nat) (rows : List (List Int)), (∀ q ∈ ps, q ∈ p.ps) → Seg a ps b → rows.Nodup → (∀ w ∈ rows, OkW p vs 0 a w) → (ps.foldl (nxStep p vs) rows).Nodup ∧ ∀ w ∈ ps.foldl (nxStep p vs) rows, OkW p vs 0 b w
  | [], a, b, rows, _, hs, hn, ho => by cases hs; exact ⟨hn, ho⟩
  | q :: r, a, b, rows, hp, ⟨h1, h2⟩, hn, ho => by
    have pq := ptNx_ok h hv (hp q List.mem_cons_self)
    refine nxf h hv r _ _ _ (fun q' hq' => hp q' (List.mem_cons_of_mem _ hq')) h2 ?_ ?_
    · unfold nxStep
      clear h2
      induction rows with
      | nil => exact List.nodup_nil
      | cons r0 rs ih =>
        rw [List.flatMap_cons, List.nodup_append]
        have hn := List.nodup_cons.mp hn
        refine ⟨?_, ih hn.2 fun w hw => ho w (List.mem_cons_of_mem _ hw), fun x hx y hy e => ?_⟩
        · rw [List.nodup_iff_pairwise_ne, List.pairwise_map]
          exact (ptNx_nodup (p := p) (q := q) (vs := vs)).imp fun h e => h (List.append_cancel_left e)
        · obtain ⟨o, ho1, rfl⟩ := List.mem_map.mp hx
          obtain ⟨r1, hr1, hy⟩ := List.mem_flatMap.mp hy
          obtain ⟨o2, ho2, rfl⟩ := List.mem_map.mp hy
          have l0 := (ho r0 List.mem_cons_self).1
          have l1 := (ho r1 (List.mem_cons_of_mem _ hr1)).1
          have := (List.append_inj e (by omega)).1
          exact hn.1 (this ▸ hr1)
    · intro w hw
      obtain ⟨r1, hr1, hw⟩ := List.mem_flatMap.mp hw
      obtain ⟨o, ho1, rfl⟩ := List.mem_map.mp hw
      refine okw_app (ho r1 hr1) ?_
      have := pq o ho1
      rw [h1] at this
      rw [Nat.zero_add]
      exact this
theorem nx_ok {p : Pl} (h : PlOk p) {vs : List Int} (hv : vs.length = p.vs.length) : (nx p vs).Nodup ∧ ∀ w ∈ nx p vs, OkW p vs 0 p.vs.length w := nxf h hv p.ps 0 _ [[]] (fun _ z => z) h.seg (by simp) (by intro w hw; rw [List.mem_singleton.mp hw]; exact ⟨rfl, by simp⟩)
theorem okw_vok {p : Pl} (h : PlOk p) {vs w : List Int} (hv : VOk p.vs.length vs) (hw : OkW p vs 0 p.vs.length w) : VOk p.vs.length w := by
  refine ⟨hw.1, fun x hx => ?_⟩
  obtain ⟨t, ht⟩ := List.mem_iff_getElem?.mp hx
  rcases hw.2 t x ht with z | ⟨v, z, a, b⟩
  · exact hv.2 x (List.mem_of_getElem? z)
  · obtain ⟨h1, h2, h3, h4, h5, h6⟩ := h.v v (List.mem_of_getElem? z)
    omega
theorem nx_vok {p : Pl} (h : PlOk p) {vs : List Int} (hv : VOk p.vs.length vs) : ∀ w ∈ nx p vs, VOk p.vs.length w := fun w hw => okw_vok h hv ((nx_ok h hv.1).2 w hw)
end Wd

/-! C24: the law's next states, walked. -/
namespace Wd
open PySem PySem.Spec PyProof.Rows L2
def spPart : FSp := fun ds P _ => ∃ (p : Pl) (q : Pt) (vs : List Int), ds = [p.d, q.d, eI vs] ∧ PlOk p ∧ q ∈ p.ps ∧ VOk p.vs.length vs ∧ P (.list ((ptNx p q vs).map eI))
theorem chs_step {p : Pl} {vs : List Int} {i k : Nat} {ss : List Stg} {s : Stg} (h : ss[k]? = some s) : chs p vs i (ss.take (k + 1)) = chStep p vs i (chs p vs i (ss.take k)) s := fold_take h
def fInt (f : Int → Bool) : D → Bool
  | .int x => f x
  | _ => false
theorem filter_d (f : Int → Bool) (l : List Int) : (l.map PyData.int).filter (fInt f) = (l.filter f).map PyData.int := by
  rw [List.filter_map]
  rfl
theorem pt_at {p : Pl} (h : PlOk p) {i : Nat} (hi : i < p.vs.length) : atI (p.vs.map Vr.d) (i : Int) = some (p.vr i).d := by
  obtain ⟨v, e1, e, _⟩ := vr_ok h hi
  rw [e]
  exact at_map e1
theorem vc_part_next (ds : List D) (Pd : D → Prop) (Px : Prop) (h : spPart ds Pd Px) : ir_law_part_next (spValue 3) (spTrue 3) spBox (start0 n_law_part_next.length ds) (goal false Pd Px) := by
  obtain ⟨p, q, vs, rfl, hp, hq, hv, h⟩ := h
  obtain ⟨z1, z2, z3, z4, z5⟩ := hp.pt q hq
  have n5 := hp.n5
  simp [ir_law_part_next, start0, n_law_part_next]
  refine asgL_own ?_
  simp
  intro l
  simp [Pt.d]
  refine for_gen (fun k G' => ∃ (a4 a5 a6 a7 a8 a9 a10 a11 a12 : Slot), G' = [.im p.d, .im q.d, .im (eI vs), .ow l (.lst (((q.ms.take k).foldl (fun f m => addN f (mvRows p q vs m q.k)) []).map eI)), a4, a5, a6, a7, a8, a9, a10, a11, a12, .un])
    ⟨_, _, _, _, _, _, _, _, _, rfl⟩ (fun _ _ _ _ => trivial) ?_ ?_
  · rintro J hJ k d G' hk ⟨a4, a5, a6, a7, a8, a9, a10, a11, a12, rfl⟩
    obtain ⟨m, hm, rfl⟩ := map_get hk
    obtain ⟨m1, m2, m3⟩ := z5 m (List.mem_of_getElem? hm)
    have kl := (List.getElem?_eq_some_iff.mp hm).1
    generalize hf : (q.ms.take k).foldl (fun f m => addN f (mvRows p q vs m q.k)) [] = f
    have fl : f.length ≤ 100 := by
      have := ptf_len hp (vs := vs) z1 z3 (q.ms.take k) []
      rw [hf, List.length_take] at this
      simp only [List.length_nil] at this
      omega
    simp
    refine asgL_im ?_
    simp [Mv.d]
    refine ⟨m.c, vs, _, rfl, m1, hv, ?_⟩
    have hr0 : (mvRows p q vs m 0).map eI = if m.c.v vs = true then [.tuple []] else [] := by
      show (if m.c.v vs = true then [[]] else [] : List (List Int)).map eI = _
      split <;> rfl
    cases e5 : m.c.v vs
    · rw [e5] at hr0
      simp
      refine asgL_im ?_
      simp [Pt.d]
      refine ⟨by omega, ?_⟩
      refine for_gen (fun k2 G' => ∃ (a6 a7 a8 a9 a10 a11 : Slot), G' = [.im p.d, .im q.d, .im (eI vs), .ow l (.lst (f.map eI)), .im m.d, .im (.list ((mvRows p q vs m k2).map eI)), a6, a7, a8, a9, a10, a11, a12, .un])
        ⟨_, _, _, _, _, _, by rw [hr0]; rfl⟩ (fun _ _ _ _ => trivial) ?_ ?_
      · rintro J2 hJ2 k2 d G' hk2 ⟨a6, a7, a8, a9, a10, a11, rfl⟩
        obtain ⟨rfl, hk3⟩ := rg_get hk2
        have il : q.i + k2 < p.vs.length := by omega
        have ei : (q.i : Int) + (k2 : Int) = ((q.i + k2 : Nat) : Int) := by omega
        have av := at_var hv il
        have succ := mvRows_succ (p := p) (q := q) (vs := vs) (m := m) (k := k2)
        have ml := mvRows_len hp (q := q) (vs := vs) (m := m) k2 (by omega)
        have mok := mvRows_ok hp (q := q) (m := m) hv.1 k2 (by omega)
        have p3 : 3 ^ k2 ≤ 9 := by
          have := Nat.pow_le_pow_right (n := 3) (by decide) (show k2 ≤ 2 by omega)
          omega
        generalize hi : q.i + k2 = i at ei il av succ
        rw [ei]
        simp only [eI]
        simp [av]
        refine asgL_im ?_
        simp [Mv.d, av]
        refine for_gen (fun k3 G' => ∃ (a8 a9 a10 a11 : Slot), G' = [.im p.d, .im q.d, .im (eI vs), .ow l (.lst (f.map eI)), .im m.d, .im (.list ((mvRows p q vs m k2).map eI)), .im (.int (i : Int)), .im (.list ((chs p vs i (m.ss.take k3)).map .int)), a8, a9, a10, a11, a12, .un])
          ⟨_, _, _, _, rfl⟩ (fun _ _ _ _ => trivial) ?_ ?_
        · rintro J3 hJ3 k3 d G' hk3 ⟨a8, a9, a10, a11, rfl⟩
          obtain ⟨s, hs, rfl⟩ := map_get hk3
          obtain ⟨s1, s2⟩ := m3 s (List.mem_of_getElem? hs)
          have st := chs_step (p := p) (vs := vs) (i := i) hs
          simp [Stg.d]
          split
          · rename_i c
            have c : s.i = i := by omega
            refine ⟨s.lo, vs, _, rfl, s1, hv, ?_⟩
            simp
            refine ⟨s.hi, vs, _, rfl, s2, hv, ?_⟩
            obtain ⟨v, e1, e, v1, v2, v3, v4, v5, v6⟩ := vr_ok hp il
            have pa := pt_at hp il
            rw [e] at pa
            simp [Pl.d, pD, pa, Vr.d]
            refine ⟨by omega, ?_⟩
            refine lc_filter (fInt (inR s vs)) rfl trivial (by rw [rg_len]; omega) ?_ ?_
            · rintro k4 d hk4
              obtain ⟨rfl, _⟩ := rg_get hk4
              refine ⟨_, rfl, fun Q hQ => ?_, fun Q hQ => ?_⟩
              · have hQ : Q (decide (s.lo.v vs ≤ v.a + k4) && decide (v.a + k4 ≤ s.hi.v vs)) _ := hQ
                simp [wipeG]
                by_cases c : s.lo.v vs ≤ v.a + k4
                · rw [decide_eq_true c, Bool.true_and] at hQ
                  simp [c]
                  exact hQ
                · rw [decide_eq_false c, Bool.false_and] at hQ
                  simp [c]
                  exact hQ
              · simp [wipeG]
                exact hQ
            · have e9 : chStep p vs i (chs p vs i (m.ss.take k3)) s = (rgI v.a (v.b + 1)).filter (inR s vs) := by unfold chStep; rw [if_pos c, e]
              rw [← rgI_d, filter_d, ← e9, ← st]
              simp
              exact hJ3 _ _ ⟨_, _, _, _, rfl⟩
          · rename_i c
            have c : ¬ s.i = i := by omega
            have e9 : chStep p vs i (chs p vs i (m.ss.take k3)) s = chs p vs i (m.ss.take k3) := by unfold chStep; rw [if_neg c]
            rw [e9] at st
            exact hJ3 _ _ ⟨_, _, _, _, by rw [st]⟩
        · rintro G' ⟨a8, a9, a10, a11, rfl⟩
          have cl := chs_len hp il (vs := vs) (m.ss.take (m.ss.map Stg.d).length) [vs.getD i 0] (by simp)
          have cl : (chs p vs i (m.ss.take (m.ss.map Stg.d).length)).length ≤ 3 := cl
          have e9 : m.ss.take (m.ss.map Stg.d).length = m.ss := by rw [List.length_map, List.take_length]
          rw [e9] at cl
          rw [e9]
          simp
          refine ⟨(mvRows p q vs m k2).map (·.map .int), (chs p vs i m.ss).map .int, by rw [List.map_map]; rfl, by rw [List.length_map]; omega, by rw [List.length_map]; omega, ?_, fun r hr => ?_, ?_⟩
          · rw [List.length_map, List.length_map]
            have := Nat.mul_le_mul (Nat.le_trans ml p3) cl
            omega
          · obtain ⟨w, hw, rfl⟩ := List.mem_map.mp hr
            rw [List.length_map, (mok w hw).1]
            omega
          · rw [bx_map, ← succ, List.map_map]
            simp
            exact hJ2 _ _ ⟨_, _, _, _, _, _, rfl⟩
      · rintro G' ⟨a6, a7, a8, a9, a10, a11, rfl⟩
        have e9 : (rgD (q.i : Int) ((q.i : Int) + (q.k : Int))).length = q.k := by rw [rg_len]; omega
        rw [e9]
        have ml := mvRows_len hp (q := q) (vs := vs) (m := m) q.k z1
        have p3 : 3 ^ q.k ≤ 9 := by
          have := Nat.pow_le_pow_right (n := 3) (by decide) z3
          omega
        have hlast := fold_take (f := fun f m => addN f (mvRows p q vs m q.k)) (a := ([] : List (List Int))) hm
        rw [hf] at hlast
        generalize hrows : mvRows p q vs m q.k = rows at ml hlast
        simp
        refine for_gen (fun k2 G' => ∃ (a12 : Slot), G' = [.im p.d, .im q.d, .im (eI vs), .ow l (.lst ((addN f (rows.take k2)).map eI)), .im m.d, .im (.list (rows.map eI)), a6, a7, a8, a9, a10, a11, a12, .un])
          ⟨_, rfl⟩ (fun _ _ _ _ => trivial) ?_ ?_
        · rintro J2 hJ2 k2 d G' hk2 ⟨a12, rfl⟩
          obtain ⟨r, hr, rfl⟩ := map_get hk2
          have e8 : addN f (rows.take (k2 + 1)) = if r ∈ addN f (rows.take k2) then addN f (rows.take k2) else addN f (rows.take k2) ++ [r] := fold_take hr
          have al := addN_len (rows.take k2) f
          rw [List.length_take] at al
          generalize addN f (rows.take k2) = g at e8 al
          simp [shaped_eI, shaped_rows, any_eI]
          split
          · rename_i c
            rw [if_neg (fun hr => by have := c r hr; rw [eqv_eI] at this; simp at this)] at e8
            refine ⟨by omega, hJ2 _ _ ⟨_, by rw [e8, List.map_append]; rfl⟩⟩
          · rename_i c
            rw [if_pos (Classical.byContradiction fun hn => c fun x hx => by rw [eqv_eI]; exact decide_eq_false fun e => hn (e ▸ hx))] at e8
            exact hJ2 _ _ ⟨_, by rw [e8]⟩
        · rintro G' ⟨a12, rfl⟩
          rw [List.length_map, List.take_length]
          simp
          refine hJ _ _ ⟨_, _, _, _, _, _, _, _, _, by rw [hlast]⟩
    · rw [e5] at hr0
      simp [Pt.d]
      refine ⟨by omega, ?_⟩
      refine for_gen (fun k2 G' => ∃ (a6 a7 a8 a9 a10 a11 : Slot), G' = [.im p.d, .im q.d, .im (eI vs), .ow l (.lst (f.map eI)), .im m.d, .im (.list ((mvRows p q vs m k2).map eI)), a6, a7, a8, a9, a10, a11, a12, .un])
        ⟨_, _, _, _, _, _, by rw [hr0]; rfl⟩ (fun _ _ _ _ => trivial) ?_ ?_
      · rintro J2 hJ2 k2 d G' hk2 ⟨a6, a7, a8, a9, a10, a11, rfl⟩
        obtain ⟨rfl, hk3⟩ := rg_get hk2
        have il : q.i + k2 < p.vs.length := by omega
        have ei : (q.i : Int) + (k2 : Int) = ((q.i + k2 : Nat) : Int) := by omega
        have av := at_var hv il
        have succ := mvRows_succ (p := p) (q := q) (vs := vs) (m := m) (k := k2)
        have ml := mvRows_len hp (q := q) (vs := vs) (m := m) k2 (by omega)
        have mok := mvRows_ok hp (q := q) (m := m) hv.1 k2 (by omega)
        have p3 : 3 ^ k2 ≤ 9 := by
          have := Nat.pow_le_pow_right (n := 3) (by decide) (show k2 ≤ 2 by omega)
          omega
        generalize hi : q.i + k2 = i at ei il av succ
        rw [ei]
        simp only [eI]
        simp [av]
        refine asgL_im ?_
        simp [Mv.d, av]
        refine for_gen (fun k3 G' => ∃ (a8 a9 a10 a11 : Slot), G' = [.im p.d, .im q.d, .im (eI vs), .ow l (.lst (f.map eI)), .im m.d, .im (.list ((mvRows p q vs m k2).map eI)), .im (.int (i : Int)), .im (.list ((chs p vs i (m.ss.take k3)).map .int)), a8, a9, a10, a11, a12, .un])
          ⟨_, _, _, _, rfl⟩ (fun _ _ _ _ => trivial) ?_ ?_
        · rintro J3 hJ3 k3 d G' hk3 ⟨a8, a9, a10, a11, rfl⟩
          obtain ⟨s, hs, rfl⟩ := map_get hk3
          obtain ⟨s1, s2⟩ := m3 s (List.mem_of_getElem? hs)
          have st := chs_step (p := p) (vs := vs) (i := i) hs
          simp [Stg.d]
          split
          · rename_i c
            have c : s.i = i := by omega
            refine ⟨s.lo, vs, _, rfl, s1, hv, ?_⟩
            simp
            refine ⟨s.hi, vs, _, rfl, s2, hv, ?_⟩
            obtain ⟨v, e1, e, v1, v2, v3, v4, v5, v6⟩ := vr_ok hp il
            have pa := pt_at hp il
            rw [e] at pa
            simp [Pl.d, pD, pa, Vr.d]
            refine ⟨by omega, ?_⟩
            refine lc_filter (fInt (inR s vs)) rfl trivial (by rw [rg_len]; omega) ?_ ?_
            · rintro k4 d hk4
              obtain ⟨rfl, _⟩ := rg_get hk4
              refine ⟨_, rfl, fun Q hQ => ?_, fun Q hQ => ?_⟩
              · have hQ : Q (decide (s.lo.v vs ≤ v.a + k4) && decide (v.a + k4 ≤ s.hi.v vs)) _ := hQ
                simp [wipeG]
                by_cases c : s.lo.v vs ≤ v.a + k4
                · rw [decide_eq_true c, Bool.true_and] at hQ
                  simp [c]
                  exact hQ
                · rw [decide_eq_false c, Bool.false_and] at hQ
                  simp [c]
                  exact hQ
              · simp [wipeG]
                exact hQ
            · have e9 : chStep p vs i (chs p vs i (m.ss.take k3)) s = (rgI v.a (v.b + 1)).filter (inR s vs) := by unfold chStep; rw [if_pos c, e]
              rw [← rgI_d, filter_d, ← e9, ← st]
              simp
              exact hJ3 _ _ ⟨_, _, _, _, rfl⟩
          · rename_i c
            have c : ¬ s.i = i := by omega
            have e9 : chStep p vs i (chs p vs i (m.ss.take k3)) s = chs p vs i (m.ss.take k3) := by unfold chStep; rw [if_neg c]
            rw [e9] at st
            exact hJ3 _ _ ⟨_, _, _, _, by rw [st]⟩
        · rintro G' ⟨a8, a9, a10, a11, rfl⟩
          have cl := chs_len hp il (vs := vs) (m.ss.take (m.ss.map Stg.d).length) [vs.getD i 0] (by simp)
          have cl : (chs p vs i (m.ss.take (m.ss.map Stg.d).length)).length ≤ 3 := cl
          have e9 : m.ss.take (m.ss.map Stg.d).length = m.ss := by rw [List.length_map, List.take_length]
          rw [e9] at cl
          rw [e9]
          simp
          refine ⟨(mvRows p q vs m k2).map (·.map .int), (chs p vs i m.ss).map .int, by rw [List.map_map]; rfl, by rw [List.length_map]; omega, by rw [List.length_map]; omega, ?_, fun r hr => ?_, ?_⟩
          · rw [List.length_map, List.length_map]
            have := Nat.mul_le_mul (Nat.le_trans ml p3) cl
            omega
          · obtain ⟨w, hw, rfl⟩ := List.mem_map.mp hr
            rw [List.length_map, (mok w hw).1]
            omega
          · rw [bx_map, ← succ, List.map_map]
            simp
            exact hJ2 _ _ ⟨_, _, _, _, _, _, rfl⟩
      · rintro G' ⟨a6, a7, a8, a9, a10, a11, rfl⟩
        have e9 : (rgD (q.i : Int) ((q.i : Int) + (q.k : Int))).length = q.k := by rw [rg_len]; omega
        rw [e9]
        have ml := mvRows_len hp (q := q) (vs := vs) (m := m) q.k z1
        have p3 : 3 ^ q.k ≤ 9 := by
          have := Nat.pow_le_pow_right (n := 3) (by decide) z3
          omega
        have hlast := fold_take (f := fun f m => addN f (mvRows p q vs m q.k)) (a := ([] : List (List Int))) hm
        rw [hf] at hlast
        generalize hrows : mvRows p q vs m q.k = rows at ml hlast
        simp
        refine for_gen (fun k2 G' => ∃ (a12 : Slot), G' = [.im p.d, .im q.d, .im (eI vs), .ow l (.lst ((addN f (rows.take k2)).map eI)), .im m.d, .im (.list (rows.map eI)), a6, a7, a8, a9, a10, a11, a12, .un])
          ⟨_, rfl⟩ (fun _ _ _ _ => trivial) ?_ ?_
        · rintro J2 hJ2 k2 d G' hk2 ⟨a12, rfl⟩
          obtain ⟨r, hr, rfl⟩ := map_get hk2
          have e8 : addN f (rows.take (k2 + 1)) = if r ∈ addN f (rows.take k2) then addN f (rows.take k2) else addN f (rows.take k2) ++ [r] := fold_take hr
          have al := addN_len (rows.take k2) f
          rw [List.length_take] at al
          generalize addN f (rows.take k2) = g at e8 al
          simp [shaped_eI, shaped_rows, any_eI]
          split
          · rename_i c
            rw [if_neg (fun hr => by have := c r hr; rw [eqv_eI] at this; simp at this)] at e8
            refine ⟨by omega, hJ2 _ _ ⟨_, by rw [e8, List.map_append]; rfl⟩⟩
          · rename_i c
            rw [if_pos (Classical.byContradiction fun hn => c fun x hx => by rw [eqv_eI]; exact decide_eq_false fun e => hn (e ▸ hx))] at e8
            exact hJ2 _ _ ⟨_, by rw [e8]⟩
        · rintro G' ⟨a12, rfl⟩
          rw [List.length_map, List.take_length]
          simp
          refine hJ _ _ ⟨_, _, _, _, _, _, _, _, _, by rw [hlast]⟩
  · rintro G' ⟨a4, a5, a6, a7, a8, a9, a10, a11, a12, rfl⟩
    rw [List.length_map, List.take_length]
    simp
    exact h
end Wd

/-! C25: the law's next states, first states, readings. -/
namespace Wd
open PySem PySem.Spec PyProof.Rows L2
def spNx : FSp := fun ds P _ => ∃ (p : Pl) (vs : List Int), ds = [p.d, eI vs] ∧ PlOk p ∧ VOk p.vs.length vs ∧ P (.list ((nx p vs).map eI))
def nxT (p : Pl) (vs : List Int) (k : Nat) : List (List Int) := (p.ps.take k).foldl (nxStep p vs) [[]]
theorem nxT_succ {p : Pl} {vs : List Int} {k : Nat} {q : Pt} (h : p.ps[k]? = some q) : nxT p vs (k + 1) = nxStep p vs (nxT p vs k) q := fold_take h
theorem nxStep_len {p : Pl} {vs : List Int} {q : Pt} {rows : List (List Int)} : (nxStep p vs rows q).length = rows.length * (ptNx p q vs).length := by
  unfold nxStep
  induction rows with
  | nil => simp
  | cons r rs ih => rw [List.flatMap_cons, List.length_append, ih, List.length_map, List.length_cons, Nat.succ_mul, Nat.add_comm]
theorem nxT_len {p : Pl} (h : PlOk p) {vs : List Int} : ∀ k, k ≤ p.ps.length → (nxT p vs k).length ≤ 36 ^ k
  | 0, _ => by show ([[]] : List (List Int)).length ≤ 1; simp
  | k + 1, hk => by
    have e := List.getElem?_eq_getElem (show k < p.ps.length by omega)
    rw [nxT_succ e, nxStep_len, Nat.pow_succ]
    exact Nat.mul_le_mul (nxT_len h k (by omega)) (ptNx_len h (List.getElem_mem _))
theorem seg_le : ∀ {a b : Nat} {ps : List Pt}, Seg a ps b → a ≤ b
  | a, b, [], h => Nat.le_of_eq h
  | a, b, q :: r, h => by have := seg_le h.2; omega
theorem seg_len : ∀ {a b : Nat} {ps : List Pt}, Seg a ps b → ∀ k, ∃ c, Seg a (ps.take k) c ∧ c ≤ b
  | a, b, ps, h, 0 => ⟨a, rfl, seg_le h⟩
  | a, b, [], h, k + 1 => ⟨b, h, Nat.le_refl _⟩
  | a, b, q :: r, h, k + 1 => by
    obtain ⟨c, h1, h2⟩ := seg_len h.2 k
    exact ⟨c, ⟨h.1, h1⟩, h2⟩
theorem nxT_rl {p : Pl} (h : PlOk p) {vs : List Int} (hv : VOk p.vs.length vs) (k : Nat) : ∀ w ∈ nxT p vs k, w.length ≤ 5 := by
  obtain ⟨c, h1, h2⟩ := seg_len h.seg k
  have := (nxf h hv.1 (p.ps.take k) 0 c [[]] (fun q hq => List.mem_of_mem_take hq) h1 (by simp) (by intro w hw; rw [List.mem_singleton.mp hw]; exact ⟨rfl, by simp⟩)).2
  have n5 := h.n5
  intro w hw
  have := (this w hw).1
  omega
theorem nxS_take {p : Pl} {vs : List Int} {q : Pt} {rows : List (List Int)} {k : Nat} {r : List Int} (h : rows[k]? = some r) : nxStep p vs (rows.take (k + 1)) q = nxStep p vs (rows.take k) q ++ (ptNx p q vs).map fun o => r ++ o := by
  unfold nxStep
  rw [List.take_add_one, h, List.flatMap_append]
  simp
theorem vc_nx (ds : List D) (Pd : D → Prop) (Px : Prop) (h : spNx ds Pd Px) : ir_law_next spPart (start0 n_law_next.length ds) (goal false Pd Px) := by
  obtain ⟨p, vs, rfl, hp, hv, h⟩ := h
  simp [ir_law_next, start0, n_law_next]
  refine asgL_im ?_
  simp [Pl.d, pD]
  refine for_gen (fun k G' => ∃ (a3 a4 a5 a6 a7 : Slot), G' = [.im p.d, .im (eI vs), .im (.list ((nxT p vs k).map eI)), a3, a4, a5, a6, a7])
    ⟨_, _, _, _, _, rfl⟩ (fun _ _ _ _ => trivial) ?_ ?_
  · rintro J hJ k d G' hk ⟨a3, a4, a5, a6, a7, rfl⟩
    obtain ⟨q, hq, rfl⟩ := map_get hk
    have kl := (List.getElem?_eq_some_iff.mp hq).1
    have hz := hp.pz
    have tl := nxT_len hp (vs := vs) k (by omega)
    have rl := nxT_rl hp hv k
    have su := nxT_succ (vs := vs) hq
    have pl := ptNx_len hp (vs := vs) (List.mem_of_getElem? hq)
    have pok := ptNx_ok hp hv.1 (List.mem_of_getElem? hq)
    obtain ⟨_, _, qk, _, _⟩ := hp.pt q (List.mem_of_getElem? hq)
    have p3 : 36 ^ k ≤ 1296 := by
      have := Nat.pow_le_pow_right (n := 36) (by decide) (show k ≤ 2 by omega)
      omega
    generalize nxT p vs k = rows at tl rl su
    simp
    refine ⟨p, q, vs, rfl, hp, List.mem_of_getElem? hq, hv, ?_⟩
    simp
    refine asgL_own ?_
    simp
    intro l
    have bd := Nat.mul_le_mul (Nat.le_trans tl p3) pl
    refine for_gen (fun k2 G' => ∃ (a6 a7 : Slot), G' = [.im p.d, .im (eI vs), .im (.list (rows.map eI)), .im q.d, .im (.list ((ptNx p q vs).map eI)), .ow l (.lst ((nxStep p vs (rows.take k2) q).map eI)), a6, a7])
      ⟨_, _, rfl⟩ (fun _ _ _ _ => trivial) ?_ ?_
    · rintro J2 hJ2 k2 d G' hk2 ⟨a6, a7, rfl⟩
      obtain ⟨r, hr, rfl⟩ := map_get hk2
      have kl2 := (List.getElem?_eq_some_iff.mp hr).1
      have rr := rl r (List.mem_of_getElem? hr)
      have s2 := nxS_take (p := p) (vs := vs) (q := q) hr
      have sl := nxStep_len (p := p) (vs := vs) (q := q) (rows := rows.take k2)
      rw [List.length_take, Nat.min_eq_left (by omega)] at sl
      have bd2 := le_mul (n := 1296 * 36) (a := k2) (b := (ptNx p q vs).length) bd (by omega) (Nat.le_refl _)
      generalize nxStep p vs (rows.take k2) q = acc at s2 sl
      simp
      refine for_gen (fun k3 G' => ∃ (a7 : Slot), G' = [.im p.d, .im (eI vs), .im (.list (rows.map eI)), .im q.d, .im (.list ((ptNx p q vs).map eI)), .ow l (.lst ((acc ++ ((ptNx p q vs).take k3).map fun o => r ++ o).map eI)), .im (eI r), a7])
        ⟨_, by simp; rfl⟩ (fun _ _ _ _ => trivial) ?_ ?_
      · rintro J3 hJ3 k3 d G' hk3 ⟨a7, rfl⟩
        obtain ⟨o, ho, rfl⟩ := map_get hk3
        have ol := (pok o (List.mem_of_getElem? ho)).1
        have kl3 := (List.getElem?_eq_some_iff.mp ho).1
        simp only [eI]
        simp [-List.map_append]
        refine ⟨by omega, by omega, hJ3 _ _ ⟨.im (eI o), by rw [List.take_add_one, ho]; simp [eI]⟩⟩
      · rintro G' ⟨a7, rfl⟩
        rw [List.length_map, List.take_length, ← s2]
        exact hJ2 _ _ ⟨_, _, rfl⟩
    · rintro G' ⟨a6, a7, rfl⟩
      rw [List.length_map, List.take_length, ← su]
      simp
      exact hJ _ _ ⟨_, _, _, _, _, rfl⟩
  · rintro G' ⟨a3, a4, a5, a6, a7, rfl⟩
    rw [List.length_map]
    have : nxT p vs p.ps.length = nx p vs := by unfold nxT; rw [List.take_length]; rfl
    rw [this]
    simp
    exact h
/-! ### the first states -/
def spFs : FSp := fun ds P _ => ∃ p : Pl, ds = [p.d] ∧ PlOk p ∧ P (.list ((fsS p).map eI))
def fsT (p : Pl) (k : Nat) : List (List Int) := (p.vs.take k).foldl (fun rows v => bx rows (rgI v.lo (v.hi + 1))) [[]]
theorem fsT_succ {p : Pl} {k : Nat} {v : Vr} (h : p.vs[k]? = some v) : fsT p (k + 1) = bx (fsT p k) (rgI v.lo (v.hi + 1)) := fold_take h
theorem bx_nodup {α : Type} {rows : List (List α)} {cs : List α} (h1 : rows.Nodup) (h2 : cs.Nodup) : (bx rows cs).Nodup := by
  unfold bx
  induction rows with
  | nil => exact List.nodup_nil
  | cons r0 rs ih =>
    have hn := List.nodup_cons.mp h1
    rw [List.flatMap_cons, List.nodup_append]
    refine ⟨?_, ih hn.2, fun x hx y hy e => ?_⟩
    · rw [List.nodup_iff_pairwise_ne, List.pairwise_map]
      exact h2.imp fun h e => h (by simpa using e)
    · obtain ⟨o, _, rfl⟩ := List.mem_map.mp hx
      obtain ⟨r1, hr1, hy⟩ := List.mem_flatMap.mp hy
      obtain ⟨o2, _, rfl⟩ := List.mem_map.mp hy
      have := (List.append_inj' e rfl).1
      exact hn.1 (this ▸ hr1)
theorem fsT_ok {p : Pl} (h : PlOk p) : ∀ k, k ≤ p.vs.length → (fsT p k).length ≤ 3 ^ k ∧ (fsT p k).Nodup ∧ ∀ w ∈ fsT p k, OkW p [] 0 k w
  | 0, _ => ⟨by show ([[]] : List (List Int)).length ≤ 1; simp, by show ([[]] : List (List Int)).Nodup; simp, fun w hw => by
      have hw : w ∈ ([[]] : List (List Int)) := hw
      rw [List.mem_singleton.mp hw]; exact ⟨rfl, by simp⟩⟩
  | k + 1, hk => by
    have e := List.getElem?_eq_getElem (show k < p.vs.length by omega)
    obtain ⟨a, b, c⟩ := fsT_ok h k (by omega)
    obtain ⟨v1, v2, v3, v4, v5, v6⟩ := h.v _ (List.getElem_mem (show k < p.vs.length by omega))
    rw [fsT_succ e]
    refine ⟨?_, bx_nodup b (rgI_nodup _ _), fun w hw => ?_⟩
    · rw [bx_len, Nat.pow_succ]
      exact Nat.mul_le_mul a (by rw [rgI_len]; omega)
    · obtain ⟨r, x, hr, hx, rfl⟩ := bx_mem.mp hw
      have hx := rgI_mem.mp hx
      refine okw_app (c r hr) ⟨rfl, fun t y hy => ?_⟩
      have : t = 0 ∧ x = y := by
        rcases t with _ | t
        · exact ⟨rfl, by simpa using hy⟩
        · simp at hy
      obtain ⟨rfl, rfl⟩ := this
      exact .inr ⟨_, by rw [Nat.zero_add, Nat.add_zero]; exact e, by omega, by omega⟩
theorem fs_eq {p : Pl} : fsT p p.vs.length = fsS p := by unfold fsT; rw [List.take_length]; rfl
theorem fss_ok {p : Pl} (h : PlOk p) : (fsS p).length ≤ 243 ∧ (fsS p).Nodup ∧ ∀ w ∈ fsS p, OkW p [] 0 p.vs.length w := by
  obtain ⟨a, b, c⟩ := fsT_ok h p.vs.length (Nat.le_refl _)
  have n5 := h.n5
  have p3 : 3 ^ p.vs.length ≤ 243 := by
    have := Nat.pow_le_pow_right (n := 3) (by decide) n5
    omega
  rw [fs_eq] at a b c
  exact ⟨by omega, b, c⟩
theorem fs_vok {p : Pl} (h : PlOk p) : ∀ w ∈ fsS p, VOk p.vs.length w := by
  intro w hw
  have ho := (fss_ok h).2.2 w hw
  refine ⟨ho.1, fun x hx => ?_⟩
  obtain ⟨t, ht⟩ := List.mem_iff_getElem?.mp hx
  rcases ho.2 t x ht with z | ⟨v, z, a, b⟩
  · simp at z
  · obtain ⟨h1, h2, h3, h4, h5, h6⟩ := h.v v (List.mem_of_getElem? z)
    omega
theorem vc_fs (ds : List D) (Pd : D → Prop) (Px : Prop) (h : spFs ds Pd Px) : ir_law_first spBox (start0 n_law_first.length ds) (goal false Pd Px) := by
  obtain ⟨p, rfl, hp, h⟩ := h
  have n5 := hp.n5
  simp [ir_law_first, start0, n_law_first]
  refine asgL_im ?_
  simp [Pl.d, pD]
  refine for_gen (fun k G' => ∃ (a2 : Slot), G' = [.im p.d, .im (.list ((fsT p k).map eI)), a2]) ⟨_, rfl⟩ (fun _ _ _ _ => trivial) ?_ ?_
  · rintro J hJ k d G' hk ⟨a2, rfl⟩
    obtain ⟨v, hv, rfl⟩ := map_get hk
    have kl := (List.getElem?_eq_some_iff.mp hv).1
    obtain ⟨a, b, c⟩ := fsT_ok hp k (by omega)
    have p3 : 3 ^ k ≤ 81 := by
      have := Nat.pow_le_pow_right (n := 3) (by decide) (show k ≤ 4 by omega)
      omega
    obtain ⟨v1, v2, v3, v4, v5, v6⟩ := hp.v _ (List.mem_of_getElem? hv)
    have su := fsT_succ hv
    simp [Vr.d]
    refine ⟨by unfold RgOk; omega, (fsT p k).map (·.map .int), (rgI v.lo (v.hi + 1)).map .int, ?_, by rw [List.length_map]; omega, by rw [List.length_map, rgI_len]; omega, ?_, fun r hr => ?_, ?_⟩
    · rw [rgI_d, List.map_map]; rfl
    · rw [List.length_map, List.length_map]
      have := Nat.mul_le_mul (Nat.le_trans a p3) (show (rgI v.lo (v.hi + 1)).length ≤ 3 by rw [rgI_len]; omega)
      omega
    · obtain ⟨w, hw, rfl⟩ := List.mem_map.mp hr
      rw [List.length_map, (c w hw).1]
      omega
    · rw [bx_map, ← su, List.map_map]
      simp
      exact hJ _ _ ⟨_, rfl⟩
  · rintro G' ⟨a2, rfl⟩
    rw [List.length_map, fs_eq]
    simp
    exact h
end Wd

/-! C26: the law's states. -/
namespace Wd
open PySem PySem.Spec PyProof.Rows L2
inductive Rch (p : Pl) : List Int → Prop
  | first {w : List Int} : w ∈ fsS p → Rch p w
  | next {v w : List Int} : Rch p v → w ∈ nx p v → Rch p w
theorem rch_vok {p : Pl} (h : PlOk p) {w : List Int} (hr : Rch p w) : VOk p.vs.length w := by
  induction hr with
  | first h1 => exact fs_vok h _ h1
  | next _ h2 ih => exact nx_vok h ih _ h2
structure StOk (p : Pl) (most : Nat) (S : List (List Int)) : Prop where
  nd : S.Nodup
  rc : ∀ w ∈ S, Rch p w
  fl : S.length ≤ most → (fsS p).length ≤ S.length
  cl : S.length ≤ most → ∀ v ∈ S, ∀ w ∈ nx p v, w ∈ S
  zz : S.length ≤ 100000
def spStates : FSp := fun ds P _ => ∃ (p : Pl) (most : Nat), ds = [p.d, .int (most : Int)] ∧ PlOk p ∧ most ≤ 100 ∧ ∀ S, StOk p most S → P (.list (S.map eI))
theorem nx_len {p : Pl} (h : PlOk p) {vs : List Int} : (nx p vs).length ≤ 46656 := by
  have e : nxT p vs p.ps.length = nx p vs := by unfold nxT; rw [List.take_length]; rfl
  have a := nxT_len h (vs := vs) p.ps.length (Nat.le_refl _)
  have z := h.pz
  have := Nat.pow_le_pow_right (n := 36) (by decide) z
  rw [e] at a
  omega
structure KnS (S : List (List Int)) (kvs : Kvs) : Prop where
  look : ∀ w, (dlook kvs (kI w)).isSome = true ↔ w ∈ S
  len : kvs.length ≤ S.length
theorem ks_put {S : List (List Int)} {kvs : Kvs} (h : KnS S kvs) (w : List Int) (d : D) : KnS (S ++ [w]) (dput kvs (kI w) d) := by
  refine ⟨fun x => ?_, ?_⟩
  · rw [look_put, List.mem_append, List.mem_singleton, ← h.look]
    by_cases c : kI x = kI w
    · have := kI_inj c
      simp [this]
    · have : ¬ x = w := fun e => c (by rw [e])
      simp [c, this]
  · have := put_le (kvs := kvs) (k := kI w) (d := d)
    have := h.len
    rw [List.length_append]
    simp
    omega
/-- what holds of the states found before the k-th is looked at -/
structure SInv (p : Pl) (most k : Nat) (S : List (List Int)) (kvs : Kvs) : Prop where
  ks : KnS S kvs
  nd : S.Nodup
  rc : ∀ w ∈ S, Rch p w
  pre : ∃ ext, S = (fsS p).take (most + 1) ++ ext
  cl : S.length ≤ most → ∀ j < k, ∀ v, S[j]? = some v → ∀ w ∈ nx p v, w ∈ S
  zz : S.length ≤ most + 46657
theorem vc_states (ds : List D) (Pd : D → Prop) (Px : Prop) (h : spStates ds Pd Px) : ir_law_states spNx spFs (start0 n_law_states.length ds) (goal false Pd Px) := by
  obtain ⟨p, most, rfl, hp, hm, h⟩ := h
  obtain ⟨f1, f2, f3⟩ := fss_ok hp
  simp [ir_law_states, start0, n_law_states]
  refine asgL_own ?_
  simp
  refine ⟨p, rfl, hp, ?_⟩
  have ec : cutD ((fsS p).map eI) none (some ((most : Int) + 1)) = ((fsS p).take (most + 1)).map eI := by
    have := cut_take ((fsS p).map eI) (most + 1)
    rw [show (((most + 1 : Nat)) : Int) = (most : Int) + 1 by omega] at this
    rw [this, List.map_take]
  simp [ec, -List.map_take]
  intro l
  refine ⟨true, fun l2 => ?_⟩
  have tl : ((fsS p).take (most + 1)).length ≤ most + 1 := by rw [List.length_take]; omega
  have tn : ((fsS p).take (most + 1)).Nodup := f2.sublist (List.take_sublist _ _)
  have tr : ∀ w ∈ (fsS p).take (most + 1), Rch p w := fun w hw => .first (List.mem_of_mem_take hw)
  generalize hS0 : (fsS p).take (most + 1) = S0 at tl tn tr
  simp
  refine for_gen (fun k G' => ∃ (a4 : Slot) (kvs : Kvs), G' = [.im p.d, .im (.int (most : Int)), .ow l (.lst (S0.map eI)), .ow l2 (.dct true kvs), a4, .un, .un] ∧ KnS (S0.take k) kvs)
    ⟨_, [], rfl, ⟨by simp, by simp⟩⟩ (by rintro k G' _ ⟨a4, kvs, rfl, _⟩; rfl) ?_ ?_
  · rintro J hJ k d G' hk ⟨a4, kvs, rfl, ks⟩
    obtain ⟨w, hw, rfl⟩ := map_get hk
    have := ks.len
    rw [List.length_take] at this
    simp
    refine ⟨by omega, hJ _ _ ⟨_, _, rfl, ?_⟩⟩
    rw [List.take_add_one, hw]
    exact ks_put ks w _
  · rintro G' ⟨a4, kvs, rfl, ks⟩
    rw [List.length_map, List.take_length] at ks
    simp
    refine ⟨by omega, ?_⟩
    refine for_gen (fun k G' => ∃ (a5 a6 : Slot) (S : List (List Int)) (kvs : Kvs), G' = [.im p.d, .im (.int (most : Int)), .ow l (.lst (S.map eI)), .ow l2 (.dct true kvs), a4, a5, a6] ∧ SInv p most k S kvs)
      ⟨_, _, S0, kvs, rfl, ⟨ks, tn, tr, ⟨[], by rw [List.append_nil, hS0]⟩, fun _ j hj => absurd hj (by omega), by omega⟩⟩ (fun _ _ _ _ => trivial) ?_ ?_
    · rintro J hJ k d G' hk ⟨a5, a6, S, kvs, rfl, I⟩
      obtain ⟨rfl, hk3⟩ := rg0 hk
      by_cases c : k < S.length ∧ S.length ≤ most
      · obtain ⟨c1, c2⟩ := c
        have c1' : (k : Int) < (S.length : Int) := by omega
        have c2' : (S.length : Int) ≤ (most : Int) := by omega
        have e1 := List.getElem?_eq_getElem c1
        generalize S[k] = v at e1
        have hr := I.rc v (List.mem_of_getElem? e1)
        have ea := at_map (f := eI) e1
        have nl := nx_len hp (vs := v)
        simp [c1', c2', ea]
        refine ⟨p, v, rfl, hp, rch_vok hp hr, ?_⟩
        have nm : ∀ w ∈ nx p v, Rch p w := fun w hw => .next hr hw
        generalize hrw : nx p v = rows at nl nm
        simp
        refine for_gen (fun k2 G' => ∃ (a6 : Slot) (ext : List (List Int)) (kvs : Kvs), G' = [.im p.d, .im (.int (most : Int)), .ow l (.lst ((S ++ ext).map eI)), .ow l2 (.dct true kvs), a4, .im (.int (k : Int)), a6] ∧
            KnS (S ++ ext) kvs ∧ (S ++ ext).Nodup ∧ (∀ w ∈ S ++ ext, Rch p w) ∧ ext.length ≤ k2 ∧ ∀ w ∈ rows.take k2, w ∈ S ++ ext)
          ⟨_, [], kvs, by rw [List.append_nil], by rw [List.append_nil]; exact I.ks, by rw [List.append_nil]; exact I.nd, by rw [List.append_nil]; exact I.rc, by simp, by simp⟩ (fun _ _ _ _ => trivial) ?_ ?_
        · rintro J2 hJ2 k2 d G' hk2 ⟨a6, ext, kvs, rfl, i1, i2, i3, i4, i5⟩
          obtain ⟨w, hw, rfl⟩ := map_get hk2
          have kl := (List.getElem?_eq_some_iff.mp hw).1
          have il := i1.len
          have lk := i1.look w
          rw [List.length_append] at il
          by_cases cw : w ∈ S ++ ext
          · have lk := lk.mpr cw
            simp [lk, -List.map_append]
            refine hJ2 _ _ ⟨_, ext, kvs, rfl, i1, i2, i3, by omega, fun x hx => ?_⟩
            rw [List.take_add_one, hw] at hx
            rcases List.mem_append.mp hx with z | z
            · exact i5 x z
            · have : x = w := by simpa using z
              rw [this]; exact cw
          · have lk : dlook kvs (kI w) = none := by
              cases e : dlook kvs (kI w) with
              | none => rfl
              | some x => exact absurd (lk.mp (by rw [e]; rfl)) cw
            have ap : (S ++ ext) ++ [w] = S ++ (ext ++ [w]) := List.append_assoc _ _ _
            simp [lk, -List.map_append]
            refine ⟨by omega, by omega, hJ2 _ _ ⟨.im (eI w), ext ++ [w], dput kvs (kI w) (.bool true), ?_, by rw [← ap]; exact ks_put i1 w _, ?_, ?_, by simp; omega, ?_⟩⟩
            · rw [← ap, List.map_append (l₁ := S ++ ext)]
              rfl
            · rw [← ap, List.nodup_append]
              refine ⟨i2, by simp, fun a ha b hb => ?_⟩
              rw [List.mem_singleton.mp hb]
              exact fun e => cw (e ▸ ha)
            · intro x hx
              rw [← ap] at hx
              rcases List.mem_append.mp hx with z | z
              · exact i3 x z
              · rw [List.mem_singleton.mp z]; exact nm w (List.mem_of_getElem? hw)
            · intro x hx
              rw [← ap]
              rw [List.take_add_one, hw] at hx
              rcases List.mem_append.mp hx with z | z
              · exact List.mem_append_left _ (i5 x z)
              · exact List.mem_append_right _ (by simpa using z)
        · rintro G' ⟨a6, ext, kvs, rfl, i1, i2, i3, i4, i5⟩
          rw [List.length_map] at i4 i5
          rw [List.take_length] at i5
          obtain ⟨e0, he0⟩ := I.pre
          refine hJ _ _ ⟨_, _, S ++ ext, kvs, rfl, ⟨i1, i2, i3, ⟨e0 ++ ext, by rw [he0, List.append_assoc]⟩, fun hz j hj x hx => ?_, by rw [List.length_append]; omega⟩⟩
          by_cases cj : j < k
          · rw [List.getElem?_append_left (by omega)] at hx
            exact fun w hw => List.mem_append_left _ (I.cl c2 j cj x hx w hw)
          · have : j = k := by omega
            rw [this, List.getElem?_append_left c1, e1] at hx
            rw [← Option.some.inj hx, hrw]
            exact i5
      · have I2 : SInv p most (k + 1) S kvs := by
          refine { I with cl := fun hz j hj x hx => ?_ }
          have := (List.getElem?_eq_some_iff.mp hx).1
          refine I.cl hz j (by omega) x hx
        by_cases c1 : k < S.length
        · have c1' : (k : Int) < (S.length : Int) := by omega
          have c2' : ¬ (S.length : Int) ≤ (most : Int) := by omega
          simp [c1, c2']
          first
            | exact hJ _ _ ⟨_, _, S, kvs, rfl, I2⟩
            | (intro z; omega)
        · have c1' : ¬ (k : Int) < (S.length : Int) := by omega
          simp [c1']
          first
            | exact hJ _ _ ⟨_, _, S, kvs, rfl, I2⟩
    · rintro G' ⟨a5, a6, S, kvs, rfl, I⟩
      have e9 : (rgD 0 ((most : Int) + 1)).length = most + 1 := by rw [rg_len]; omega
      rw [e9] at I
      simp
      obtain ⟨ext, he⟩ := I.pre
      refine h S ⟨I.nd, I.rc, fun hz => ?_, fun hz v hv => ?_, by have := I.zz; omega⟩
      · have := congrArg List.length he
        rw [List.length_append, List.length_take] at this
        omega
      · obtain ⟨j, hj⟩ := List.mem_iff_getElem?.mp hv
        have := (List.getElem?_eq_some_iff.mp hj).1
        exact I.cl hz j (by omega) v hj
end Wd

/-! C27: the law's steps, machines, settings. -/
namespace Wd
open PySem PySem.Spec PyProof.Rows L2
theorem nodup_sub {α : Type} [DecidableEq α] : ∀ {a b : List α}, a.Nodup → (∀ x ∈ a, x ∈ b) → a.length ≤ b.length
  | [], b, _, _ => Nat.zero_le _
  | x :: r, b, hn, h => by
    have hn := List.nodup_cons.mp hn
    have hb := h x List.mem_cons_self
    have := nodup_sub (a := r) (b := b.erase x) hn.2 fun y hy => (List.mem_erase_of_ne (fun (e : y = x) => hn.1 (by rw [← e]; exact hy))).mpr (h y (List.mem_cons_of_mem _ hy))
    have e := List.length_erase_of_mem hb
    have : 0 < b.length := List.length_pos_of_mem hb
    rw [List.length_cons]
    omega
theorem nats_of {acc : List D} {n : Nat} (h : ∀ (k : Nat) (r : D), acc[k]? = some r → ∃ j : Nat, r = .int (j : Int) ∧ j < n) : ∃ js : List Nat, acc = nI js ∧ js.length = acc.length ∧ ∀ j ∈ js, j < n := by
  induction acc with
  | nil => exact ⟨[], rfl, rfl, by simp⟩
  | cons a r ih =>
    obtain ⟨j, e, hj⟩ := h 0 a rfl
    obtain ⟨js, e2, e3, hjs⟩ := ih fun k x hx => h (k + 1) x hx
    refine ⟨j :: js, by rw [e, e2]; rfl, by rw [List.length_cons, e3, List.length_cons], fun x hx => ?_⟩
    rcases List.mem_cons.mp hx with rfl | z
    · exact hj
    · exact hjs x z
structure StIn (p : Pl) (S : List (List Int)) : Prop where
  z : S.length ≤ 50
  rc : ∀ w ∈ S, Rch p w
  cl : ∀ v ∈ S, ∀ w ∈ nx p v, w ∈ S
def spSteps : FSp := fun ds P _ => ∃ (p : Pl) (S : List (List Int)), ds = [p.d, .list (S.map eI)] ∧ PlOk p ∧ StIn p S ∧ ∀ E : List (List Nat), E.length = S.length → (∀ r ∈ E, r.length ≤ S.length ∧ ∀ x ∈ r, x < S.length) → P (.list (E.map fun r => .tuple (nI r)))
theorem vc_steps (ds : List D) (Pd : D → Prop) (Px : Prop) (h : spSteps ds Pd Px) : ir_law_steps spNx (start0 n_law_steps.length ds) (goal false Pd Px) := by
  obtain ⟨p, S, rfl, hp, I, h⟩ := h
  have hz := I.z
  simp [ir_law_steps, start0, n_law_steps]
  refine ⟨true, fun l2 => ?_⟩
  simp
  refine ⟨by omega, ?_⟩
  refine for_gen (fun k G' => ∃ (a3 : Slot) (kvs : Kvs), G' = [.im p.d, .im (.list (S.map eI)), .ow l2 (.dct true kvs), a3, .un, .un, .un] ∧ kvs.length ≤ k ∧ ∀ w ∈ S.take k, ∃ j : Nat, dlook kvs (kI w) = some (.int (j : Int)) ∧ j < S.length)
    ⟨_, [], rfl, by simp, by simp⟩ (fun _ _ _ _ => trivial) ?_ ?_
  · rintro J hJ k d G' hk ⟨a3, kvs, rfl, kn, lk⟩
    obtain ⟨rfl, hk3⟩ := rg0 hk
    have kl : k < S.length := by omega
    have e1 := List.getElem?_eq_getElem kl
    generalize S[k] = w at e1
    simp [at_map (f := eI) e1]
    refine ⟨by omega, hJ _ _ ⟨_, _, rfl, by have := put_le (kvs := kvs) (k := kI w) (d := .int (k : Int)); omega, fun x hx => ?_⟩⟩
    rw [look_put]
    by_cases c : kI x = kI w
    · rw [if_pos c]; exact ⟨k, rfl, kl⟩
    · rw [if_neg c]
      rw [List.take_add_one, e1] at hx
      rcases List.mem_append.mp hx with z | z
      · exact lk x z
      · have : x = w := by simpa using z
        exact absurd (by rw [this]) c
  · rintro G' ⟨a3, kvs, rfl, kn, lk⟩
    have e9 : (rgD 0 (S.length : Int)).length = S.length := by rw [rg_len]; omega
    rw [e9] at kn lk
    rw [List.take_length] at lk
    simp
    refine asgL_own ?_
    simp
    intro l4
    refine for_gen (fun k G' => ∃ (a5 : Slot) (E : List (List Nat)), G' = [.im p.d, .im (.list (S.map eI)), .ow l2 (.dct true kvs), a3, .ow l4 (.lst (E.map fun r => .tuple (nI r))), a5, .un] ∧ E.length = k ∧ ∀ r ∈ E, r.length ≤ S.length ∧ ∀ x ∈ r, x < S.length)
      ⟨_, [], rfl, rfl, by simp⟩ (fun _ _ _ _ => trivial) ?_ ?_
    · rintro J hJ k d G' hk ⟨a5, E, rfl, el, eb⟩
      obtain ⟨v, hv, rfl⟩ := map_get hk
      have kl := (List.getElem?_eq_some_iff.mp hv).1
      have vm := List.mem_of_getElem? hv
      have vv := rch_vok hp (I.rc v vm)
      have cl := I.cl v vm
      have nd := (nx_ok hp vv.1).1
      have nl := nx_len hp (vs := v)
      simp
      refine ⟨p, v, rfl, hp, vv, ?_⟩
      generalize nx p v = rows at cl nd nl
      simp
      refine lc_rel (fun _ r => ∃ j : Nat, r = .int (j : Int) ∧ j < S.length) rfl trivial (by rw [List.length_map]; omega) ?_ ?_
      · rintro k2 d hk2
        obtain ⟨w, hw, rfl⟩ := map_get hk2
        obtain ⟨j, ej, jl⟩ := lk w (cl w (List.mem_of_getElem? hw))
        refine ⟨_, rfl, fun Q hQ => ?_⟩
        simp [wipeG, ej]
        exact hQ _ ⟨j, rfl, jl⟩
      · intro acc al ab
        obtain ⟨js, rfl, jl, jb⟩ := nats_of (n := S.length) fun k r hr => ab k r hr
        have := nodup_sub nd cl
        simp
        refine ⟨by omega, hJ _ _ ⟨_, E ++ [js], by rw [List.map_append]; rfl, by simp [el], fun r hr => ?_⟩⟩
        rcases List.mem_append.mp hr with z | z
        · exact eb r z
        · rw [List.mem_singleton.mp z]
          refine ⟨?_, jb⟩
          rw [List.length_map] at al
          omega
    · rintro G' ⟨a5, E, rfl, el, eb⟩
      rw [List.length_map] at el
      simp
      exact h E el eb
def spMachine : FSp := fun ds P _ => ∃ (p : Pl) (S : List (List Int)), ds = [p.d, .list (S.map eI)] ∧ PlOk p ∧ StOk p 12 S ∧ S.length ≤ 12 ∧ ∀ M : Mach, MkOk p.vs.length M → M.sts = S → M.starts.length ≤ 12 → P M.d
theorem rg_nI (n : Nat) : rgD 0 (n : Int) = nI (List.range n) := by
  unfold rgD nI
  simp
theorem vc_machine (ds : List D) (Pd : D → Prop) (Px : Prop) (h : spMachine ds Pd Px) : ir_law_machine spFs spSteps (start0 n_law_machine.length ds) (goal false Pd Px) := by
  obtain ⟨p, S, rfl, hp, I, hz, h⟩ := h
  have fl := I.fl hz
  simp [ir_law_machine, start0, n_law_machine]
  refine ⟨p, rfl, hp, ?_⟩
  simp
  refine ⟨by unfold RgOk; omega, ?_⟩
  refine ⟨p, S, rfl, hp, ⟨by omega, I.rc, I.cl hz⟩, fun E e1 e2 => ?_⟩
  simp
  have := h ⟨S, List.range (fsS p).length, E⟩ ⟨by show S.length ≤ 50; omega, fun v hv => rch_vok hp (I.rc v hv), by show (List.range _).length ≤ 900; rw [List.length_range]; omega, fun s hs => ?_, e1, fun r hr => ?_, fun r hr => (e2 r hr).2⟩ rfl (by show (List.range _).length ≤ 12; rw [List.length_range]; omega)
  · rw [rg_nI]
    exact this
  · have := List.mem_range.mp hs
    show s < S.length
    omega
  · have := (e2 r hr).1
    omega
end Wd

/-! C28: the law's setting. -/
namespace Wd
open PySem PySem.Spec PyProof.Rows L2
def isNum : Trm → Bool
  | .num _ => true
  | _ => false
def fNum : D → Bool
  | .tuple (_ :: .tuple (.str k :: _) :: _) => decide (k = Str.ofString "num")
  | _ => false
theorem fNum_d (s : Sens) : fNum s.d = isNum s.t := by
  cases e : s.t with
  | num i => simp [Sens.d, e, Trm.d, fNum, isNum]
  | var i => simp [Sens.d, e, Trm.d, fNum, isNum]
  | neg i => simp [Sens.d, e, Trm.d, fNum, isNum]
  | bin o l r => cases o <;> simp [Sens.d, e, Trm.d, fNum, isNum, Op.s]
def fb (p : Pl) : Pl := ⟨p.vs.take 1, [⟨Str.ofString "p0", 0, 1, [⟨Str.ofString "m", .tru, [⟨0, .num (p.vr 0).a, .num (p.vr 0).b⟩]⟩, ⟨Str.ofString "n", .tru, []⟩]⟩], p.ss.filter fun s => isNum s.t⟩
theorem fb_ok {p : Pl} (h : PlOk p) : PlOk (fb p) ∧ (fb p).vs = [p.vr 0] ∧ VrOk (p.vr 0) := by
  obtain ⟨v, e1, e, ho⟩ := vr_ok h (i := 0) h.n1
  have hv : (fb p).vs = [v] := by
    show p.vs.take 1 = _
    cases z : p.vs with
    | nil => rw [z] at e1; simp at e1
    | cons a r => rw [z] at e1; simp at e1; rw [e1]; rfl
  obtain ⟨v1, v2, v3, v4, v5, v6⟩ := ho
  refine ⟨⟨by rw [hv]; simp, by rw [hv]; simp, fun w hw => ?_, fun q hq => ?_, by show 1 ≤ 3; decide, by rw [hv]; exact ⟨rfl, rfl⟩, fun s hs => ?_, ?_⟩, by rw [hv, e], by rw [e]; exact ⟨v1, v2, v3, v4, v5, v6⟩⟩
  · rw [hv] at hw
    rw [List.mem_singleton.mp hw]
    exact ⟨v1, v2, v3, v4, v5, v6⟩
  · rw [hv]
    rw [List.mem_singleton.mp hq]
    refine ⟨Nat.le_refl 1, Nat.le_refl 1, by show 1 ≤ 2; decide, by show 2 ≤ 4; decide, fun m hm => ?_⟩
    rcases List.mem_cons.mp hm with rfl | hm
    · refine ⟨trivial, by show 1 ≤ 10; decide, fun s hs => ?_⟩
      rw [List.mem_singleton.mp hs, e]
      exact ⟨by show -20 ≤ v.a ∧ v.a ≤ 20; omega, by show -20 ≤ v.b ∧ v.b ≤ 20; omega⟩
    · rw [List.mem_singleton.mp hm]
      exact ⟨trivial, by show 0 ≤ 10; decide, by simp⟩
  · obtain ⟨s1, s2⟩ := List.mem_filter.mp hs
    have so := h.s s s1
    rw [hv]
    refine ⟨?_, so.2⟩
    cases z : s.t with
    | num i =>
      have := so.1
      rw [z] at this
      exact this
    | var i => rw [z] at s2; cases s2
    | neg i => rw [z] at s2; cases s2
    | bin o l r => rw [z] at s2; cases s2
  · have := List.length_filter_le (fun s => isNum s.t) p.ss
    have := h.sz
    show (p.ss.filter _).length ≤ 2
    omega
theorem one_rch {p : Pl} {v : Vr} (hp : PlOk p) (hv : p.vs = [v]) {w : List Int} (hr : Rch p w) : ∃ x, w = [x] ∧ v.a ≤ x ∧ x ≤ v.b := by
  have key : ∀ u w : List Int, OkW p u 0 p.vs.length w → (u = [] ∨ ∃ x, u = [x] ∧ v.a ≤ x ∧ x ≤ v.b) → ∃ x, w = [x] ∧ v.a ≤ x ∧ x ≤ v.b := by
    intro u w hw hu
    have wl := hw.1
    rw [hv] at wl
    obtain ⟨x, rfl⟩ : ∃ x, w = [x] := List.length_eq_one_iff.mp wl
    refine ⟨x, rfl, ?_⟩
    rcases hw.2 0 x rfl with z | ⟨v', z, a, b⟩
    · rcases hu with rfl | ⟨y, rfl, c⟩
      · simp at z
      · have : y = x := by simpa using z
        rw [← this]; exact c
    · rw [hv] at z
      have : v = v' := by simpa using z
      rw [this]; exact ⟨a, b⟩
  induction hr with
  | first h1 => exact key [] _ ((fss_ok hp).2.2 _ h1) (.inl rfl)
  | next h1 h2 ih =>
    have := rch_vok hp h1
    exact key _ _ ((nx_ok hp this.1).2 _ h2) (.inr ih)
theorem fb_len {p : Pl} (h : PlOk p) {S : List (List Int)} (hs : StOk (fb p) 12 S) : S.length ≤ 12 := by
  obtain ⟨o, hv, v1, v2, v3, v4, v5, v6⟩ := fb_ok h
  have := nodup_sub (b := (rgI (p.vr 0).a ((p.vr 0).b + 1)).map fun x => [x]) hs.nd fun w hw => by
    obtain ⟨x, rfl, a, b⟩ := one_rch o hv (hs.rc w hw)
    exact List.mem_map.mpr ⟨x, rgI_mem.mpr ⟨a, by omega⟩, rfl⟩
  rw [List.length_map, rgI_len] at this
  omega
def spSetting : FSp := fun ds P _ => ∃ (ns : List Int), ds = [scD ns, .int 12] ∧ ∀ (p : Pl) (S : List (List Int)), PlOk p → StOk p 12 S → S.length ≤ 12 → P (.tuple [p.d, .list (S.map eI)])
theorem vc_setting (ds : List D) (Pd : D → Prop) (Px : Prop) (h : spSetting ds Pd Px) : ir_law_setting spPlant spStates (start0 n_law_setting.length ds) (goal false Pd Px) := by
  obtain ⟨ns, rfl, h⟩ := h
  simp [ir_law_setting, start0, n_law_setting]
  refine ⟨ns, rfl, fun p hp => ?_⟩
  simp
  refine ⟨p, 12, rfl, hp, by decide, fun S hS => ?_⟩
  simp
  split
  · exact h p S hp hS (by omega)
  · have a0 := pt_at hp (i := 0) hp.n1
    have a0 : atI (p.vs.map Vr.d) 0 = some (p.vr 0).d := a0
    have hz := hp.sz
    simp [Pl.d, pD]
    refine lc_filter fNum rfl trivial (by rw [List.length_map]; omega) ?_ ?_
    · rintro k d hk
      obtain ⟨s, hs, rfl⟩ := map_get hk
      obtain ⟨nm, t, tol, bl⟩ := s
      refine ⟨_, rfl, fun Q hQ => ?_, fun Q hQ => ?_⟩
      · rw [fNum_d] at hQ
        simp [wipeG, Sens.d]
        cases t with
        | num i => simp [Trm.d]; exact hQ
        | var i => simp [Trm.d]; exact hQ
        | neg i => simp [Trm.d]; exact hQ
        | bin o l r => cases o <;> (simp [Trm.d, Op.s]; exact hQ)
      · simp [wipeG]
        exact hQ
    · have ef : (p.ss.map Sens.d).filter fNum = (p.ss.filter fun s => isNum s.t).map Sens.d := by
        rw [List.filter_map]
        congr 2
        funext s
        exact fNum_d s
      rw [ef]
      have ec : cutD (p.vs.map Vr.d) none (some 1) = (p.vs.take 1).map Vr.d := by
        have := cut_take (p.vs.map Vr.d) 1
        rw [List.map_take]
        exact this
      simp [Pl.d, pD, a0, Vr.d, -List.map_take]
      rw [ec]
      refine ⟨fb p, 12, rfl, (fb_ok hp).1, by decide, fun S2 hS2 => ?_⟩
      have := h (fb p) S2 (fb_ok hp).1 hS2 (fb_len hp hS2)
      simp [-List.map_take]
      exact this
end Wd

/-! C29: the law's wishes. -/
namespace Wd
open PySem PySem.Spec PyProof.Rows L2
def spPick : FSp := fun ds P _ => ∃ (ns : List Int) (k : Int) (c : Nat), ds = [scD ns, .int k, .int (c : Int)] ∧ 0 ≤ k ∧ c ≤ 100 ∧ 1 ≤ c ∧ ∀ x : Nat, x < c → P (.int (x : Int))
theorem vc_pick (ds : List D) (Pd : D → Prop) (Px : Prop) (h : spPick ds Pd Px) : ir_law_pick spDraw (start0 n_law_pick.length ds) (goal false Pd Px) := by
  obtain ⟨ns, k, c, rfl, hk, h1, h2, h⟩ := h
  simp [ir_law_pick, start0, n_law_pick]
  have e : (if (c : Int) > 1 then (c : Int) else 1) = (c : Int) := by split <;> omega
  refine ⟨ns, k, [(c : Int)], ?_, hk, by simp, by simp; omega, fun rs hrs => ?_⟩
  · rw [← e]
    simp [iL]
    try omega
  · obtain ⟨x, ex, x0, x1⟩ := dg_get hrs (i := 0) (by decide) rfl
    obtain ⟨n, rfl⟩ := Int.eq_ofNat_of_zero_le x0
    simp only [iL]
    simp [ex]
    exact h n (by omega)
theorem dig_m {dg : List Int} (h : Dg dg) (hl : 1 ≤ dg.length) (i : Int) : ∃ x : Int, atI (dg.map PyData.int) (i % (dg.length : Int)) = some (.int x) ∧ 0 ≤ x ∧ x ≤ 1000 :=
  dig_at h (Int.emod_nonneg i (by omega)) (Int.emod_lt_of_pos i (by omega))
def spFact (d : Nat) : FSp := fun ds P _ => ∃ (dg : List Int) (a : Int) (m : Nat), ds = [iL dg, .int a, .int (d : Int), .int (m : Int)] ∧ Dg dg ∧ 1 ≤ dg.length ∧ 0 < m ∧ ∀ f, FtOk m (2 * d) f → P f.d
theorem ft_up {n : Nat} : ∀ {d : Nat} {f : Fact}, FtOk n d f → FtOk n (d + 1) f
  | 0, .holds _, h => h
  | d + 1, .holds _, h => h
  | d + 1, .not f, h => ft_up (d := d) (f := f) h
  | d + 1, .and a b, h => ⟨ft_up (d := d) (f := a) h.1, ft_up (d := d) (f := b) h.2⟩
  | d + 1, .next f, h => ft_up (d := d) (f := f) h
  | d + 1, .can f, h => ft_up (d := d) (f := f) h
  | d + 1, .must f, h => ft_up (d := d) (f := f) h
  | d + 1, .canin k f, h => ⟨h.1, h.2.1, ft_up (d := d) (f := f) h.2.2⟩
  | d + 1, .mustin k f, h => ⟨h.1, h.2.1, ft_up (d := d) (f := f) h.2.2⟩
theorem vc_fact {d : Nat} (ds : List D) (Pd : D → Prop) (Px : Prop) (h : spFact d ds Pd Px) : ir_law_fact (down spFact d) (start0 n_law_fact.length ds) (goal false Pd Px) := by
  obtain ⟨dg, a, m, rfl, hd, hl, hm, h⟩ := h
  obtain ⟨x0, e0, _, _⟩ := dig_m hd hl a
  obtain ⟨x1, e1, _, _⟩ := dig_m hd hl (a + 1)
  obtain ⟨x2, e2, _, _⟩ := dig_m hd hl (a + 2)
  obtain ⟨v, ev, hv⟩ := mod_nat (x := x1) hm
  have pm : (0 : Int) < (m : Int) := by omega
  have pl : 0 < dg.length := by omega
  have a0 := Int.emod_nonneg x2 (b := 3) (by decide)
  have a1 := Int.emod_lt_of_pos x2 (b := 3) (by decide)
  have b0 := Int.emod_nonneg x1 (b := 4) (by decide)
  have b1 := Int.emod_lt_of_pos x1 (b := 4) (by decide)
  have k0 := Int.emod_nonneg x0 (b := 9) (by decide)
  have k1 := Int.emod_lt_of_pos x0 (b := 9) (by decide)
  have H1 : ∀ i : Int, -20 ≤ i → i ≤ 20 → FtOk m (2 * d) (.holds (.same (.var v) (.num i))) := fun i h1 h2 => by
    have : COk m 3 (.same (.var v) (.num i)) := ⟨hv, h1, h2⟩
    cases d <;> exact this
  have H2 : ∀ i : Int, -20 ≤ i → i ≤ 20 → FtOk m (2 * d) (.holds (.less (.var v) (.num i))) := fun i h1 h2 => by
    have : COk m 3 (.less (.var v) (.num i)) := ⟨hv, h1, h2⟩
    cases d <;> exact this
  have r1 := h _ (H1 (x2 % 3 - 1) (by omega) (by omega))
  have r2 := h _ (H2 (x2 % 3) (by omega) (by omega))
  simp only [Fact.d, Cd.d, Trm.d] at r1 r2
  simp [ir_law_fact, start0, n_law_fact]
  simp only [iL]
  generalize hk : x0 % 9 = kd at k0 k1
  simp [e0, e1, e2, ev, pl, pm, hk]
  by_cases c1 : kd = 1
  · subst c1
    cases d with
    | zero => simp; exact ⟨hm, r2⟩
    | succ d => simp [show ¬ ((d : Int) + 1 = 0) by omega]; exact ⟨hm, r2⟩
  · cases d with
    | zero => simp [c1]; exact ⟨hm, r1⟩
    | succ d =>
      have c0 : ¬ ((d : Int) + 1 = 0) := by omega
      by_cases c3 : kd < 3
      · simp [c0, c1, c3]; exact ⟨hm, r1⟩
      · simp [c0, c3]
        refine ⟨dg, a + 3, m, by simp [iL], hd, hl, hm, fun f hf => ?_⟩
        have up : ∀ g : Fact, FtOk m (2 * d + 1) g → Pd g.d := fun g hg => h g (ft_up hg)
        have r3 := up (.not f) hf
        have r4 := up (.next f) hf
        have r5 := up (.can f) hf
        have r6 := up (.must f) hf
        have r7 := up (.mustin (x1 % 4) f) ⟨b0, by omega, hf⟩
        simp only [Fact.d] at r3 r4 r5 r6 r7
        have c2 : (1 + 1 : Int) = 2 := rfl
        simp [e1, e2, pl]
        repeat' split
        all_goals first
          | exact r3
          | exact r4
          | exact r5
          | exact r6
          | exact r7
          | skip
        refine ⟨dg, a + 5, m, by simp [iL], hd, hl, hm, fun g hg => ?_⟩
        have r8 := h (.and f (.canin (x2 % 3) g)) ⟨ft_up hf, a0, by omega, hg⟩
        simp only [Fact.d] at r8
        simp
        exact r8
/-! ### wishes -/
def spWish (d : Nat) : FSp := fun ds P _ => ∃ (dg : List Int) (a : Int) (m : Nat), ds = [iL dg, .int a, .int (d : Int), .int (m : Int)] ∧ Dg dg ∧ 1 ≤ dg.length ∧ 0 < m ∧ ∀ w, WOk m d w → P w.d
theorem vc_wish {d : Nat} {pw : FSp} (hpw : ∀ xs P X, down spWish d xs P X → pw xs P X) (ds : List D) (Pd : D → Prop) (Px : Prop) (h : spWish d ds Pd Px) : ir_law_wish (spFact 1) pw (start0 n_law_wish.length ds) (goal false Pd Px) := by
  obtain ⟨dg, a, m, rfl, hd, hl, hm, h⟩ := h
  obtain ⟨x0, e0, _, _⟩ := dig_m hd hl a
  obtain ⟨x3, e3, _, _⟩ := dig_m hd hl (a + 3)
  have pl : 0 < dg.length := by omega
  have b0 := Int.emod_nonneg x3 (b := 4) (by decide)
  have b1 := Int.emod_lt_of_pos x3 (b := 4) (by decide)
  have base : ∀ f, FtOk m 2 f → Pd (.tuple [.str (Str.ofString "fact"), f.d]) := fun f hf => h (.fact f) (by cases d <;> exact ft_up hf)
  simp [ir_law_wish, start0, n_law_wish]
  simp only [iL]
  generalize hk : x0 % 9 = kd
  simp [e0, e3, pl, hk]
  cases d with
  | zero =>
    simp
    refine ⟨dg, a + 1, m, by simp [iL], hd, hl, hm, fun f hf => ?_⟩
    simp
    exact base f hf
  | succ d =>
    have c0 : ¬ ((d : Int) + 1 = 0) := by omega
    by_cases c1 : kd = 0
    · simp [c0, c1]
      refine ⟨dg, a + 1, m, by simp [iL], hd, hl, hm, fun f hf => ?_⟩
      simp
      exact base f hf
    · simp [c0, c1]
      refine hpw _ _ _ ⟨dg, a + 1, m, by simp [iL], hd, hl, hm, fun w hw => ?_⟩
      have r1 := h (.not w) hw
      have r2 := h (.once w) hw
      have r4 := h (.before w) hw
      have r5 := h (.oncein (x3 % 4) w) ⟨b0, by omega, hw⟩
      simp only [Wish.d] at r1 r2 r4 r5
      simp [e3, pl]
      by_cases d1 : kd = 1
      · simp [d1]; exact r1
      · by_cases d2 : kd = 2
        · simp [d2]; exact r2
        · by_cases d3 : kd = 3
          · simp [d3]; exact r2
          · by_cases d4 : kd = 4
            · simp [d4]; exact r4
            · by_cases d5 : kd = 5
              · simp [d5]; exact r5
              · simp [d1, d2, d3, d4, d5]
                refine hpw _ _ _ ⟨dg, a + 7, m, by simp [iL], hd, hl, hm, fun u hu => ?_⟩
                have r6 := h (.and w u) ⟨hw, hu⟩
                have r7 := h (.or w u) ⟨hw, hu⟩
                have r8 := h (.since w u) ⟨hw, hu⟩
                simp only [Wish.d] at r6 r7 r8
                simp
                repeat' split
                all_goals first
                  | exact r6
                  | exact r7
                  | exact r8
/-- a wish of at most so many levels -/
def spWishL (d : Nat) : FSp := fun ds P X => ∃ e, e ≤ d ∧ spWish e ds P X
theorem vc_wishL {d : Nat} (ds : List D) (Pd : D → Prop) (Px : Prop) (h : spWishL d ds Pd Px) : ir_law_wish (spFact 1) (down spWishL d) (start0 n_law_wish.length ds) (goal false Pd Px) := by
  obtain ⟨e, he, h⟩ := h
  refine vc_wish (d := e) (fun xs P X q => ?_) ds Pd Px h
  cases e with
  | zero => exact q.elim
  | succ e => cases d with
    | zero => omega
    | succ d => exact ⟨e, by omega, q⟩
def spDepth : FSp := fun ds P _ => ∃ (ns : List Int) (k : Int) (m : Nat), ds = [scD ns, .int k, .int (m : Int)] ∧ 0 ≤ k ∧ 0 < m ∧ ∀ w, WOk m 3 w → P w.d
theorem w_up {n : Nat} : ∀ {d : Nat} {f : Wish}, WOk n d f → WOk n (d + 1) f
  | 0, .fact _, h => h
  | d + 1, .fact _, h => h
  | d + 1, .not f, h => w_up (d := d) (f := f) h
  | d + 1, .and a b, h => ⟨w_up (d := d) (f := a) h.1, w_up (d := d) (f := b) h.2⟩
  | d + 1, .or a b, h => ⟨w_up (d := d) (f := a) h.1, w_up (d := d) (f := b) h.2⟩
  | d + 1, .since a b, h => ⟨w_up (d := d) (f := a) h.1, w_up (d := d) (f := b) h.2⟩
  | d + 1, .once f, h => w_up (d := d) (f := f) h
  | d + 1, .before f, h => w_up (d := d) (f := f) h
  | d + 1, .oncein k f, h => ⟨h.1, h.2.1, w_up (d := d) (f := f) h.2.2⟩
theorem vc_depth (ds : List D) (Pd : D → Prop) (Px : Prop) (h : spDepth ds Pd Px) : ir_law_depth_wish spDraw (spWishL 3) (start0 n_law_depth_wish.length ds) (goal false Pd Px) := by
  obtain ⟨ns, k, m, rfl, hk, hm, h⟩ := h
  simp [ir_law_depth_wish, start0, n_law_depth_wish]
  refine ⟨ns, k, List.replicate 40 97, rfl, hk, by simp, fun s hs => by rw [List.eq_of_mem_replicate hs]; decide, fun rs hrs => ?_⟩
  obtain ⟨hd, hl⟩ := dg_of hrs (by decide)
  obtain ⟨x, ex, _, _⟩ := dig_at hd (i := 39) (by decide) (by omega)
  simp only [iL]
  simp [ex]
  have a0 := Int.emod_nonneg x (b := 3) (by decide)
  have a1 := Int.emod_lt_of_pos x (b := 3) (by decide)
  have : x % 3 = 0 ∨ x % 3 = 1 ∨ x % 3 = 2 := by omega
  rcases this with z | z | z <;> rw [z]
  · exact ⟨1, by decide, rs, 0, m, rfl, hd, by omega, hm, fun w hw => h w (w_up (w_up hw))⟩
  · exact ⟨2, by decide, rs, 0, m, rfl, hd, by omega, hm, fun w hw => h w (w_up hw)⟩
  · exact ⟨3, by decide, rs, 0, m, rfl, hd, by omega, hm, fun w hw => h w hw⟩
end Wd

/-! C30: the law's readings. -/
namespace Wd
open PySem PySem.Spec PyProof.Rows L2
/-- both are strings -/
def spAlike : FSp := fun ds P _ => ∃ (a b : Str), ds = [.str a, .str b] ∧ P (.bool (decide (a = b)))
theorem vc_alike {sp : FSp} (ds : List D) (Pd : D → Prop) (Px : Prop) (h : spAlike ds Pd Px) : ir_law_alike sp (start0 n_law_alike.length ds) (goal false Pd Px) := by
  obtain ⟨a, b, rfl, h⟩ := h
  simp [ir_law_alike, start0, n_law_alike, instB]
  exact h
/-- at most two entries, or cut at nine -/
def spReads : FSp := fun ds P _ => ∃ (p : Pl) (vs : List Int), ds = [p.d, eI vs] ∧ PlOk p ∧ VOk p.vs.length vs ∧ ∀ R : List Rd, 1 ≤ R.length → R.length ≤ 900 → (∀ r ∈ R, r.length = p.ss.length) → P (.list (R.map eR))
theorem rch_len (lo hi : Int) : (rgD lo hi).length = (hi - lo).toNat := rg_len lo hi
theorem vc_reads (ds : List D) (Pd : D → Prop) (Px : Prop) (h : spReads ds Pd Px) : ir_law_readings (spValue 3) spBox (start0 n_law_readings.length ds) (goal false Pd Px) := by
  obtain ⟨p, vs, rfl, hp, hv, h⟩ := h
  have hz := hp.sz
  simp [ir_law_readings, start0, n_law_readings]
  refine asgL_im ?_
  simp [Pl.d, pD]
  refine for_gen (fun k G' => ∃ (a3 a4 a5 : Slot) (R : List Rd), G' = [.im p.d, .im (eI vs), .im (.list (R.map eR)), a3, a4, a5] ∧ 1 ≤ R.length ∧ R.length ≤ 13 ^ k ∧ ∀ r ∈ R, r.length = k)
    ⟨_, _, _, [[]], rfl, by simp, by simp, by simp⟩ (fun _ _ _ _ => trivial) ?_ ?_
  · rintro J hJ k d G' hk ⟨a3, a4, a5, R, rfl, r1, r2, r3⟩
    obtain ⟨s, hs, rfl⟩ := map_get hk
    have kl := (List.getElem?_eq_some_iff.mp hs).1
    obtain ⟨s1, s2, s3⟩ := hp.s s (List.mem_of_getElem? hs)
    have tb := trm_bd hv s1
    have b3 : bd 3 < 2 ^ 61 := by decide
    have p3 : 13 ^ k ≤ 13 := by
      have := Nat.pow_le_pow_right (n := 13) (by decide) (show k ≤ 1 by omega)
      omega
    have su : 13 ^ (k + 1) = 13 ^ k * 13 := Nat.pow_succ ..
    simp [Sens.d]
    refine ⟨s.t, vs, _, rfl, s1, hv, ?_⟩
    simp
    refine asgL_im ?_
    have bxr : ∀ os : List (Option Int), 1 ≤ os.length → os.length ≤ 13 → spBox [.list (R.map eR), .list (os.map eO)] (fun d => J (k + 1) [.im p.d, .im (eI vs), .im d, .im s.d, .im (.int (s.t.v vs)), .im (.list (os.map eO))]) Px := by
      intro os o1 o2
      refine ⟨R.map (·.map eO), os.map eO, by rw [List.map_map]; rfl, by rw [List.length_map]; omega, by rw [List.length_map]; omega, ?_, fun r hr => ?_, ?_⟩
      · rw [List.length_map, List.length_map]
        have := Nat.mul_le_mul (Nat.le_trans r2 p3) o2
        omega
      · obtain ⟨w, hw, rfl⟩ := List.mem_map.mp hr
        rw [List.length_map, r3 w hw]
        omega
      · rw [bx_map, List.map_map]
        refine hJ _ _ ⟨_, _, _, bx R os, rfl, ?_, ?_, fun r hr => ?_⟩
        · rw [bx_len]
          have := Nat.mul_le_mul r1 o1
          omega
        · rw [bx_len, su]
          exact Nat.mul_le_mul r2 o2
        · obtain ⟨w, c, hw, _, rfl⟩ := bx_mem.mp hr
          rw [List.length_append, r3 w hw]
          rfl
    have ol : (rgO (s.t.v vs - s.tol) (s.t.v vs + s.tol + 1)).length = (2 * s.tol + 1).toNat := by
      unfold rgO
      rw [List.length_map, List.length_range]
      congr 1
      omega
    simp
    refine ⟨by unfold RgOk; omega, ?_⟩
    split
    · refine ⟨by rw [rg_len]; omega, ?_⟩
      have e : rgD (s.t.v vs - s.tol) (s.t.v vs + s.tol + 1) ++ [PyData.none] = (rgO (s.t.v vs - s.tol) (s.t.v vs + s.tol + 1) ++ [none]).map eO := by
        rw [List.map_append, rgO_d]
        rfl
      rw [e]
      exact bxr _ (by rw [List.length_append, ol]; simp) (by rw [List.length_append, ol]; simp; omega)
    · rw [← rgO_d]
      exact bxr _ (by rw [ol]; omega) (by rw [ol]; omega)
  · rintro G' ⟨a3, a4, a5, R, rfl, r1, r2, r3⟩
    rw [List.length_map] at r2 r3
    have p3 : 13 ^ p.ss.length ≤ 169 := by
      have := Nat.pow_le_pow_right (n := 13) (by decide) hz
      omega
    simp
    exact h R r1 (by omega) r3
/-- a row of readings -/
def spRow : FSp := fun ds P _ => ∃ (p : Pl) (ns : List Int) (k : Int) (c : Nat), ds = [p.d, scD ns, .int k, .int (c : Int)] ∧ PlOk p ∧ 0 ≤ k ∧ c ≤ 100 ∧ ∀ R : List Rd, R.length = c → (∀ r ∈ R, r.length ≤ 100) → P (.list (R.map eR))
theorem vc_row (ds : List D) (Pd : D → Prop) (Px : Prop) (h : spRow ds Pd Px) : ir_law_row spDraw spNx spFs spReads (start0 n_law_row.length ds) (goal false Pd Px) := by
  obtain ⟨p, ns, k, c, rfl, hp, hk, hc, h⟩ := h
  have n5 := hp.n5
  simp [ir_law_row, start0, n_law_row]
  refine asgL_own ?_
  simp
  intro l4
  refine ⟨p, rfl, hp, ?_⟩
  simp
  refine ⟨by omega, ?_⟩
  refine for_gen (fun k2 G' => ∃ (a6 a7 a8 a9 a10 : Slot) (O : List (List Int)) (R : List Rd), G' = [.im p.d, .im (scD ns), .im (.int k), .im (.int (c : Int)), .ow l4 (.lst (R.map eR)), .im (.list (O.map eI)), a6, a7, a8, a9, a10, .un] ∧ (∀ w ∈ O, VOk p.vs.length w) ∧ R.length = k2 ∧ ∀ r ∈ R, r.length ≤ 100)
    ⟨_, _, _, _, _, fsS p, [], rfl, fs_vok hp, rfl, by simp⟩ (fun _ _ _ _ => trivial) ?_ ?_
  · rintro J hJ k2 d G' hk2 ⟨a6, a7, a8, a9, a10, O, R, rfl, ho, rl, rb⟩
    obtain ⟨rfl, hk3⟩ := rg0 hk2
    simp
    refine ⟨ns, k + (k2 : Int), [12, 97, 97, 9, 7], rfl, by omega, by decide, by decide, fun dg hdg => ?_⟩
    obtain ⟨x0, e0, _, _⟩ := dg_get hdg (i := 0) (by decide) rfl
    obtain ⟨x1, e1, u1, w1⟩ := dg_get hdg (i := 1) (by decide) rfl
    obtain ⟨x2, e2, u2, w2⟩ := dg_get hdg (i := 2) (by decide) rfl
    obtain ⟨x3, e3, u3, w3⟩ := dg_get hdg (i := 3) (by decide) rfl
    obtain ⟨x4, e4, u4, w4⟩ := dg_get hdg (i := 4) (by decide) rfl
    simp [Pl.d, pD]
    refine lc_map (fun _ => .int 0) rfl trivial (by rw [List.length_map]; omega) (fun k d hd => ⟨_, rfl, fun Q hQ => ?_⟩) ?_
    · simp [wipeG]
      exact hQ
    · have go : ∀ (vs : List Int) (O2 : List (List Int)) (l9 l10 : Slot), VOk p.vs.length vs → (∀ w ∈ O2, VOk p.vs.length w) → (sSeq (sAsg 9 (eCall spReads (aCons (eVar 0) (aCons (eVar 8) aNil))))
                (sSeq (sAsgL 10 (eList (eIxN 9 (eBin Operator.Mod (eIxN 7 (eC (PyData.int 2))) (eLenN 9)))))
                  (sSeq
                    (sIf
                      (tAndM (tCmp CmpOp.Gt (eLenN 10) (eC (PyData.int 0)))
                        (tCmp CmpOp.Eq (eIxN 7 (eC (PyData.int 0))) (eC (PyData.int 1))))
                      (sPut 10 (eBin Operator.Mod (eIxN 7 (eC (PyData.int 3))) (eLenN 10)) (eC PyData.none)) sNop)
                    (sSeq
                      (sIf
                        (tAndM (tCmp CmpOp.Gt (eLenN 10) (eC (PyData.int 0)))
                          (tCmp CmpOp.Eq (eIxN 7 (eC (PyData.int 0))) (eC (PyData.int 2))))
                        (sPut 10 (eBin Operator.Mod (eIxN 7 (eC (PyData.int 3))) (eLenN 10))
                          (eBin Operator.Sub (eIxN 7 (eC (PyData.int 4))) (eC (PyData.int 3))))
                        sNop)
                      (sSeq
                        (sIf (tCmp CmpOp.Eq (eIxN 7 (eC (PyData.int 0))) (eC (PyData.int 3)))
                          (sAsgL 10
                            (eSlL (eBin Operator.Add (eVar 10) (eLst (aCons (eC (PyData.int 0)) aNil))) oNone
                              (oSome (eIxN 7 (eC (PyData.int 3))))))
                          sNop)
                        (sApp 4 (eTupleN 10)))))))
          [.im p.d, .im (scD ns), .im (.int k), .im (.int (c : Int)), .ow l4 (.lst (R.map eR)), .im (.list (O2.map eI)), .im (.int (k2 : Int)), .im (iL dg), .im (eI vs), l9, l10, .un] (loopO (J (k2 + 1)) (goal false Pd Px)) := by
        intro vs O2 l9 l10 vv ho2
        simp
        refine ⟨p, vs, rfl, hp, vv, fun Rs g1 g2 g3 => ?_⟩
        obtain ⟨y, ey, ey2, _⟩ := at_some (l := Rs.map eR) (i := x2 % (Rs.length : Int)) (Int.emod_nonneg _ (by omega)) (by rw [List.length_map]; exact Int.emod_lt_of_pos _ (by omega))
        obtain ⟨r, hr, rfl⟩ := map_get ey2
        have rlen := g3 r (List.mem_of_getElem? hr)
        have hz := hp.sz
        have gp : 0 < Rs.length := by omega
        have fin : ∀ (es : List D) (r' : Rd), es = r'.map eO → r'.length ≤ 100 → ∀ a : Slot, J (k2 + 1) [.im p.d, .im (scD ns), .im (.int k), .im (.int (c : Int)), .ow l4 (.lst (R.map eR ++ [.tuple es])), .im (.list (O2.map eI)), .im (.int (k2 : Int)), .im (iL dg), .im (eI vs), .im (.list (Rs.map eR)), a, .un] := fun es r' he hr' a =>
          hJ _ _ ⟨.im (.int (k2 : Int)), .im (iL dg), .im (eI vs), .im (.list (Rs.map eR)), a, O2, R ++ [r'], by subst he; rw [List.map_append]; rfl, ho2, by simp [rl], fun x hx => by
            rcases List.mem_append.mp hx with z | z
            · exact rb x z
            · rw [List.mem_singleton.mp z]; exact hr'⟩
        simp only [iL]
        refine asgL_own ?_
        simp [e0, e2, e3, e4, gp, ey, eR]
        intro l10
        have Rl : R.length ≤ 1000000 := by omega
        have cut : ∀ l' : Addr, J (k2 + 1) [.im p.d, .im (scD ns), .im (.int k), .im (.int (c : Int)), .ow l4 (.lst (R.map eR ++ [.tuple (cutD (r.map eO ++ [.int 0]) none (some x3))])), .im (.list (O2.map eI)), .im (.int (k2 : Int)), .im (iL dg), .im (eI vs), .im (.list (Rs.map eR)), .ow l' (.lst (cutD (r.map eO ++ [.int 0]) none (some x3))), .un] := by
          intro l'
          obtain ⟨n3, rfl⟩ := Int.eq_ofNat_of_zero_le u3
          refine fin _ ((r ++ [some 0]).take n3) ?_ ?_ _
          · rw [cut_take, List.map_take, List.map_append]; rfl
          · rw [List.length_take, List.length_append]; simp; omega
        by_cases hl : 0 < r.length
        · have em : ixN r.length (x3 % (r.length : Int)) = some (x3 % (r.length : Int)).toNat := by
            unfold ixN
            rw [if_pos (Int.emod_nonneg _ (by omega)), if_pos (Int.emod_lt_of_pos _ (by omega))]
          generalize (x3 % (r.length : Int)).toNat = mm at em
          by_cases c1 : x0 = 1
          · simp [hl, c1, em]
            exact ⟨Rl, fin _ (r.set mm none) (by rw [List.map_set]; rfl) (by rw [List.length_set]; omega) _⟩
          · by_cases c2 : x0 = 2
            · simp [hl, c1, c2, em]
              exact ⟨Rl, fin _ (r.set mm (some (x4 - 3))) (by rw [List.map_set]; rfl) (by rw [List.length_set]; omega) _⟩
            · by_cases c3 : x0 = 3
              · simp [hl, c1, c2, c3, em]
                refine asgL_own ?_
                simp [e3]
                exact ⟨by omega, fun l' => ⟨Rl, cut l'⟩⟩
              · simp [hl, c1, c2, c3, em]
                exact ⟨Rl, fin _ r rfl (by omega) _⟩
        · by_cases c3 : x0 = 3
          · simp [hl, c3]
            refine asgL_own ?_
            simp [e3]
            exact ⟨by omega, fun l' => ⟨Rl, cut l'⟩⟩
          · simp [hl, c3]
            exact ⟨Rl, fin _ r rfl (by omega) _⟩
      by_cases c0 : 0 < O.length
      · obtain ⟨y, ey, ey2, _⟩ := at_some (l := O.map eI) (i := x1 % (O.length : Int)) (Int.emod_nonneg _ (by omega)) (by rw [List.length_map]; exact Int.emod_lt_of_pos _ (by omega))
        obtain ⟨vs, hvs, rfl⟩ := map_get ey2
        have vv := ho vs (List.mem_of_getElem? hvs)
        simp only [iL]
        simp [c0, e1, ey]
        refine ⟨p, vs, rfl, hp, vv, ?_⟩
        exact go vs (nx p vs) _ _ vv (nx_vok hp vv)
      · have vz : VOk p.vs.length (p.vs.map fun _ => 0) := ⟨by rw [List.length_map], fun x hx => by
          obtain ⟨_, _, rfl⟩ := List.mem_map.mp hx
          omega⟩
        have ez : (p.vs.map Vr.d).map (fun _ => PyData.int 0) = (p.vs.map fun _ => (0 : Int)).map PyData.int := by rw [List.map_map, List.map_map]; rfl
        have := go (p.vs.map fun _ => 0) O a9 a10 vz ho
        simp at this
        simp [c0]
        have ez2 : PyData.tuple (List.map ((fun _ => PyData.int 0) ∘ Vr.d) p.vs) = eI (p.vs.map fun _ => 0) := by unfold eI; rw [List.map_map]; rfl
        rw [ez2]
        exact this
  · rintro G' ⟨a6, a7, a8, a9, a10, O, R, rfl, ho, rl, rb⟩
    have e9 : (rgD 0 (c : Int)).length = c := by rw [rg_len]; omega
    rw [e9] at rl
    simp
    exact h R rl rb
end Wd

/-! C31: track's promise, the law. -/
namespace Wd
open PySem PySem.Spec PyProof.Rows L2
def spTrack : FSp := fun ds P X => ∃ (M : Mach) (w : Wish) (n most : Nat), ds = [M.d, w.d, .int (most : Int)] ∧ MkOk n M ∧ WOk n 3 w ∧ most ≤ 100 ∧ M.starts.length ≤ 100 ∧ X ∧ ∀ T : Trk, TkOk n T → (∀ vs ∈ T.vals, vs ∈ M.sts) → P T.d
theorem vc_trackC (ds : List D) (Pd : D → Prop) (Px : Prop) (h : spTrack ds Pd Px) : ir_track (spMeets 3) (spFirst 3) (spNext 3) (spLabels 3) (start0 n_track.length ds) (goal false Pd Px) := by
  obtain ⟨M, w, n, most, rfl, hM, hw, hmost, hsl, hx, h⟩ := h
  show irR_track sRaise (spMeets 3) (spFirst 3) (spNext 3) (spLabels 3) _ _
  exact vc_track (simple := False) hM hmost hsl (fun P X h => ⟨M, w, n, rfl, hM, hw, h⟩) (fun bs P X hb h => ⟨w, n, bs, rfl, hw, hb, h⟩) (fun ms bs P X hm hb h => ⟨w, n, ms, bs, rfl, hw, hm, hb, h⟩)
    (fun ms P X hm h => ⟨w, n, ms, rfl, hw, hm, h⟩) False.elim (.inr ⟨rfl, rfl, hx⟩) h
/-- track of a plain fact, behind TooMany -/
def spTrackH : FSp := fun ds P _ => ∃ (M : Mach) (l r : Trm) (n most : Nat), ds = [M.d, (Wish.fact (.holds (.same l r))).d, .int (most : Int)] ∧ MkOk n M ∧ TOk n 0 l ∧ TOk n 0 r ∧ most ≤ 100 ∧ M.starts.length ≤ 100 ∧ M.sts.length ≤ most ∧ ∀ T : Trk, TkOk n T → (∀ vs ∈ T.vals, vs ∈ M.sts) → P T.d
def spTracked : FSp := fun ds P _ => ∃ (ns : List Int), ds = [scD ns, .int 30, .int 60] ∧ ∀ (p : Pl) (M : Mach) (wd : D) (T : Trk), PlOk p → MkOk p.vs.length M → TkOk p.vs.length T → (∀ vs ∈ T.vals, vs ∈ M.sts) → P (.tuple [p.d, M.d, wd, T.d])
theorem vc_tracked (ds : List D) (Pd : D → Prop) (Px : Prop) (h : spTracked ds Pd Px) : ir_law_tracked spTrack spMachine spSetting spDepth spTrackH (start0 n_law_tracked.length ds) (goal false Pd Px) := by
  obtain ⟨ns, rfl, h⟩ := h
  simp [ir_law_tracked, start0, n_law_tracked]
  refine ⟨ns, rfl, fun p S hp hS hz => ?_⟩
  have a0 := pt_at hp (i := 0) hp.n1
  have a0 : atI (p.vs.map Vr.d) 0 = some (p.vr 0).d := a0
  obtain ⟨v0, _, e0, v1, v2, v3, v4, v5, v6⟩ := vr_ok hp (i := 0) hp.n1
  simp [setTg, setMany, Pl.d, pD]
  refine ⟨ns, 30, p.vs.length, rfl, by decide, hp.n1, fun w hw => ?_⟩
  simp
  refine ⟨p, S, rfl, hp, hS, hz, fun M hM hMs hMl => ?_⟩
  simp
  refine ⟨M, w, p.vs.length, 60, rfl, hM, hw, by decide, by omega, ?_, fun T hT hTv => ?_⟩
  · simp [a0, Vr.d]
    refine ⟨M, .var 0, .num (p.vr 0).b, p.vs.length, 60, rfl, hM, hp.n1, ?_, by decide, by omega, by rw [hMs]; omega, fun T hT hTv => ?_⟩
    · rw [e0]
      show -20 ≤ v0.b ∧ v0.b ≤ 20
      omega
    · simp
      exact h p M _ T hp hM hT hTv
  · simp
    exact h p M _ T hp hM hT hTv
def spLaw : FSp := fun ds P _ => ∃ (ns : List Int), ds = [scD ns] ∧ P (.bool true)
theorem vc_law (ds : List D) (Pd : D → Prop) (Px : Prop) (h : spLaw ds Pd Px) : ir_law spPoss spJudge spBuild spSays spAlike spPick spRow spTracked (start0 n_law.length ds) (goal false Pd Px) := by
  obtain ⟨ns, rfl, h⟩ := h
  simp [ir_law, start0, n_law]
  refine ⟨ns, rfl, fun p M wd T hp hM hT hTv => ?_⟩
  have hz := hp.sz
  simp [setTg, setMany]
  refine ⟨ns, 31, 10, rfl, by decide, by decide, by decide, fun c hc => ?_⟩
  simp
  refine ⟨p, ns, 32, c, rfl, hp, by decide, by omega, fun R rl rb => ?_⟩
  simp
  refine ⟨_, _, p.ss, M.sts, _, 8, p.vs.length, rfl, hp.s, by omega, hM.va, by decide, by decide, ?_, fun rds r1 r2 r3 => ?_⟩
  · simp
    exact h
  · simp
    refine ⟨_, _, p.ss, T, rds, 40, p.vs.length, rfl, hp.s, by omega, hT, fun r hr => by rw [r2 r hr]; omega, by omega, by decide, fun r c hc hf => ?_, ?_, fun Mo hMo hsay => ?_⟩
    · have e := List.getElem?_eq_getElem hc
      refine r1 (T.vals[c]) (hTv _ (List.getElem_mem hc)) r ?_
      unfold Trk.fit at hf
      rw [getD_some e] at hf
      exact hf
    · simp
      exact h
    · simp
      refine ⟨by omega, ?_⟩
      refine for_gen (fun k G' => ∃ (a b : Slot), G' = [.im (scD ns), .im p.d, .im M.d, .im wd, .im T.d, .im (.list (R.map eR)), .im Mo.d, a, b]) ⟨_, _, rfl⟩ (fun _ _ _ _ => trivial) ?_ ?_
      · rintro J hJ k d G' hk ⟨a, b, rfl⟩
        obtain ⟨rfl, hk3⟩ := rg0 hk
        have ec : cutD (R.map eR) none (some (k : Int)) = (R.take k).map eR := by rw [cut_take, List.map_take]
        simp [ec, -List.map_take]
        refine ⟨_, _, p.ss, T, R.take k, p.vs.length, rfl, hp.s, by omega, fun r hr => Nat.le_trans (rb r (List.mem_of_mem_take hr)) (by decide), hT, ?_⟩
        simp [instB, ec, -List.map_take]
        refine ⟨Mo, R.take k, rfl, hMo, ?_⟩
        simp
        refine ⟨_, _, rfl, ?_⟩
        rw [hsay]
        simp
        exact hJ _ _ ⟨_, _, rfl⟩
      · rintro G' ⟨a, b, rfl⟩
        simp
        exact h
end Wd

/-! D1: what runs behind TooMany: a plain fact l = r is tracked. -/
namespace Wd
open PySem PySem.Spec PyProof.Rows L2
def never : FSp := fun _ _ _ => False
theorem vcH_value (ds : List D) (Pd : D → Prop) (Px : Prop) (h : spValue 0 ds Pd Px) : irH_value_of never never (start0 n_value_of.length ds) (goal true Pd Px) := by
  obtain ⟨t, vs, n, rfl, ht, hv, h⟩ := h
  cases t with
  | num i => simp [irH_value_of, start0, n_value_of, Trm.d]; exact h
  | var m =>
    have hm : m < n := ht
    simp [irH_value_of, start0, n_value_of, Trm.d, eI, at_var hv hm]; exact h
  | neg t => exact ht.elim
  | bin o l r => exact ht.elim
def spTrueH : FSp := fun ds P _ => ∃ (l r : Trm) (vs : List Int) (n : Nat), ds = [(Cd.same l r).d, eI vs] ∧ TOk n 0 l ∧ TOk n 0 r ∧ VOk n vs ∧ ∀ b, P (.bool b)
theorem vcH_true (ds : List D) (Pd : D → Prop) (Px : Prop) (h : spTrueH ds Pd Px) : irH_is_true (spValue 0) never (start0 n_is_true.length ds) (goal true Pd Px) := by
  obtain ⟨l, r, vs, n, rfl, hl, hr, hv, h⟩ := h
  simp [irH_is_true, start0, n_is_true, Cd.d]
  refine ⟨l, vs, n, rfl, hl, hv, ?_⟩
  simp
  refine ⟨r, vs, n, rfl, hr, hv, ?_⟩
  simp
  exact h _
def spLabelH : FSp := fun ds P _ => ∃ (M : Mach) (l r : Trm) (n : Nat), ds = [M.d, (Fact.holds (.same l r)).d] ∧ MkOk n M ∧ TOk n 0 l ∧ TOk n 0 r ∧ ∀ bs : List Bool, bs.length = M.sts.length → P (bL bs)
theorem vcH_label (ds : List D) (Pd : D → Prop) (Px : Prop) (h : spLabelH ds Pd Px) : irH_label spTrueH never never never never (start0 n_label.length ds) (goal true Pd Px) := by
  obtain ⟨M, l, r, n, rfl, hM, hl, hr, h⟩ := h
  have hz := hM.z
  simp [irH_label, start0, n_label, Fact.d, Mach.d]
  refine sts_rel rfl trivial (by rw [List.length_map]; omega) ?_ fun bs hb => ?_
  · intro k x hk
    obtain ⟨vs, hv, rfl⟩ := map_get hk
    refine ⟨_, rfl, fun Q hQ => ?_⟩
    simp [wipeG]
    exact ⟨l, r, vs, n, rfl, hl, hr, hM.va vs (List.mem_of_getElem? hv), fun b => hQ b⟩
  · exact h bs (by rw [hb, List.length_map])
theorem vcH_facts (ds : List D) (Pd : D → Prop) (Px : Prop) (h : spFacts 0 ds Pd Px) : irH_facts_in never (start0 n_facts_in.length ds) (goal true Pd Px) := vc_facts (hot := true) (d := 0) (by decide) ds Pd Px h
theorem vcH_meets (ds : List D) (Pd : D → Prop) (Px : Prop) (h : spMeets 0 ds Pd Px) : irH_meets never never (start0 n_meets.length ds) (goal true Pd Px) := vc_meets (hot := true) (d := 0) ds Pd Px h
theorem vcH_first (ds : List D) (Pd : D → Prop) (Px : Prop) (h : spFirst 0 ds Pd Px) : irH_first_memory never never never (start0 n_first_memory.length ds) (goal true Pd Px) := vc_first (hot := true) (d := 0) (by decide) ds Pd Px h
theorem vcH_next (ds : List D) (Pd : D → Prop) (Px : Prop) (h : spNext 0 ds Pd Px) : irH_next_memory never never never (start0 n_next_memory.length ds) (goal true Pd Px) := by
  obtain ⟨w, n, ms, bs, rfl, hw, hm, hb, h⟩ := h
  cases w with
  | fact f =>
    match bs, hb with
    | [b], _ =>
      simp [irH_next_memory, start0, n_next_memory, Wish.d, bL]
      exact h _ ⟨b, rfl⟩ (fun _ _ => rfl)
  | not w => exact hw.elim
  | once w => exact hw.elim
  | before w => exact hw.elim
  | oncein k w => exact hw.elim
  | and a b => exact hw.elim
  | or a b => exact hw.elim
  | since a b => exact hw.elim
theorem same3 {n : Nat} {l r : Trm} (hl : TOk n 0 l) (hr : TOk n 0 r) : FtOk n 3 (.holds (.same l r)) := by
  have : COk n 3 (.same l r) := ⟨tok_up (tok_up (tok_up hl)), tok_up (tok_up (tok_up hr))⟩
  exact this
def spLabelsH : FSp := fun ds P _ => ∃ (M : Mach) (l r : Trm) (n : Nat), ds = [M.d, (Wish.fact (.holds (.same l r))).d] ∧ MkOk n M ∧ TOk n 0 l ∧ TOk n 0 r ∧ ∀ H : List (List Bool), H.length = M.sts.length → (∀ r ∈ H, r.length = 1) → P (.list (H.map bL))
theorem vcH_labels (ds : List D) (Pd : D → Prop) (Px : Prop) (h : spLabelsH ds Pd Px) : irH_labels_of spLabelH (spFacts 0) (start0 n_labels_of.length ds) (goal true Pd Px) := by
  obtain ⟨M, l, r, n, rfl, hM, hl, hr, h⟩ := h
  refine vc_labels (hot := true) (w := .fact (.holds (.same l r))) hM (by show 1 ≤ 1024; decide) (fun P X hP => ⟨_, n, rfl, same3 hl hr, hP⟩) (fun f hf P X hP => ?_) h
  rw [List.mem_singleton.mp hf]
  exact ⟨M, l, r, n, rfl, hM, hl, hr, hP⟩
theorem vc_labelsC (ds : List D) (Pd : D → Prop) (Px : Prop) (h : spLabels 3 ds Pd Px) : ir_labels_of (spLabel 3) (spFacts 3) (start0 n_labels_of.length ds) (goal false Pd Px) := by
  obtain ⟨M, w, n, rfl, hM, hw, h⟩ := h
  exact vc_labels hM (sz_small (by decide) hw).2 (fun P X hP => ⟨w, n, rfl, hw, hP⟩) (fun f hf P X hP => ⟨M, f, n, rfl, hM, fs_ok hw f hf, hP⟩) h
theorem vcH_number (x : D) (l : Addr) (ds : List D) (m : Addr) (kvs : Kvs) (k : NestedKey) (hk : keyOf true x = some k) (h1 : ds.length ≤ 1000000) (h2 : kvs.length ≤ 1000000) : irH_number_of [.im x, .ow l (.lst ds), .ow m (.dct true kvs)] (goalN l ds m kvs k x) := vc_number x l ds m kvs k hk h1 h2
theorem vcH_track (ds : List D) (Pd : D → Prop) (Px : Prop) (h : spTrackH ds Pd Px) : irH_track (spMeets 0) (spFirst 0) (spNext 0) spLabelsH (start0 n_track.length ds) (goal true Pd Px) := by
  obtain ⟨M, l, r, n, most, rfl, hM, hl, hr, hmost, hsl, hz, h⟩ := h
  show irR_track sNever (spMeets 0) (spFirst 0) (spNext 0) spLabelsH _ _
  have hw : WOk n 0 (.fact (.holds (.same l r))) := same3 hl hr
  exact vc_track (w := .fact (.holds (.same l r))) (simple := True) hM hmost hsl (fun P X h => ⟨M, l, r, n, rfl, hM, hl, hr, h⟩) (fun bs P X hb h => ⟨_, n, bs, rfl, hw, hb, h⟩) (fun ms bs P X hm hb h => ⟨_, n, ms, bs, rfl, hw, hm, hb, h⟩)
    (fun ms P X hm h => ⟨_, n, ms, rfl, hw, hm, h⟩) (fun _ => ⟨_, rfl⟩) (.inl ⟨trivial, hz⟩) h
end Wd

/-! E1: the class TooMany, made and raised. -/
namespace Wd
open PySem PySem.Spec PyProof.Rows L2
abbrev sWhat : Stmt := inClass (top 2) 0
abbrev whatN : List Str := ["self", "what"]
theorem scWhat : FnScope whatN whatN (defScope sWhat) := ⟨rfl, rfl, rfl, by decide +kernel, rfl, by decide +kernel, by decide +kernel⟩
/-- self.what = what -/
def spWhat (C : Addr) : Sp := fun vs H Q _ => ∃ (a : Addr) (v : V), vs = [.ref a, v] ∧ H a = some (exo a C none) ∧ ∀ dx, H dx = none → dx ≠ a → Q .non (upd (upd H dx (exd dx [(("what" : Str), v)])) a (exo a C (some dx)))
theorem what_ok {P : Program} {w : World} {K : PySem.W.Frag} {mg : Str → Option Value} {base : Heap} {C f : Addr} {fd : FuncData} (T : OexC K C) (hno : PySem.W.findIn K (.ref C) "what" = some none) (F : L2.Fun K "__init__" "TooMany.__init__" sWhat f fd) :
    FnOk P w K mg base L2.CX0 1 f fd whatN (spWhat C) := by
  refine F.ok scWhat (fun vs H Q E h => ?_) (fun cdv A outer s H vs Q E hr h => ?_)
  · obtain ⟨a, v, rfl, _⟩ := h
    rfl
  · obtain ⟨a, v, rfl, ha, kq⟩ := h
    refine ⟨_, pss_one (ps_ost (f := "what") (pv 0) (pv 1)), ?_⟩
    exact ⟨v, rfl, V.ref a, rfl, a, C, rfl, T, hno, .inl ⟨ha, fun dx hd hne => kq dx hd hne⟩⟩
section
variable {X : Cx} {C fI : Addr} {fd : FuncData} {m : Str} {j : Nat} {p p2 p3 : Pos}
theorem too_made (T : OexC X.K C) (hi : PySem.W.findIn X.K (.ref C) "__init__" = some (some (.ref fI))) (ht : PySem.W.typeIn X.K (.ref fI) = some (.type "function")) (FI : FnOk X.prog X.w X.K X.mg X.base L2.CX0 1 fI fd whatN (spWhat C))
    (hr : Room 2 X.A) (hb : Binds X.K fd whatN []) (hg : Gl X "TooMany") (hm : X.mg "TooMany" = some (.ref C)) :
    L2N.PMk X (.Call (.Name "TooMany" p) [.Constant (.str m) j p2] [] p3) fun _ H Q => ∀ d o, H d = none → Q (.ref C) (some d) (upd H d o) := by
  intro pins s σ H Q I want
  obtain ⟨nm, q, N, bs, bm, sn, sub, ab, col, dd, k0, k1, k2, k3, k5, objC, hbm⟩ := T.cls
  have args : PA X [.Constant (.str m) j p2] (tCons (tC (.str m)) tNil) := pa_cons pe_str pa_nil
  refine wpAny_Call_Name_kw (ld_glob I hg hm ?_ (by decide))
  refine PySem.W.callWith_K (h₀ := X.base) I.ok.mod.kin T.kC (thn (args.run p3 pins s σ H (fun vs H1 => vs = [V.str m] ∧ H = H1) I ⟨rfl, rfl⟩) fun us s1 done => ?_)
  obtain ⟨vs, H1, J, ru, rfl, rfl⟩ := done
  refine ⟨J.kIn, ?_⟩
  show wpAny _ _ (call (.ref C) us) _ _ _
  obtain ⟨hp, g, dr, tk, os⟩ := s1
  have sz : hp.objs.size ≤ hp.objs.size + 1 := Nat.le_succ _
  have new : H (hp.objs.size + 1) = none := J.hok.fresh sz
  have old : ∀ b o, hp.get? b = some o → ((hp.push (PySem.W.kdv_tup us)).push (PySem.HandSPX.excO C hp.objs.size)).get? b = some o := fun b o z => Heap.get?_push_of_some _ (Heap.get?_push_of_some _ z)
  have it : ((hp.push (PySem.W.kdv_tup us)).push (PySem.HandSPX.excO C hp.objs.size)).get? (hp.objs.size + 1) = some (PySem.HandSPX.excO C hp.objs.size) := by heap_get
  have J2 : Inv X pins σ (upd H (hp.objs.size + 1) (exo (hp.objs.size + 1) C none)) ⟨(hp.push (PySem.W.kdv_tup us)).push (PySem.HandSPX.excO C hp.objs.size), g, dr, tk, os⟩ :=
    J.laid (t' := tk) (a := hp.objs.size + 1) (o := exo (hp.objs.size + 1) C none) (h' := (hp.push (PySem.W.kdv_tup us)).push (PySem.HandSPX.excO C hp.objs.size)) old sz (exo_ok it)
  have r2 : Vals [V.ref (hp.objs.size + 1), V.str m] (Value.ref (hp.objs.size + 1) :: us) := .cons rfl ru
  have ul : us.length = 1 := (Paired.length ru).symm
  have want2 : spWhat C [V.ref (hp.objs.size + 1), V.str m] (upd H (hp.objs.size + 1) (exo (hp.objs.size + 1) C none))
      (fun v H2 => v = .non ∧ ∃ (d : Addr) (fs : List (Str × V)), H2 (hp.objs.size + 1) = some (exo (hp.objs.size + 1) C (some d)) ∧ H2 d = some (exd d fs) ∧ H d = none ∧ Q (.ref C) (some d) (upd (del H2 (hp.objs.size + 1)) d (.xd fs))) (fun _ _ _ => False) := by
    refine ⟨_, _, rfl, upd_same, fun dx hd hne => ⟨rfl, dx, [(("what" : Str), V.str m)], upd_same, ?_, ?_, ?_⟩⟩
    · rw [upd_ne hne, upd_same]
    · rw [upd_ne hne] at hd
      exact hd
    · rw [upd_ne hne] at hd
      have e : upd (del (upd (upd (upd H (hp.objs.size + 1) (exo (hp.objs.size + 1) C none)) dx (exd dx [(("what" : Str), V.str m)])) (hp.objs.size + 1) (exo (hp.objs.size + 1) C (some dx))) (hp.objs.size + 1)) dx (.xd [(("what" : Str), V.str m)])
          = upd H dx (.xd [(("what" : Str), V.str m)]) := by
        funext b
        by_cases c1 : b = dx
        · rw [c1, upd_same, upd_same]
        · rw [upd_ne c1, upd_ne c1]
          by_cases c2 : b = hp.objs.size + 1
          · rw [c2, del_same, new]
          · rw [del_ne c2, upd_ne c2, upd_ne c1, upd_ne c2]
      rw [e]
      exact want dx _ hd
  have bound := hb ⟨(hp.push (PySem.W.kdv_tup us)).push (PySem.HandSPX.excO C hp.objs.size), g, dr, tk, os⟩ (Value.ref (hp.objs.size + 1) :: us) J2.kIn (by rw [List.append_nil, List.length_cons, ul]; rfl)
  rw [List.append_nil] at bound
  refine wpAny_call (PySem.HandSPX.call_own F.excBase_ValueError (fun Y => PySem.HandSPX.refsVE_contains Y bm hbm) (J.kIn _ _ objC) (PySem.W.looks_findIn J.kIn hi) (fun self => PySem.W.bind_fn J.kIn self ht) (by rw [ul, sizeLine_eq]; decide)
    (codeAny_mono (FI.run _ X.stack _ _ ⟨Value.ref (hp.objs.size + 1) :: us, []⟩ (Value.ref (hp.objs.size + 1) :: us) _ _ (fun _ _ _ => False) (hr.make C us []) (J2.env0.make C us []) bound r2 want2) fun r s2 got => ?_))
  cases r with
  | error er => exact got.elim
  | ok fl =>
    cases fl with
    | ret u =>
      obtain ⟨v, H2, os2, bare2, un2, hok2, rv, ev, d, fs, ea, ed, hd1, q2⟩ := got
      subst ev
      obtain ⟨h2, g2, d2, t2, os'⟩ := s2
      obtain ⟨t0, G, L, kG, ge, obj, na⟩ := mk_end0 (d2 := d2) (t2 := t2) J sz old un2 hok2 os2 bare2 ea ed hd1
      refine ⟨rv, hp.objs.size + 1, _, _, ⟨G, g2, d2, t2, os'⟩, _, .ref C, some d, rfl, L, kG, ge, obj, ⟨rfl, rfl, fun vs hv => ?_⟩, rfl, rfl, na, rfl, bare2, raises_own T.exC T.tyC, q2⟩
      cases hv
      rfl
    | next => exact got.elim
    | brk => exact got.elim
    | cont => exact got.elim
end
/-- what the top has written of the class -/
structure TooT (K : PySem.W.Frag) (mg : Str → Option Value) (C : Addr) : Prop where
  oex : OexC K C
  mgC : mg "TooMany" = some (.ref C)
  no : PySem.W.findIn K (.ref C) "what" = some none
  ini : ∃ (f : Addr) (fd : FuncData), PySem.W.findIn K (.ref C) "__init__" = some (some (.ref f)) ∧ PySem.W.typeIn K (.ref f) = some (.type "function") ∧ L2.Fun K "__init__" "TooMany.__init__" sWhat f fd
theorem TooT.exc {W : Wl} (h : TooT W.K W.mg W.C) : ExcT W "TooMany" where
  mgC := h.mgC
  dbg := by decide
  rs := fun X hP hw hK hm hb ⟨k, hr⟩ hg m j p p2 p3 => by
    obtain ⟨f, fd, i1, i2, F⟩ := h.ini
    have FI : FnOk W.P W.w W.K W.mg W.base L2.CX0 1 f fd whatN (spWhat W.C) := what_ok h.oex h.no F
    have b := F.binds (ps := whatN) fun _ _ _ _ _ _ us hl => match us, hl with | [_, _], _ => rfl
    have mgC := h.mgC
    have oex := h.oex
    rw [← hP, ← hw, ← hK, ← hm, ← hb] at FI
    rw [← hK] at i1 i2 b oex
    rw [← hm] at mgC
    exact too_made oex i1 i2 FI (hr.mono (by omega)) b hg mgC
end Wd

/-! F1: how a def's promise is had from its reading on data. -/
namespace Wd
open PySem PySem.Spec PyProof.Rows L2
def Has (W : Wl) (nm : Str) (st : Stmt) : Prop := ∃ (f : Addr) (fd : FuncData), W.mg nm = some (.ref f) ∧ L2.Fun W.K nm nm st f fd
def BindL (nm : Str) (st : Stmt) (ps : List Str) : Prop := ∀ (kV doc pm : Value) (an : Option Addr) (cdv ct : Value) (us : List Value), us.length = ps.length →
  bindArgs (PySem.W.fnOf nm nm (defArgs st) (defBody st) (defScope st) .none kV doc pm an cdv ct) ⟨us, []⟩ = pure (ps.zip us)
theorem fn_never {W : Wl} {hot : Bool} {k : Nat} {f : Addr} {fd : FuncData} {ps : List Str} : FnM hot W.P W.w W.K W.mg W.base k f fd ps (spOf W.C never) :=
  ⟨fun _ => ⟨fun vs H Q E ⟨_, _, _, _, h, _⟩ => h.elim, fun A outer s H args us vs Q E _ _ _ _ ⟨_, _, _, _, h, _⟩ => h.elim⟩,
    fun _ => ⟨fun vs H Q E ⟨_, _, _, _, h, _⟩ => h.elim, fun A outer s H args us vs Q E p _ _ _ _ _ _ ⟨_, _, _, _, h, _⟩ => h.elim⟩⟩
section
variable {W : Wl} {hot : Bool} {nm : Str} {st : Stmt} {ps : List Str} {s : SCfg} {k n : Nat} {sp : FSp} {ir : Ss} {e : FE} {l : List FE}
theorem kept_never (h : Has W nm st) (hb : BindL nm st ps) : Kept W hot ⟨nm, k, never⟩ := by
  obtain ⟨f, fd, hm, F⟩ := h
  exact ⟨f, fd, ps, hm, F.kp, F.binds hb, fn_never⟩
theorem kept_by (h : Has W nm st) (hb : BindL nm st ps) (e : trB s (defBody st) = ir) (hn : s.c.N.length = n) (d : DefOk W s hot k st ps) (len : ∀ ds Pd Px, sp ds Pd Px → ds.length = ps.length)
    (vc : ∀ ds Pd Px, sp ds Pd Px → ir (start0 n ds) (goal hot Pd Px)) : Kept W hot ⟨nm, k + 1, sp⟩ := by
  obtain ⟨f, fd, hm, F⟩ := h
  subst e hn
  exact ⟨f, fd, ps, hm, F.kp, F.binds hb, def_ok F d len vc⟩
theorem fn_by {f : Addr} {fd : FuncData} (F : L2.Fun W.K nm nm st f fd) (e : trB s (defBody st) = ir) (hn : s.c.N.length = n) (d : DefOk W s hot k st ps) (len : ∀ ds Pd Px, sp ds Pd Px → ds.length = ps.length)
    (vc : ∀ ds Pd Px, sp ds Pd Px → ir (start0 n ds) (goal hot Pd Px)) : FnM hot W.P W.w W.K W.mg W.base (k + 1) f fd ps (spOf W.C sp) := by
  subst e hn
  exact def_ok F d len vc
theorem num_by (h : Has W "number_of" st) (hb : BindL "number_of" st numN) (e : trB s (defBody st) = ir) (hN : s.c.N = numN) (d : DefOk W s hot k st numN)
    (vc : ∀ (x : D) (l : Addr) (ds : List D) (m : Addr) (kvs : Kvs) (k : NestedKey), keyOf true x = some k → ds.length ≤ 1000000 → kvs.length ≤ 1000000 → ir [.im x, .ow l (.lst ds), .ow m (.dct true kvs)] (goalN l ds m kvs k x)) {j : Nat} (hj : k + 1 ≤ j) : NumK W hot j := by
  obtain ⟨f, fd, hm, F⟩ := h
  subst e
  exact numK_of hm F.kp (F.binds hb) (num_ok F d hN vc) hj
theorem all_nil : ∀ e ∈ ([] : List FE), Kept W hot e ∧ e.k ≤ k := fun _ h => nomatch h
theorem all_cons (h : Kept W hot e) (hk : e.k ≤ k) (r : ∀ e ∈ l, Kept W hot e ∧ e.k ≤ k) : ∀ e' ∈ e :: l, Kept W hot e' ∧ e'.k ≤ k := fun e' m => by
  rcases List.mem_cons.mp m with z | z
  · rw [z]; exact ⟨h, hk⟩
  · exact r e' z
end
/-- the defs of the text: names, places -/
def tbl : List (Str × Nat) := [⟨"combined", 4⟩, ⟨"value_of", 5⟩, ⟨"is_true", 6⟩, ⟨"can_show", 8⟩, ⟨"options_of", 9⟩, ⟨"count_readings", 10⟩, ⟨"readings_at", 11⟩, ⟨"possible_readings", 12⟩, ⟨"set_after", 14⟩, ⟨"verdict_of", 15⟩, ⟨"judge", 16⟩, ⟨"reached_nodes", 18⟩, ⟨"grouped", 19⟩, ⟨"classes_of", 20⟩, ⟨"reduce", 21⟩, ⟨"build", 23⟩, ⟨"says", 24⟩, ⟨"joined", 26⟩, ⟨"some_next", 27⟩, ⟨"each_next", 28⟩, ⟨"grown", 29⟩, ⟨"label", 30⟩, ⟨"facts_in", 32⟩, ⟨"size_of", 33⟩, ⟨"meets", 34⟩, ⟨"first_memory", 35⟩, ⟨"next_memory", 36⟩, ⟨"next_pair", 37⟩, ⟨"labels_of", 39⟩, ⟨"number_of", 40⟩, ⟨"track", 41⟩, ⟨"_law_cell", 43⟩, ⟨"_law_draw", 44⟩, ⟨"_law_term", 45⟩, ⟨"_law_condition", 46⟩, ⟨"_law_move", 47⟩, ⟨"_law_plant", 48⟩, ⟨"_law_sensors", 49⟩, ⟨"_law_value", 50⟩, ⟨"_law_true", 51⟩, ⟨"_law_box", 52⟩, ⟨"_law_part_next", 53⟩, ⟨"_law_next", 54⟩, ⟨"_law_first", 55⟩, ⟨"_law_fact", 56⟩, ⟨"_law_wish", 57⟩, ⟨"_law_alike", 58⟩, ⟨"_law_states", 59⟩, ⟨"_law_steps", 60⟩, ⟨"_law_machine", 61⟩, ⟨"_law_pick", 62⟩, ⟨"_law_readings", 63⟩, ⟨"_law_row", 64⟩, ⟨"_law_setting", 65⟩, ⟨"_law_depth_wish", 66⟩, ⟨"_law_tracked", 67⟩, ⟨"law", 68⟩]
structure Bse (W : Wl) : Prop where
  bl : ∀ x, blts.contains x = true → W.mg x = none
  too : TooT W.K W.mg W.C
  em : PySem.W.exmOne W.K (.ref W.C) (.ref W.C) = some true
  fs : ∀ (j : Nat) (p : Str × Nat), tbl[j]? = some p → Has W p.1 (top p.2)
theorem dk {W : Wl} {s : SCfg} {hot : Bool} {k : Nat} {st : Stmt} {ps : List Str} (B : Bse W) (S : FnScope s.c.N ps (defScope st)) (sc : s.c.sc = defScope st) (fn : s.c.fn = fun _ => true) (ht : s.c.hot = hot) (l2 : s.c.l2 = !hot) (bl : s.c.bl = blts)
    (num : s.c.num = true → NumK W hot k) (exc : s.exc = none ∨ (s.exc = some "TooMany" ∧ glB s.c "TooMany" = true ∧ 2 ≤ k)) (tr : s.tr = true → s.c.hot = false ∧ ∀ e ∈ s.fnsH, Kept W true e ∧ e.k ≤ k)
    (fns : ∀ e ∈ s.c.fns, Kept W hot e ∧ e.k ≤ k) : DefOk W s hot k st ps where
  S := S
  sc := sc
  fn := fn
  ht := ht
  l2 := fun h => by rw [l2] at h; simpa using h
  fns := fns
  bl := fun x h => B.bl x (by rw [← bl]; exact h)
  num := num
  exc := fun x hx => by
    rcases exc with e | ⟨e, g, z⟩
    · rw [e] at hx; cases hx
    · rw [e] at hx; cases hx; exact ⟨B.too.exc, g, z⟩
  tr := fun h => ⟨(tr h).1, (tr h).2, B.em⟩
end Wd

/-! F2: each def keeps its promise (printed by gen2.py). -/
namespace Wd
open PySem PySem.Spec PyProof.Rows L2

theorem sc_combined : FnScope n_combined a_combined (defScope s_combined) := ⟨rfl, rfl, rfl, by decide +kernel, rfl, by decide +kernel, by decide +kernel⟩
theorem bd_combined : BindL "combined" s_combined a_combined := fun _ _ _ _ _ _ us hl => match us, hl with | [_, _, _], _ => rfl
theorem sc_value_of : FnScope n_value_of a_value_of (defScope s_value_of) := ⟨rfl, rfl, rfl, by decide +kernel, rfl, by decide +kernel, by decide +kernel⟩
theorem bd_value_of : BindL "value_of" s_value_of a_value_of := fun _ _ _ _ _ _ us hl => match us, hl with | [_, _], _ => rfl
theorem sc_is_true : FnScope n_is_true a_is_true (defScope s_is_true) := ⟨rfl, rfl, rfl, by decide +kernel, rfl, by decide +kernel, by decide +kernel⟩
theorem bd_is_true : BindL "is_true" s_is_true a_is_true := fun _ _ _ _ _ _ us hl => match us, hl with | [_, _], _ => rfl
theorem sc_can_show : FnScope n_can_show a_can_show (defScope s_can_show) := ⟨rfl, rfl, rfl, by decide +kernel, rfl, by decide +kernel, by decide +kernel⟩
theorem bd_can_show : BindL "can_show" s_can_show a_can_show := fun _ _ _ _ _ _ us hl => match us, hl with | [_, _, _], _ => rfl
theorem sc_options_of : FnScope n_options_of a_options_of (defScope s_options_of) := ⟨rfl, rfl, rfl, by decide +kernel, rfl, by decide +kernel, by decide +kernel⟩
theorem bd_options_of : BindL "options_of" s_options_of a_options_of := fun _ _ _ _ _ _ us hl => match us, hl with | [_, _], _ => rfl
theorem sc_count_readings : FnScope n_count_readings a_count_readings (defScope s_count_readings) := ⟨rfl, rfl, rfl, by decide +kernel, rfl, by decide +kernel, by decide +kernel⟩
theorem bd_count_readings : BindL "count_readings" s_count_readings a_count_readings := fun _ _ _ _ _ _ us hl => match us, hl with | [_, _, _], _ => rfl
theorem sc_readings_at : FnScope n_readings_at a_readings_at (defScope s_readings_at) := ⟨rfl, rfl, rfl, by decide +kernel, rfl, by decide +kernel, by decide +kernel⟩
theorem bd_readings_at : BindL "readings_at" s_readings_at a_readings_at := fun _ _ _ _ _ _ us hl => match us, hl with | [_, _], _ => rfl
theorem sc_possible_readings : FnScope n_possible_readings a_possible_readings (defScope s_possible_readings) := ⟨rfl, rfl, rfl, by decide +kernel, rfl, by decide +kernel, by decide +kernel⟩
theorem bd_possible_readings : BindL "possible_readings" s_possible_readings a_possible_readings := fun _ _ _ _ _ _ us hl => match us, hl with | [_, _, _], _ => rfl
theorem sc_set_after : FnScope n_set_after a_set_after (defScope s_set_after) := ⟨rfl, rfl, rfl, by decide +kernel, rfl, by decide +kernel, by decide +kernel⟩
theorem bd_set_after : BindL "set_after" s_set_after a_set_after := fun _ _ _ _ _ _ us hl => match us, hl with | [_, _, _, _], _ => rfl
theorem sc_verdict_of : FnScope n_verdict_of a_verdict_of (defScope s_verdict_of) := ⟨rfl, rfl, rfl, by decide +kernel, rfl, by decide +kernel, by decide +kernel⟩
theorem bd_verdict_of : BindL "verdict_of" s_verdict_of a_verdict_of := fun _ _ _ _ _ _ us hl => match us, hl with | [_, _], _ => rfl
theorem sc_judge : FnScope n_judge a_judge (defScope s_judge) := ⟨rfl, rfl, rfl, by decide +kernel, rfl, by decide +kernel, by decide +kernel⟩
theorem bd_judge : BindL "judge" s_judge a_judge := fun _ _ _ _ _ _ us hl => match us, hl with | [_, _, _], _ => rfl
theorem sc_reached_nodes : FnScope n_reached_nodes a_reached_nodes (defScope s_reached_nodes) := ⟨rfl, rfl, rfl, by decide +kernel, rfl, by decide +kernel, by decide +kernel⟩
theorem bd_reached_nodes : BindL "reached_nodes" s_reached_nodes a_reached_nodes := fun _ _ _ _ _ _ us hl => match us, hl with | [_], _ => rfl
theorem sc_grouped : FnScope n_grouped a_grouped (defScope s_grouped) := ⟨rfl, rfl, rfl, by decide +kernel, rfl, by decide +kernel, by decide +kernel⟩
theorem bd_grouped : BindL "grouped" s_grouped a_grouped := fun _ _ _ _ _ _ us hl => match us, hl with | [_], _ => rfl
theorem sc_classes_of : FnScope n_classes_of a_classes_of (defScope s_classes_of) := ⟨rfl, rfl, rfl, by decide +kernel, rfl, by decide +kernel, by decide +kernel⟩
theorem bd_classes_of : BindL "classes_of" s_classes_of a_classes_of := fun _ _ _ _ _ _ us hl => match us, hl with | [_, _], _ => rfl
theorem sc_reduce : FnScope n_reduce a_reduce (defScope s_reduce) := ⟨rfl, rfl, rfl, by decide +kernel, rfl, by decide +kernel, by decide +kernel⟩
theorem bd_reduce : BindL "reduce" s_reduce a_reduce := fun _ _ _ _ _ _ us hl => match us, hl with | [_], _ => rfl
theorem sc_build : FnScope n_build a_build (defScope s_build) := ⟨rfl, rfl, rfl, by decide +kernel, rfl, by decide +kernel, by decide +kernel⟩
theorem bd_build : BindL "build" s_build a_build := fun _ _ _ _ _ _ us hl => match us, hl with | [_, _, _, _], _ => rfl
theorem sc_says : FnScope n_says a_says (defScope s_says) := ⟨rfl, rfl, rfl, by decide +kernel, rfl, by decide +kernel, by decide +kernel⟩
theorem bd_says : BindL "says" s_says a_says := fun _ _ _ _ _ _ us hl => match us, hl with | [_, _], _ => rfl
theorem sc_joined : FnScope n_joined a_joined (defScope s_joined) := ⟨rfl, rfl, rfl, by decide +kernel, rfl, by decide +kernel, by decide +kernel⟩
theorem bd_joined : BindL "joined" s_joined a_joined := fun _ _ _ _ _ _ us hl => match us, hl with | [_, _, _], _ => rfl
theorem sc_some_next : FnScope n_some_next a_some_next (defScope s_some_next) := ⟨rfl, rfl, rfl, by decide +kernel, rfl, by decide +kernel, by decide +kernel⟩
theorem bd_some_next : BindL "some_next" s_some_next a_some_next := fun _ _ _ _ _ _ us hl => match us, hl with | [_, _, _], _ => rfl
theorem sc_each_next : FnScope n_each_next a_each_next (defScope s_each_next) := ⟨rfl, rfl, rfl, by decide +kernel, rfl, by decide +kernel, by decide +kernel⟩
theorem bd_each_next : BindL "each_next" s_each_next a_each_next := fun _ _ _ _ _ _ us hl => match us, hl with | [_, _, _], _ => rfl
theorem sc_grown : FnScope n_grown a_grown (defScope s_grown) := ⟨rfl, rfl, rfl, by decide +kernel, rfl, by decide +kernel, by decide +kernel⟩
theorem bd_grown : BindL "grown" s_grown a_grown := fun _ _ _ _ _ _ us hl => match us, hl with | [_, _, _, _], _ => rfl
theorem sc_label : FnScope n_label a_label (defScope s_label) := ⟨rfl, rfl, rfl, by decide +kernel, rfl, by decide +kernel, by decide +kernel⟩
theorem bd_label : BindL "label" s_label a_label := fun _ _ _ _ _ _ us hl => match us, hl with | [_, _], _ => rfl
theorem sc_facts_in : FnScope n_facts_in a_facts_in (defScope s_facts_in) := ⟨rfl, rfl, rfl, by decide +kernel, rfl, by decide +kernel, by decide +kernel⟩
theorem bd_facts_in : BindL "facts_in" s_facts_in a_facts_in := fun _ _ _ _ _ _ us hl => match us, hl with | [_], _ => rfl
theorem sc_size_of : FnScope n_size_of a_size_of (defScope s_size_of) := ⟨rfl, rfl, rfl, by decide +kernel, rfl, by decide +kernel, by decide +kernel⟩
theorem bd_size_of : BindL "size_of" s_size_of a_size_of := fun _ _ _ _ _ _ us hl => match us, hl with | [_], _ => rfl
theorem sc_meets : FnScope n_meets a_meets (defScope s_meets) := ⟨rfl, rfl, rfl, by decide +kernel, rfl, by decide +kernel, by decide +kernel⟩
theorem bd_meets : BindL "meets" s_meets a_meets := fun _ _ _ _ _ _ us hl => match us, hl with | [_, _], _ => rfl
theorem sc_first_memory : FnScope n_first_memory a_first_memory (defScope s_first_memory) := ⟨rfl, rfl, rfl, by decide +kernel, rfl, by decide +kernel, by decide +kernel⟩
theorem bd_first_memory : BindL "first_memory" s_first_memory a_first_memory := fun _ _ _ _ _ _ us hl => match us, hl with | [_, _], _ => rfl
theorem sc_next_memory : FnScope n_next_memory a_next_memory (defScope s_next_memory) := ⟨rfl, rfl, rfl, by decide +kernel, rfl, by decide +kernel, by decide +kernel⟩
theorem bd_next_memory : BindL "next_memory" s_next_memory a_next_memory := fun _ _ _ _ _ _ us hl => match us, hl with | [_, _, _], _ => rfl
theorem sc_next_pair : FnScope n_next_pair a_next_pair (defScope s_next_pair) := ⟨rfl, rfl, rfl, by decide +kernel, rfl, by decide +kernel, by decide +kernel⟩
theorem bd_next_pair : BindL "next_pair" s_next_pair a_next_pair := fun _ _ _ _ _ _ us hl => match us, hl with | [_, _, _], _ => rfl
theorem sc_labels_of : FnScope n_labels_of a_labels_of (defScope s_labels_of) := ⟨rfl, rfl, rfl, by decide +kernel, rfl, by decide +kernel, by decide +kernel⟩
theorem bd_labels_of : BindL "labels_of" s_labels_of a_labels_of := fun _ _ _ _ _ _ us hl => match us, hl with | [_, _], _ => rfl
theorem sc_number_of : FnScope n_number_of a_number_of (defScope s_number_of) := ⟨rfl, rfl, rfl, by decide +kernel, rfl, by decide +kernel, by decide +kernel⟩
theorem bd_number_of : BindL "number_of" s_number_of a_number_of := fun _ _ _ _ _ _ us hl => match us, hl with | [_, _, _], _ => rfl
theorem sc_track : FnScope n_track a_track (defScope s_track) := ⟨rfl, rfl, rfl, by decide +kernel, rfl, by decide +kernel, by decide +kernel⟩
theorem bd_track : BindL "track" s_track a_track := fun _ _ _ _ _ _ us hl => match us, hl with | [_, _, _], _ => rfl
theorem sc_law_cell : FnScope n_law_cell a_law_cell (defScope s_law_cell) := ⟨rfl, rfl, rfl, by decide +kernel, rfl, by decide +kernel, by decide +kernel⟩
theorem bd_law_cell : BindL "_law_cell" s_law_cell a_law_cell := fun _ _ _ _ _ _ us hl => match us, hl with | [_, _], _ => rfl
theorem sc_law_draw : FnScope n_law_draw a_law_draw (defScope s_law_draw) := ⟨rfl, rfl, rfl, by decide +kernel, rfl, by decide +kernel, by decide +kernel⟩
theorem bd_law_draw : BindL "_law_draw" s_law_draw a_law_draw := fun _ _ _ _ _ _ us hl => match us, hl with | [_, _, _], _ => rfl
theorem sc_law_term : FnScope n_law_term a_law_term (defScope s_law_term) := ⟨rfl, rfl, rfl, by decide +kernel, rfl, by decide +kernel, by decide +kernel⟩
theorem bd_law_term : BindL "_law_term" s_law_term a_law_term := fun _ _ _ _ _ _ us hl => match us, hl with | [_, _, _], _ => rfl
theorem sc_law_condition : FnScope n_law_condition a_law_condition (defScope s_law_condition) := ⟨rfl, rfl, rfl, by decide +kernel, rfl, by decide +kernel, by decide +kernel⟩
theorem bd_law_condition : BindL "_law_condition" s_law_condition a_law_condition := fun _ _ _ _ _ _ us hl => match us, hl with | [_, _, _], _ => rfl
theorem sc_law_move : FnScope n_law_move a_law_move (defScope s_law_move) := ⟨rfl, rfl, rfl, by decide +kernel, rfl, by decide +kernel, by decide +kernel⟩
theorem bd_law_move : BindL "_law_move" s_law_move a_law_move := fun _ _ _ _ _ _ us hl => match us, hl with | [_, _, _, _, _, _], _ => rfl
theorem sc_law_plant : FnScope n_law_plant a_law_plant (defScope s_law_plant) := ⟨rfl, rfl, rfl, by decide +kernel, rfl, by decide +kernel, by decide +kernel⟩
theorem bd_law_plant : BindL "_law_plant" s_law_plant a_law_plant := fun _ _ _ _ _ _ us hl => match us, hl with | [_], _ => rfl
theorem sc_law_sensors : FnScope n_law_sensors a_law_sensors (defScope s_law_sensors) := ⟨rfl, rfl, rfl, by decide +kernel, rfl, by decide +kernel, by decide +kernel⟩
theorem bd_law_sensors : BindL "_law_sensors" s_law_sensors a_law_sensors := fun _ _ _ _ _ _ us hl => match us, hl with | [_, _], _ => rfl
theorem sc_law_value : FnScope n_law_value a_law_value (defScope s_law_value) := ⟨rfl, rfl, rfl, by decide +kernel, rfl, by decide +kernel, by decide +kernel⟩
theorem bd_law_value : BindL "_law_value" s_law_value a_law_value := fun _ _ _ _ _ _ us hl => match us, hl with | [_, _], _ => rfl
theorem sc_law_true : FnScope n_law_true a_law_true (defScope s_law_true) := ⟨rfl, rfl, rfl, by decide +kernel, rfl, by decide +kernel, by decide +kernel⟩
theorem bd_law_true : BindL "_law_true" s_law_true a_law_true := fun _ _ _ _ _ _ us hl => match us, hl with | [_, _], _ => rfl
theorem sc_law_box : FnScope n_law_box a_law_box (defScope s_law_box) := ⟨rfl, rfl, rfl, by decide +kernel, rfl, by decide +kernel, by decide +kernel⟩
theorem bd_law_box : BindL "_law_box" s_law_box a_law_box := fun _ _ _ _ _ _ us hl => match us, hl with | [_, _], _ => rfl
theorem sc_law_part_next : FnScope n_law_part_next a_law_part_next (defScope s_law_part_next) := ⟨rfl, rfl, rfl, by decide +kernel, rfl, by decide +kernel, by decide +kernel⟩
theorem bd_law_part_next : BindL "_law_part_next" s_law_part_next a_law_part_next := fun _ _ _ _ _ _ us hl => match us, hl with | [_, _, _], _ => rfl
theorem sc_law_next : FnScope n_law_next a_law_next (defScope s_law_next) := ⟨rfl, rfl, rfl, by decide +kernel, rfl, by decide +kernel, by decide +kernel⟩
theorem bd_law_next : BindL "_law_next" s_law_next a_law_next := fun _ _ _ _ _ _ us hl => match us, hl with | [_, _], _ => rfl
theorem sc_law_first : FnScope n_law_first a_law_first (defScope s_law_first) := ⟨rfl, rfl, rfl, by decide +kernel, rfl, by decide +kernel, by decide +kernel⟩
theorem bd_law_first : BindL "_law_first" s_law_first a_law_first := fun _ _ _ _ _ _ us hl => match us, hl with | [_], _ => rfl
theorem sc_law_fact : FnScope n_law_fact a_law_fact (defScope s_law_fact) := ⟨rfl, rfl, rfl, by decide +kernel, rfl, by decide +kernel, by decide +kernel⟩
theorem bd_law_fact : BindL "_law_fact" s_law_fact a_law_fact := fun _ _ _ _ _ _ us hl => match us, hl with | [_, _, _, _], _ => rfl
theorem sc_law_wish : FnScope n_law_wish a_law_wish (defScope s_law_wish) := ⟨rfl, rfl, rfl, by decide +kernel, rfl, by decide +kernel, by decide +kernel⟩
theorem bd_law_wish : BindL "_law_wish" s_law_wish a_law_wish := fun _ _ _ _ _ _ us hl => match us, hl with | [_, _, _, _], _ => rfl
theorem sc_law_alike : FnScope n_law_alike a_law_alike (defScope s_law_alike) := ⟨rfl, rfl, rfl, by decide +kernel, rfl, by decide +kernel, by decide +kernel⟩
theorem bd_law_alike : BindL "_law_alike" s_law_alike a_law_alike := fun _ _ _ _ _ _ us hl => match us, hl with | [_, _], _ => rfl
theorem sc_law_states : FnScope n_law_states a_law_states (defScope s_law_states) := ⟨rfl, rfl, rfl, by decide +kernel, rfl, by decide +kernel, by decide +kernel⟩
theorem bd_law_states : BindL "_law_states" s_law_states a_law_states := fun _ _ _ _ _ _ us hl => match us, hl with | [_, _], _ => rfl
theorem sc_law_steps : FnScope n_law_steps a_law_steps (defScope s_law_steps) := ⟨rfl, rfl, rfl, by decide +kernel, rfl, by decide +kernel, by decide +kernel⟩
theorem bd_law_steps : BindL "_law_steps" s_law_steps a_law_steps := fun _ _ _ _ _ _ us hl => match us, hl with | [_, _], _ => rfl
theorem sc_law_machine : FnScope n_law_machine a_law_machine (defScope s_law_machine) := ⟨rfl, rfl, rfl, by decide +kernel, rfl, by decide +kernel, by decide +kernel⟩
theorem bd_law_machine : BindL "_law_machine" s_law_machine a_law_machine := fun _ _ _ _ _ _ us hl => match us, hl with | [_, _], _ => rfl
theorem sc_law_pick : FnScope n_law_pick a_law_pick (defScope s_law_pick) := ⟨rfl, rfl, rfl, by decide +kernel, rfl, by decide +kernel, by decide +kernel⟩
theorem bd_law_pick : BindL "_law_pick" s_law_pick a_law_pick := fun _ _ _ _ _ _ us hl => match us, hl with | [_, _, _], _ => rfl
theorem sc_law_readings : FnScope n_law_readings a_law_readings (defScope s_law_readings) := ⟨rfl, rfl, rfl, by decide +kernel, rfl, by decide +kernel, by decide +kernel⟩
theorem bd_law_readings : BindL "_law_readings" s_law_readings a_law_readings := fun _ _ _ _ _ _ us hl => match us, hl with | [_, _], _ => rfl
theorem sc_law_row : FnScope n_law_row a_law_row (defScope s_law_row) := ⟨rfl, rfl, rfl, by decide +kernel, rfl, by decide +kernel, by decide +kernel⟩
theorem bd_law_row : BindL "_law_row" s_law_row a_law_row := fun _ _ _ _ _ _ us hl => match us, hl with | [_, _, _, _], _ => rfl
theorem sc_law_setting : FnScope n_law_setting a_law_setting (defScope s_law_setting) := ⟨rfl, rfl, rfl, by decide +kernel, rfl, by decide +kernel, by decide +kernel⟩
theorem bd_law_setting : BindL "_law_setting" s_law_setting a_law_setting := fun _ _ _ _ _ _ us hl => match us, hl with | [_, _], _ => rfl
theorem sc_law_depth_wish : FnScope n_law_depth_wish a_law_depth_wish (defScope s_law_depth_wish) := ⟨rfl, rfl, rfl, by decide +kernel, rfl, by decide +kernel, by decide +kernel⟩
theorem bd_law_depth_wish : BindL "_law_depth_wish" s_law_depth_wish a_law_depth_wish := fun _ _ _ _ _ _ us hl => match us, hl with | [_, _, _], _ => rfl
theorem sc_law_tracked : FnScope n_law_tracked a_law_tracked (defScope s_law_tracked) := ⟨rfl, rfl, rfl, by decide +kernel, rfl, by decide +kernel, by decide +kernel⟩
theorem bd_law_tracked : BindL "_law_tracked" s_law_tracked a_law_tracked := fun _ _ _ _ _ _ us hl => match us, hl with | [_, _, _], _ => rfl
theorem sc_law : FnScope n_law a_law (defScope s_law) := ⟨rfl, rfl, rfl, by decide +kernel, rfl, by decide +kernel, by decide +kernel⟩
theorem bd_law : BindL "law" s_law a_law := fun _ _ _ _ _ _ us hl => match us, hl with | [_], _ => rfl
variable {W : Wl}
theorem kp_combined (B : Bse W) : Kept W false ⟨"combined", 1, spCombined⟩ :=
  kept_by (B.fs 0 _ rfl) bd_combined (tr_combined) (n := n_combined.length) rfl (dk (k := 0) B sc_combined rfl rfl rfl rfl rfl (fun h => nomatch h) (.inl rfl) (fun h => nomatch h) all_nil) (fun ds P X h => by obtain ⟨_, _, _, rfl, _⟩ := h; rfl) vc_combined
theorem kp_value_of_0 (B : Bse W) : Kept W false ⟨"value_of", 2, spValue 0⟩ :=
  kept_by (B.fs 1 _ rfl) bd_value_of (tr_value_of 1 0 spCombined never) (n := n_value_of.length) rfl (dk (k := 1) B sc_value_of rfl rfl rfl rfl rfl (fun h => nomatch h) (.inl rfl) (fun h => nomatch h) (all_cons (kp_combined B) (by decide) (all_cons (kept_never (k := 0) (B.fs 1 _ rfl) bd_value_of) (by decide) all_nil))) (fun ds P X h => by obtain ⟨_, _, _, rfl, _⟩ := h; rfl) (vc_value (d := 0) (by decide))
theorem kp_value_of_1 (B : Bse W) : Kept W false ⟨"value_of", 3, spValue 1⟩ :=
  kept_by (B.fs 1 _ rfl) bd_value_of (tr_value_of 1 2 spCombined (spValue 0)) (n := n_value_of.length) rfl (dk (k := 2) B sc_value_of rfl rfl rfl rfl rfl (fun h => nomatch h) (.inl rfl) (fun h => nomatch h) (all_cons (kp_combined B) (by decide) (all_cons (kp_value_of_0 B) (by decide) all_nil))) (fun ds P X h => by obtain ⟨_, _, _, rfl, _⟩ := h; rfl) (vc_value (d := 1) (by decide))
theorem kp_value_of_2 (B : Bse W) : Kept W false ⟨"value_of", 4, spValue 2⟩ :=
  kept_by (B.fs 1 _ rfl) bd_value_of (tr_value_of 1 3 spCombined (spValue 1)) (n := n_value_of.length) rfl (dk (k := 3) B sc_value_of rfl rfl rfl rfl rfl (fun h => nomatch h) (.inl rfl) (fun h => nomatch h) (all_cons (kp_combined B) (by decide) (all_cons (kp_value_of_1 B) (by decide) all_nil))) (fun ds P X h => by obtain ⟨_, _, _, rfl, _⟩ := h; rfl) (vc_value (d := 2) (by decide))
theorem kp_value_of_3 (B : Bse W) : Kept W false ⟨"value_of", 5, spValue 3⟩ :=
  kept_by (B.fs 1 _ rfl) bd_value_of (tr_value_of 1 4 spCombined (spValue 2)) (n := n_value_of.length) rfl (dk (k := 4) B sc_value_of rfl rfl rfl rfl rfl (fun h => nomatch h) (.inl rfl) (fun h => nomatch h) (all_cons (kp_combined B) (by decide) (all_cons (kp_value_of_2 B) (by decide) all_nil))) (fun ds P X h => by obtain ⟨_, _, _, rfl, _⟩ := h; rfl) (vc_value (d := 3) (by decide))
theorem kp_is_true_0 (B : Bse W) : Kept W false ⟨"is_true", 6, spTrue 0⟩ :=
  kept_by (B.fs 2 _ rfl) bd_is_true (tr_is_true 5 0 (spValue 3) never) (n := n_is_true.length) rfl (dk (k := 5) B sc_is_true rfl rfl rfl rfl rfl (fun h => nomatch h) (.inl rfl) (fun h => nomatch h) (all_cons (kp_value_of_3 B) (by decide) (all_cons (kept_never (k := 0) (B.fs 2 _ rfl) bd_is_true) (by decide) all_nil))) (fun ds P X h => by obtain ⟨_, _, _, rfl, _⟩ := h; rfl) (vc_true (d := 0))
theorem kp_is_true_1 (B : Bse W) : Kept W false ⟨"is_true", 7, spTrue 1⟩ :=
  kept_by (B.fs 2 _ rfl) bd_is_true (tr_is_true 5 6 (spValue 3) (spTrue 0)) (n := n_is_true.length) rfl (dk (k := 6) B sc_is_true rfl rfl rfl rfl rfl (fun h => nomatch h) (.inl rfl) (fun h => nomatch h) (all_cons (kp_value_of_3 B) (by decide) (all_cons (kp_is_true_0 B) (by decide) all_nil))) (fun ds P X h => by obtain ⟨_, _, _, rfl, _⟩ := h; rfl) (vc_true (d := 1))
theorem kp_is_true_2 (B : Bse W) : Kept W false ⟨"is_true", 8, spTrue 2⟩ :=
  kept_by (B.fs 2 _ rfl) bd_is_true (tr_is_true 5 7 (spValue 3) (spTrue 1)) (n := n_is_true.length) rfl (dk (k := 7) B sc_is_true rfl rfl rfl rfl rfl (fun h => nomatch h) (.inl rfl) (fun h => nomatch h) (all_cons (kp_value_of_3 B) (by decide) (all_cons (kp_is_true_1 B) (by decide) all_nil))) (fun ds P X h => by obtain ⟨_, _, _, rfl, _⟩ := h; rfl) (vc_true (d := 2))
theorem kp_is_true_3 (B : Bse W) : Kept W false ⟨"is_true", 9, spTrue 3⟩ :=
  kept_by (B.fs 2 _ rfl) bd_is_true (tr_is_true 5 8 (spValue 3) (spTrue 2)) (n := n_is_true.length) rfl (dk (k := 8) B sc_is_true rfl rfl rfl rfl rfl (fun h => nomatch h) (.inl rfl) (fun h => nomatch h) (all_cons (kp_value_of_3 B) (by decide) (all_cons (kp_is_true_2 B) (by decide) all_nil))) (fun ds P X h => by obtain ⟨_, _, _, rfl, _⟩ := h; rfl) (vc_true (d := 3))
theorem kp_can_show (B : Bse W) : Kept W false ⟨"can_show", 6, spShow⟩ :=
  kept_by (B.fs 3 _ rfl) bd_can_show (tr_can_show 5 (spValue 3)) (n := n_can_show.length) rfl (dk (k := 5) B sc_can_show rfl rfl rfl rfl rfl (fun h => nomatch h) (.inl rfl) (fun h => nomatch h) (all_cons (kp_value_of_3 B) (by decide) all_nil)) (fun ds P X h => by obtain ⟨_, _, _, _, _, _, rfl, _⟩ := h; rfl) vc_show
theorem kp_options_of (B : Bse W) : Kept W false ⟨"options_of", 6, spOpts⟩ :=
  kept_by (B.fs 4 _ rfl) bd_options_of (tr_options_of 5 (spValue 3)) (n := n_options_of.length) rfl (dk (k := 5) B sc_options_of rfl rfl rfl rfl rfl (fun h => nomatch h) (.inl rfl) (fun h => nomatch h) (all_cons (kp_value_of_3 B) (by decide) all_nil)) (fun ds P X h => by obtain ⟨_, _, _, rfl, _⟩ := h; rfl) vc_opts
theorem kp_count_readings (B : Bse W) : Kept W false ⟨"count_readings", 1, spCount⟩ :=
  kept_by (B.fs 5 _ rfl) bd_count_readings (tr_count_readings) (n := n_count_readings.length) rfl (dk (k := 0) B sc_count_readings rfl rfl rfl rfl rfl (fun h => nomatch h) (.inl rfl) (fun h => nomatch h) all_nil) (fun ds P X h => by obtain ⟨_, _, _, _, _, _, rfl, _⟩ := h; rfl) vc_count
theorem kp_readings_at (B : Bse W) : Kept W false ⟨"readings_at", 7, spRead⟩ :=
  kept_by (B.fs 6 _ rfl) bd_readings_at (tr_readings_at 6 spOpts) (n := n_readings_at.length) rfl (dk (k := 6) B sc_readings_at rfl rfl rfl rfl rfl (fun h => nomatch h) (.inl rfl) (fun h => nomatch h) (all_cons (kp_options_of B) (by decide) all_nil)) (fun ds P X h => by obtain ⟨_, _, _, _, _, rfl, _⟩ := h; rfl) vc_read
theorem kp_possible_readings (B : Bse W) : Kept W false ⟨"possible_readings", 8, spPoss⟩ :=
  kept_by (B.fs 7 _ rfl) bd_possible_readings (tr_possible_readings 1 7 spCount spRead) (n := n_possible_readings.length) rfl (dk (k := 7) B sc_possible_readings rfl rfl rfl rfl rfl (fun h => nomatch h) (.inr ⟨rfl, by decide +kernel, by decide⟩) (fun h => nomatch h) (all_cons (kp_count_readings B) (by decide) (all_cons (kp_readings_at B) (by decide) all_nil))) (fun ds P X h => by obtain ⟨_, _, _, _, _, _, _, rfl, _⟩ := h; rfl) vc_poss
theorem kp_set_after (B : Bse W) : Kept W false ⟨"set_after", 7, spSet⟩ :=
  kept_by (B.fs 8 _ rfl) bd_set_after (tr_set_after 6 spShow) (n := n_set_after.length) rfl (dk (k := 6) B sc_set_after rfl rfl rfl rfl rfl (fun h => nomatch h) (.inl rfl) (fun h => nomatch h) (all_cons (kp_can_show B) (by decide) all_nil)) (fun ds P X h => by obtain ⟨_, _, _, _, _, _, _, rfl, _⟩ := h; rfl) vc_set
theorem kp_verdict_of (B : Bse W) : Kept W false ⟨"verdict_of", 1, spVerdict⟩ :=
  kept_by (B.fs 9 _ rfl) bd_verdict_of (tr_verdict_of) (n := n_verdict_of.length) rfl (dk (k := 0) B sc_verdict_of rfl rfl rfl rfl rfl (fun h => nomatch h) (.inl rfl) (fun h => nomatch h) all_nil) (fun ds P X h => by obtain ⟨_, _, _, rfl, _⟩ := h; rfl) vc_verdict
theorem kp_judge (B : Bse W) : Kept W false ⟨"judge", 8, spJudge⟩ :=
  kept_by (B.fs 10 _ rfl) bd_judge (tr_judge 7 1 spSet spVerdict) (n := n_judge.length) rfl (dk (k := 7) B sc_judge rfl rfl rfl rfl rfl (fun h => nomatch h) (.inl rfl) (fun h => nomatch h) (all_cons (kp_set_after B) (by decide) (all_cons (kp_verdict_of B) (by decide) all_nil))) (fun ds P X h => by obtain ⟨_, _, _, _, _, _, rfl, _⟩ := h; rfl) vc_judge
theorem kp_reached_nodes (B : Bse W) : Kept W false ⟨"reached_nodes", 1, spReach⟩ :=
  kept_by (B.fs 11 _ rfl) bd_reached_nodes (tr_reached_nodes) (n := n_reached_nodes.length) rfl (dk (k := 0) B sc_reached_nodes rfl rfl rfl rfl rfl (fun h => nomatch h) (.inl rfl) (fun h => nomatch h) all_nil) (fun ds P X h => by obtain ⟨_, rfl, _⟩ := h; rfl) vc_reach
theorem kp_grouped (B : Bse W) : Kept W false ⟨"grouped", 1, spGroup⟩ :=
  kept_by (B.fs 12 _ rfl) bd_grouped (tr_grouped) (n := n_grouped.length) rfl (dk (k := 0) B sc_grouped rfl rfl rfl rfl rfl (fun h => nomatch h) (.inl rfl) (fun h => nomatch h) all_nil) (fun ds P X h => by obtain ⟨_, _, _, rfl, _⟩ := h; rfl) vc_group
theorem kp_classes_of (B : Bse W) : Kept W false ⟨"classes_of", 2, spClasses⟩ :=
  kept_by (B.fs 13 _ rfl) bd_classes_of (tr_classes_of 1 spGroup) (n := n_classes_of.length) rfl (dk (k := 1) B sc_classes_of rfl rfl rfl rfl rfl (fun h => nomatch h) (.inl rfl) (fun h => nomatch h) (all_cons (kp_grouped B) (by decide) all_nil)) (fun ds P X h => by obtain ⟨_, _, rfl, _⟩ := h; rfl) vc_classes
theorem kp_reduce (B : Bse W) : Kept W false ⟨"reduce", 3, spReduce⟩ :=
  kept_by (B.fs 14 _ rfl) bd_reduce (tr_reduce 1 2 spReach spClasses) (n := n_reduce.length) rfl (dk (k := 2) B sc_reduce rfl rfl rfl rfl rfl (fun h => nomatch h) (.inl rfl) (fun h => nomatch h) (all_cons (kp_reached_nodes B) (by decide) (all_cons (kp_classes_of B) (by decide) all_nil))) (fun ds P X h => by obtain ⟨_, rfl, _⟩ := h; rfl) vc_reduce
theorem kp_build (B : Bse W) : Kept W false ⟨"build", 8, spBuild⟩ :=
  kept_by (B.fs 15 _ rfl) bd_build (tr_build 7 1 3 spSet spVerdict spReduce) (n := n_build.length) rfl (dk (k := 7) B sc_build rfl rfl rfl rfl rfl (fun h => nomatch h) (.inr ⟨rfl, by decide +kernel, by decide⟩) (fun h => nomatch h) (all_cons (kp_set_after B) (by decide) (all_cons (kp_verdict_of B) (by decide) (all_cons (kp_reduce B) (by decide) all_nil)))) (fun ds P X h => by obtain ⟨_, _, _, _, _, _, _, rfl, _⟩ := h; rfl) vc_build
theorem kp_says (B : Bse W) : Kept W false ⟨"says", 1, spSays⟩ :=
  kept_by (B.fs 16 _ rfl) bd_says (tr_says) (n := n_says.length) rfl (dk (k := 0) B sc_says rfl rfl rfl rfl rfl (fun h => nomatch h) (.inl rfl) (fun h => nomatch h) all_nil) (fun ds P X h => by obtain ⟨_, _, rfl, _⟩ := h; rfl) vc_says
theorem kp_joined (B : Bse W) : Kept W false ⟨"joined", 1, spJoined⟩ :=
  kept_by (B.fs 17 _ rfl) bd_joined (tr_joined) (n := n_joined.length) rfl (dk (k := 0) B sc_joined rfl rfl rfl rfl rfl (fun h => nomatch h) (.inl rfl) (fun h => nomatch h) all_nil) (fun ds P X h => by obtain ⟨_, _, _, rfl, _⟩ := h; rfl) vc_joined
theorem kp_some_next (B : Bse W) : Kept W false ⟨"some_next", 1, spStep⟩ :=
  kept_by (B.fs 18 _ rfl) bd_some_next (tr_some_next) (n := n_some_next.length) rfl (dk (k := 0) B sc_some_next rfl rfl rfl rfl rfl (fun h => nomatch h) (.inl rfl) (fun h => nomatch h) all_nil) (fun ds P X h => by obtain ⟨_, _, _, _, rfl, _⟩ := h; rfl) vc_some
theorem kp_each_next (B : Bse W) : Kept W false ⟨"each_next", 1, spStep⟩ :=
  kept_by (B.fs 19 _ rfl) bd_each_next (tr_each_next) (n := n_each_next.length) rfl (dk (k := 0) B sc_each_next rfl rfl rfl rfl rfl (fun h => nomatch h) (.inl rfl) (fun h => nomatch h) all_nil) (fun ds P X h => by obtain ⟨_, _, _, _, rfl, _⟩ := h; rfl) vc_each
theorem kp_grown (B : Bse W) : Kept W false ⟨"grown", 2, spGrown⟩ :=
  kept_by (B.fs 20 _ rfl) bd_grown (tr_grown 1 1 spStep spStep) (n := n_grown.length) rfl (dk (k := 1) B sc_grown rfl rfl rfl rfl rfl (fun h => nomatch h) (.inl rfl) (fun h => nomatch h) (all_cons (kp_some_next B) (by decide) (all_cons (kp_each_next B) (by decide) all_nil))) (fun ds P X h => by obtain ⟨_, _, _, _, _, rfl, _⟩ := h; rfl) vc_grown
theorem kp_label_0 (B : Bse W) : Kept W false ⟨"label", 10, spLabel 0⟩ :=
  kept_by (B.fs 21 _ rfl) bd_label (tr_label 9 1 1 2 0 (spTrue 3) spJoined spStep spGrown never) (n := n_label.length) rfl (dk (k := 9) B sc_label rfl rfl rfl rfl rfl (fun h => nomatch h) (.inl rfl) (fun h => nomatch h) (all_cons (kp_is_true_3 B) (by decide) (all_cons (kp_joined B) (by decide) (all_cons (kp_some_next B) (by decide) (all_cons (kp_grown B) (by decide) (all_cons (kept_never (k := 0) (B.fs 21 _ rfl) bd_label) (by decide) all_nil)))))) (fun ds P X h => by obtain ⟨_, _, _, rfl, _⟩ := h; rfl) (vc_label (d := 0))
theorem kp_label_1 (B : Bse W) : Kept W false ⟨"label", 11, spLabel 1⟩ :=
  kept_by (B.fs 21 _ rfl) bd_label (tr_label 9 1 1 2 10 (spTrue 3) spJoined spStep spGrown (spLabel 0)) (n := n_label.length) rfl (dk (k := 10) B sc_label rfl rfl rfl rfl rfl (fun h => nomatch h) (.inl rfl) (fun h => nomatch h) (all_cons (kp_is_true_3 B) (by decide) (all_cons (kp_joined B) (by decide) (all_cons (kp_some_next B) (by decide) (all_cons (kp_grown B) (by decide) (all_cons (kp_label_0 B) (by decide) all_nil)))))) (fun ds P X h => by obtain ⟨_, _, _, rfl, _⟩ := h; rfl) (vc_label (d := 1))
theorem kp_label_2 (B : Bse W) : Kept W false ⟨"label", 12, spLabel 2⟩ :=
  kept_by (B.fs 21 _ rfl) bd_label (tr_label 9 1 1 2 11 (spTrue 3) spJoined spStep spGrown (spLabel 1)) (n := n_label.length) rfl (dk (k := 11) B sc_label rfl rfl rfl rfl rfl (fun h => nomatch h) (.inl rfl) (fun h => nomatch h) (all_cons (kp_is_true_3 B) (by decide) (all_cons (kp_joined B) (by decide) (all_cons (kp_some_next B) (by decide) (all_cons (kp_grown B) (by decide) (all_cons (kp_label_1 B) (by decide) all_nil)))))) (fun ds P X h => by obtain ⟨_, _, _, rfl, _⟩ := h; rfl) (vc_label (d := 2))
theorem kp_label_3 (B : Bse W) : Kept W false ⟨"label", 13, spLabel 3⟩ :=
  kept_by (B.fs 21 _ rfl) bd_label (tr_label 9 1 1 2 12 (spTrue 3) spJoined spStep spGrown (spLabel 2)) (n := n_label.length) rfl (dk (k := 12) B sc_label rfl rfl rfl rfl rfl (fun h => nomatch h) (.inl rfl) (fun h => nomatch h) (all_cons (kp_is_true_3 B) (by decide) (all_cons (kp_joined B) (by decide) (all_cons (kp_some_next B) (by decide) (all_cons (kp_grown B) (by decide) (all_cons (kp_label_2 B) (by decide) all_nil)))))) (fun ds P X h => by obtain ⟨_, _, _, rfl, _⟩ := h; rfl) (vc_label (d := 3))
theorem kp_facts_in_0 (B : Bse W) : Kept W false ⟨"facts_in", 1, spFacts 0⟩ :=
  kept_by (B.fs 22 _ rfl) bd_facts_in (tr_facts_in 0 never) (n := n_facts_in.length) rfl (dk (k := 0) B sc_facts_in rfl rfl rfl rfl rfl (fun h => nomatch h) (.inl rfl) (fun h => nomatch h) (all_cons (kept_never (k := 0) (B.fs 22 _ rfl) bd_facts_in) (by decide) all_nil)) (fun ds P X h => by obtain ⟨_, _, rfl, _⟩ := h; rfl) (vc_facts (d := 0) (by decide))
theorem kp_facts_in_1 (B : Bse W) : Kept W false ⟨"facts_in", 2, spFacts 1⟩ :=
  kept_by (B.fs 22 _ rfl) bd_facts_in (tr_facts_in 1 (spFacts 0)) (n := n_facts_in.length) rfl (dk (k := 1) B sc_facts_in rfl rfl rfl rfl rfl (fun h => nomatch h) (.inl rfl) (fun h => nomatch h) (all_cons (kp_facts_in_0 B) (by decide) all_nil)) (fun ds P X h => by obtain ⟨_, _, rfl, _⟩ := h; rfl) (vc_facts (d := 1) (by decide))
theorem kp_facts_in_2 (B : Bse W) : Kept W false ⟨"facts_in", 3, spFacts 2⟩ :=
  kept_by (B.fs 22 _ rfl) bd_facts_in (tr_facts_in 2 (spFacts 1)) (n := n_facts_in.length) rfl (dk (k := 2) B sc_facts_in rfl rfl rfl rfl rfl (fun h => nomatch h) (.inl rfl) (fun h => nomatch h) (all_cons (kp_facts_in_1 B) (by decide) all_nil)) (fun ds P X h => by obtain ⟨_, _, rfl, _⟩ := h; rfl) (vc_facts (d := 2) (by decide))
theorem kp_facts_in_3 (B : Bse W) : Kept W false ⟨"facts_in", 4, spFacts 3⟩ :=
  kept_by (B.fs 22 _ rfl) bd_facts_in (tr_facts_in 3 (spFacts 2)) (n := n_facts_in.length) rfl (dk (k := 3) B sc_facts_in rfl rfl rfl rfl rfl (fun h => nomatch h) (.inl rfl) (fun h => nomatch h) (all_cons (kp_facts_in_2 B) (by decide) all_nil)) (fun ds P X h => by obtain ⟨_, _, rfl, _⟩ := h; rfl) (vc_facts (d := 3) (by decide))
theorem kp_size_of_0 (B : Bse W) : Kept W false ⟨"size_of", 1, spSize 0⟩ :=
  kept_by (B.fs 23 _ rfl) bd_size_of (tr_size_of 0 never) (n := n_size_of.length) rfl (dk (k := 0) B sc_size_of rfl rfl rfl rfl rfl (fun h => nomatch h) (.inl rfl) (fun h => nomatch h) (all_cons (kept_never (k := 0) (B.fs 23 _ rfl) bd_size_of) (by decide) all_nil)) (fun ds P X h => by obtain ⟨_, _, rfl, _⟩ := h; rfl) (vc_size (d := 0))
theorem kp_size_of_1 (B : Bse W) : Kept W false ⟨"size_of", 2, spSize 1⟩ :=
  kept_by (B.fs 23 _ rfl) bd_size_of (tr_size_of 1 (spSize 0)) (n := n_size_of.length) rfl (dk (k := 1) B sc_size_of rfl rfl rfl rfl rfl (fun h => nomatch h) (.inl rfl) (fun h => nomatch h) (all_cons (kp_size_of_0 B) (by decide) all_nil)) (fun ds P X h => by obtain ⟨_, _, rfl, _⟩ := h; rfl) (vc_size (d := 1))
theorem kp_size_of_2 (B : Bse W) : Kept W false ⟨"size_of", 3, spSize 2⟩ :=
  kept_by (B.fs 23 _ rfl) bd_size_of (tr_size_of 2 (spSize 1)) (n := n_size_of.length) rfl (dk (k := 2) B sc_size_of rfl rfl rfl rfl rfl (fun h => nomatch h) (.inl rfl) (fun h => nomatch h) (all_cons (kp_size_of_1 B) (by decide) all_nil)) (fun ds P X h => by obtain ⟨_, _, rfl, _⟩ := h; rfl) (vc_size (d := 2))
theorem kp_size_of_3 (B : Bse W) : Kept W false ⟨"size_of", 4, spSize 3⟩ :=
  kept_by (B.fs 23 _ rfl) bd_size_of (tr_size_of 3 (spSize 2)) (n := n_size_of.length) rfl (dk (k := 3) B sc_size_of rfl rfl rfl rfl rfl (fun h => nomatch h) (.inl rfl) (fun h => nomatch h) (all_cons (kp_size_of_2 B) (by decide) all_nil)) (fun ds P X h => by obtain ⟨_, _, rfl, _⟩ := h; rfl) (vc_size (d := 3))
theorem kp_meets_0 (B : Bse W) : Kept W false ⟨"meets", 1, spMeets 0⟩ :=
  kept_by (B.fs 24 _ rfl) bd_meets (tr_meets 0 0 never never) (n := n_meets.length) rfl (dk (k := 0) B sc_meets rfl rfl rfl rfl rfl (fun h => nomatch h) (.inl rfl) (fun h => nomatch h) (all_cons (kept_never (k := 0) (B.fs 23 _ rfl) bd_size_of) (by decide) (all_cons (kept_never (k := 0) (B.fs 24 _ rfl) bd_meets) (by decide) all_nil))) (fun ds P X h => by obtain ⟨_, _, _, rfl, _⟩ := h; rfl) (vc_meets (d := 0))
theorem kp_meets_1 (B : Bse W) : Kept W false ⟨"meets", 2, spMeets 1⟩ :=
  kept_by (B.fs 24 _ rfl) bd_meets (tr_meets 1 1 (spSize 0) (spMeets 0)) (n := n_meets.length) rfl (dk (k := 1) B sc_meets rfl rfl rfl rfl rfl (fun h => nomatch h) (.inl rfl) (fun h => nomatch h) (all_cons (kp_size_of_0 B) (by decide) (all_cons (kp_meets_0 B) (by decide) all_nil))) (fun ds P X h => by obtain ⟨_, _, _, rfl, _⟩ := h; rfl) (vc_meets (d := 1))
theorem kp_meets_2 (B : Bse W) : Kept W false ⟨"meets", 3, spMeets 2⟩ :=
  kept_by (B.fs 24 _ rfl) bd_meets (tr_meets 2 2 (spSize 1) (spMeets 1)) (n := n_meets.length) rfl (dk (k := 2) B sc_meets rfl rfl rfl rfl rfl (fun h => nomatch h) (.inl rfl) (fun h => nomatch h) (all_cons (kp_size_of_1 B) (by decide) (all_cons (kp_meets_1 B) (by decide) all_nil))) (fun ds P X h => by obtain ⟨_, _, _, rfl, _⟩ := h; rfl) (vc_meets (d := 2))
theorem kp_meets_3 (B : Bse W) : Kept W false ⟨"meets", 4, spMeets 3⟩ :=
  kept_by (B.fs 24 _ rfl) bd_meets (tr_meets 3 3 (spSize 2) (spMeets 2)) (n := n_meets.length) rfl (dk (k := 3) B sc_meets rfl rfl rfl rfl rfl (fun h => nomatch h) (.inl rfl) (fun h => nomatch h) (all_cons (kp_size_of_2 B) (by decide) (all_cons (kp_meets_2 B) (by decide) all_nil))) (fun ds P X h => by obtain ⟨_, _, _, rfl, _⟩ := h; rfl) (vc_meets (d := 3))
theorem kp_first_memory_0 (B : Bse W) : Kept W false ⟨"first_memory", 1, spFirst 0⟩ :=
  kept_by (B.fs 25 _ rfl) bd_first_memory (tr_first_memory 0 0 0 never never never) (n := n_first_memory.length) rfl (dk (k := 0) B sc_first_memory rfl rfl rfl rfl rfl (fun h => nomatch h) (.inl rfl) (fun h => nomatch h) (all_cons (kept_never (k := 0) (B.fs 22 _ rfl) bd_facts_in) (by decide) (all_cons (kept_never (k := 0) (B.fs 24 _ rfl) bd_meets) (by decide) (all_cons (kept_never (k := 0) (B.fs 25 _ rfl) bd_first_memory) (by decide) all_nil)))) (fun ds P X h => by obtain ⟨_, _, _, rfl, _⟩ := h; rfl) (vc_first (d := 0) (by decide))
theorem kp_first_memory_1 (B : Bse W) : Kept W false ⟨"first_memory", 2, spFirst 1⟩ :=
  kept_by (B.fs 25 _ rfl) bd_first_memory (tr_first_memory 1 1 1 (spFacts 0) (spMeets 0) (spFirst 0)) (n := n_first_memory.length) rfl (dk (k := 1) B sc_first_memory rfl rfl rfl rfl rfl (fun h => nomatch h) (.inl rfl) (fun h => nomatch h) (all_cons (kp_facts_in_0 B) (by decide) (all_cons (kp_meets_0 B) (by decide) (all_cons (kp_first_memory_0 B) (by decide) all_nil)))) (fun ds P X h => by obtain ⟨_, _, _, rfl, _⟩ := h; rfl) (vc_first (d := 1) (by decide))
theorem kp_first_memory_2 (B : Bse W) : Kept W false ⟨"first_memory", 3, spFirst 2⟩ :=
  kept_by (B.fs 25 _ rfl) bd_first_memory (tr_first_memory 2 2 2 (spFacts 1) (spMeets 1) (spFirst 1)) (n := n_first_memory.length) rfl (dk (k := 2) B sc_first_memory rfl rfl rfl rfl rfl (fun h => nomatch h) (.inl rfl) (fun h => nomatch h) (all_cons (kp_facts_in_1 B) (by decide) (all_cons (kp_meets_1 B) (by decide) (all_cons (kp_first_memory_1 B) (by decide) all_nil)))) (fun ds P X h => by obtain ⟨_, _, _, rfl, _⟩ := h; rfl) (vc_first (d := 2) (by decide))
theorem kp_first_memory_3 (B : Bse W) : Kept W false ⟨"first_memory", 4, spFirst 3⟩ :=
  kept_by (B.fs 25 _ rfl) bd_first_memory (tr_first_memory 3 3 3 (spFacts 2) (spMeets 2) (spFirst 2)) (n := n_first_memory.length) rfl (dk (k := 3) B sc_first_memory rfl rfl rfl rfl rfl (fun h => nomatch h) (.inl rfl) (fun h => nomatch h) (all_cons (kp_facts_in_2 B) (by decide) (all_cons (kp_meets_2 B) (by decide) (all_cons (kp_first_memory_2 B) (by decide) all_nil)))) (fun ds P X h => by obtain ⟨_, _, _, rfl, _⟩ := h; rfl) (vc_first (d := 3) (by decide))
theorem kp_next_pair_0 (B : Bse W) : Kept W false ⟨"next_pair", 1, spPair 0⟩ :=
  kept_by (B.fs 27 _ rfl) bd_next_pair (tr_next_pair 0 0 0 0 never never never never) (n := n_next_pair.length) rfl (dk (k := 0) B sc_next_pair rfl rfl rfl rfl rfl (fun h => nomatch h) (.inl rfl) (fun h => nomatch h) (all_cons (kept_never (k := 0) (B.fs 22 _ rfl) bd_facts_in) (by decide) (all_cons (kept_never (k := 0) (B.fs 23 _ rfl) bd_size_of) (by decide) (all_cons (kept_never (k := 0) (B.fs 24 _ rfl) bd_meets) (by decide) (all_cons (kept_never (k := 0) (B.fs 26 _ rfl) bd_next_memory) (by decide) all_nil))))) (fun ds P X h => by obtain ⟨_, _, _, _, rfl, _⟩ := h; rfl) (vc_pair (d := 0) (by decide))
theorem kp_next_memory_0 (B : Bse W) : Kept W false ⟨"next_memory", 2, spNext 0⟩ :=
  kept_by (B.fs 26 _ rfl) bd_next_memory (tr_next_memory 0 0 1 never never (spPair 0)) (n := n_next_memory.length) rfl (dk (k := 1) B sc_next_memory rfl rfl rfl rfl rfl (fun h => nomatch h) (.inl rfl) (fun h => nomatch h) (all_cons (kept_never (k := 0) (B.fs 24 _ rfl) bd_meets) (by decide) (all_cons (kept_never (k := 0) (B.fs 26 _ rfl) bd_next_memory) (by decide) (all_cons (kp_next_pair_0 B) (by decide) all_nil)))) (fun ds P X h => by obtain ⟨_, _, _, _, rfl, _⟩ := h; rfl) (vc_next (d := 0) (by decide))
theorem kp_next_pair_1 (B : Bse W) : Kept W false ⟨"next_pair", 3, spPair 1⟩ :=
  kept_by (B.fs 27 _ rfl) bd_next_pair (tr_next_pair 1 1 1 2 (spFacts 0) (spSize 0) (spMeets 0) (spNext 0)) (n := n_next_pair.length) rfl (dk (k := 2) B sc_next_pair rfl rfl rfl rfl rfl (fun h => nomatch h) (.inl rfl) (fun h => nomatch h) (all_cons (kp_facts_in_0 B) (by decide) (all_cons (kp_size_of_0 B) (by decide) (all_cons (kp_meets_0 B) (by decide) (all_cons (kp_next_memory_0 B) (by decide) all_nil))))) (fun ds P X h => by obtain ⟨_, _, _, _, rfl, _⟩ := h; rfl) (vc_pair (d := 1) (by decide))
theorem kp_next_memory_1 (B : Bse W) : Kept W false ⟨"next_memory", 4, spNext 1⟩ :=
  kept_by (B.fs 26 _ rfl) bd_next_memory (tr_next_memory 1 2 3 (spMeets 0) (spNext 0) (spPair 1)) (n := n_next_memory.length) rfl (dk (k := 3) B sc_next_memory rfl rfl rfl rfl rfl (fun h => nomatch h) (.inl rfl) (fun h => nomatch h) (all_cons (kp_meets_0 B) (by decide) (all_cons (kp_next_memory_0 B) (by decide) (all_cons (kp_next_pair_1 B) (by decide) all_nil)))) (fun ds P X h => by obtain ⟨_, _, _, _, rfl, _⟩ := h; rfl) (vc_next (d := 1) (by decide))
theorem kp_next_pair_2 (B : Bse W) : Kept W false ⟨"next_pair", 5, spPair 2⟩ :=
  kept_by (B.fs 27 _ rfl) bd_next_pair (tr_next_pair 2 2 2 4 (spFacts 1) (spSize 1) (spMeets 1) (spNext 1)) (n := n_next_pair.length) rfl (dk (k := 4) B sc_next_pair rfl rfl rfl rfl rfl (fun h => nomatch h) (.inl rfl) (fun h => nomatch h) (all_cons (kp_facts_in_1 B) (by decide) (all_cons (kp_size_of_1 B) (by decide) (all_cons (kp_meets_1 B) (by decide) (all_cons (kp_next_memory_1 B) (by decide) all_nil))))) (fun ds P X h => by obtain ⟨_, _, _, _, rfl, _⟩ := h; rfl) (vc_pair (d := 2) (by decide))
theorem kp_next_memory_2 (B : Bse W) : Kept W false ⟨"next_memory", 6, spNext 2⟩ :=
  kept_by (B.fs 26 _ rfl) bd_next_memory (tr_next_memory 2 4 5 (spMeets 1) (spNext 1) (spPair 2)) (n := n_next_memory.length) rfl (dk (k := 5) B sc_next_memory rfl rfl rfl rfl rfl (fun h => nomatch h) (.inl rfl) (fun h => nomatch h) (all_cons (kp_meets_1 B) (by decide) (all_cons (kp_next_memory_1 B) (by decide) (all_cons (kp_next_pair_2 B) (by decide) all_nil)))) (fun ds P X h => by obtain ⟨_, _, _, _, rfl, _⟩ := h; rfl) (vc_next (d := 2) (by decide))
theorem kp_next_pair_3 (B : Bse W) : Kept W false ⟨"next_pair", 7, spPair 3⟩ :=
  kept_by (B.fs 27 _ rfl) bd_next_pair (tr_next_pair 3 3 3 6 (spFacts 2) (spSize 2) (spMeets 2) (spNext 2)) (n := n_next_pair.length) rfl (dk (k := 6) B sc_next_pair rfl rfl rfl rfl rfl (fun h => nomatch h) (.inl rfl) (fun h => nomatch h) (all_cons (kp_facts_in_2 B) (by decide) (all_cons (kp_size_of_2 B) (by decide) (all_cons (kp_meets_2 B) (by decide) (all_cons (kp_next_memory_2 B) (by decide) all_nil))))) (fun ds P X h => by obtain ⟨_, _, _, _, rfl, _⟩ := h; rfl) (vc_pair (d := 3) (by decide))
theorem kp_next_memory_3 (B : Bse W) : Kept W false ⟨"next_memory", 8, spNext 3⟩ :=
  kept_by (B.fs 26 _ rfl) bd_next_memory (tr_next_memory 3 6 7 (spMeets 2) (spNext 2) (spPair 3)) (n := n_next_memory.length) rfl (dk (k := 7) B sc_next_memory rfl rfl rfl rfl rfl (fun h => nomatch h) (.inl rfl) (fun h => nomatch h) (all_cons (kp_meets_2 B) (by decide) (all_cons (kp_next_memory_2 B) (by decide) (all_cons (kp_next_pair_3 B) (by decide) all_nil)))) (fun ds P X h => by obtain ⟨_, _, _, _, rfl, _⟩ := h; rfl) (vc_next (d := 3) (by decide))
theorem kp_labels_of (B : Bse W) : Kept W false ⟨"labels_of", 14, spLabels 3⟩ :=
  kept_by (B.fs 28 _ rfl) bd_labels_of (tr_labels_of 13 4 (spLabel 3) (spFacts 3)) (n := n_labels_of.length) rfl (dk (k := 13) B sc_labels_of rfl rfl rfl rfl rfl (fun h => nomatch h) (.inl rfl) (fun h => nomatch h) (all_cons (kp_label_3 B) (by decide) (all_cons (kp_facts_in_3 B) (by decide) all_nil))) (fun ds P X h => by obtain ⟨_, _, _, rfl, _⟩ := h; rfl) vc_labelsC
theorem num_number_of (B : Bse W) {j : Nat} (hj : 1 ≤ j) : NumK W false j :=
  num_by (k := 0) (B.fs 29 _ rfl) bd_number_of tr_number_of rfl (dk B sc_number_of rfl rfl rfl rfl rfl (fun h => nomatch h) (.inl rfl) (fun h => nomatch h) all_nil) vc_number hj
theorem kp_track (B : Bse W) : Kept W false ⟨"track", 15, spTrack⟩ :=
  kept_by (B.fs 30 _ rfl) bd_track (tr_track 4 4 8 14 (spMeets 3) (spFirst 3) (spNext 3) (spLabels 3)) (n := n_track.length) rfl (dk (k := 14) B sc_track rfl rfl rfl rfl rfl (fun _ => num_number_of B (by decide)) (.inr ⟨rfl, by decide +kernel, by decide⟩) (fun h => nomatch h) (all_cons (kp_meets_3 B) (by decide) (all_cons (kp_first_memory_3 B) (by decide) (all_cons (kp_next_memory_3 B) (by decide) (all_cons (kp_labels_of B) (by decide) all_nil))))) (fun ds P X h => by obtain ⟨_, _, _, _, rfl, _⟩ := h; rfl) vc_trackC
theorem kpH_value_of (B : Bse W) : Kept W true ⟨"value_of", 1, spValue 0⟩ :=
  kept_by (B.fs 1 _ rfl) bd_value_of (trH_value_of 0 0 never never) (n := n_value_of.length) rfl (dk (k := 0) B sc_value_of rfl rfl rfl rfl rfl (fun h => nomatch h) (.inl rfl) (fun h => nomatch h) (all_cons (kept_never (k := 0) (B.fs 0 _ rfl) bd_combined) (by decide) (all_cons (kept_never (k := 0) (B.fs 1 _ rfl) bd_value_of) (by decide) all_nil))) (fun ds P X h => by obtain ⟨_, _, _, rfl, _⟩ := h; rfl) vcH_value
theorem kpH_is_true (B : Bse W) : Kept W true ⟨"is_true", 2, spTrueH⟩ :=
  kept_by (B.fs 2 _ rfl) bd_is_true (trH_is_true 1 0 (spValue 0) never) (n := n_is_true.length) rfl (dk (k := 1) B sc_is_true rfl rfl rfl rfl rfl (fun h => nomatch h) (.inl rfl) (fun h => nomatch h) (all_cons (kpH_value_of B) (by decide) (all_cons (kept_never (k := 0) (B.fs 2 _ rfl) bd_is_true) (by decide) all_nil))) (fun ds P X h => by obtain ⟨_, _, _, _, rfl, _⟩ := h; rfl) vcH_true
theorem kpH_label (B : Bse W) : Kept W true ⟨"label", 3, spLabelH⟩ :=
  kept_by (B.fs 21 _ rfl) bd_label (trH_label 2 0 0 0 0 spTrueH never never never never) (n := n_label.length) rfl (dk (k := 2) B sc_label rfl rfl rfl rfl rfl (fun h => nomatch h) (.inl rfl) (fun h => nomatch h) (all_cons (kpH_is_true B) (by decide) (all_cons (kept_never (k := 0) (B.fs 17 _ rfl) bd_joined) (by decide) (all_cons (kept_never (k := 0) (B.fs 18 _ rfl) bd_some_next) (by decide) (all_cons (kept_never (k := 0) (B.fs 20 _ rfl) bd_grown) (by decide) (all_cons (kept_never (k := 0) (B.fs 21 _ rfl) bd_label) (by decide) all_nil)))))) (fun ds P X h => by obtain ⟨_, _, _, _, rfl, _⟩ := h; rfl) vcH_label
theorem kpH_facts_in (B : Bse W) : Kept W true ⟨"facts_in", 1, spFacts 0⟩ :=
  kept_by (B.fs 22 _ rfl) bd_facts_in (trH_facts_in 0 never) (n := n_facts_in.length) rfl (dk (k := 0) B sc_facts_in rfl rfl rfl rfl rfl (fun h => nomatch h) (.inl rfl) (fun h => nomatch h) (all_cons (kept_never (k := 0) (B.fs 22 _ rfl) bd_facts_in) (by decide) all_nil)) (fun ds P X h => by obtain ⟨_, _, rfl, _⟩ := h; rfl) vcH_facts
theorem kpH_meets (B : Bse W) : Kept W true ⟨"meets", 1, spMeets 0⟩ :=
  kept_by (B.fs 24 _ rfl) bd_meets (trH_meets 0 0 never never) (n := n_meets.length) rfl (dk (k := 0) B sc_meets rfl rfl rfl rfl rfl (fun h => nomatch h) (.inl rfl) (fun h => nomatch h) (all_cons (kept_never (k := 0) (B.fs 23 _ rfl) bd_size_of) (by decide) (all_cons (kept_never (k := 0) (B.fs 24 _ rfl) bd_meets) (by decide) all_nil))) (fun ds P X h => by obtain ⟨_, _, _, rfl, _⟩ := h; rfl) vcH_meets
theorem kpH_first_memory (B : Bse W) : Kept W true ⟨"first_memory", 1, spFirst 0⟩ :=
  kept_by (B.fs 25 _ rfl) bd_first_memory (trH_first_memory 0 0 0 never never never) (n := n_first_memory.length) rfl (dk (k := 0) B sc_first_memory rfl rfl rfl rfl rfl (fun h => nomatch h) (.inl rfl) (fun h => nomatch h) (all_cons (kept_never (k := 0) (B.fs 22 _ rfl) bd_facts_in) (by decide) (all_cons (kept_never (k := 0) (B.fs 24 _ rfl) bd_meets) (by decide) (all_cons (kept_never (k := 0) (B.fs 25 _ rfl) bd_first_memory) (by decide) all_nil)))) (fun ds P X h => by obtain ⟨_, _, _, rfl, _⟩ := h; rfl) vcH_first
theorem kpH_next_memory (B : Bse W) : Kept W true ⟨"next_memory", 1, spNext 0⟩ :=
  kept_by (B.fs 26 _ rfl) bd_next_memory (trH_next_memory 0 0 0 never never never) (n := n_next_memory.length) rfl (dk (k := 0) B sc_next_memory rfl rfl rfl rfl rfl (fun h => nomatch h) (.inl rfl) (fun h => nomatch h) (all_cons (kept_never (k := 0) (B.fs 24 _ rfl) bd_meets) (by decide) (all_cons (kept_never (k := 0) (B.fs 26 _ rfl) bd_next_memory) (by decide) (all_cons (kept_never (k := 0) (B.fs 27 _ rfl) bd_next_pair) (by decide) all_nil)))) (fun ds P X h => by obtain ⟨_, _, _, _, rfl, _⟩ := h; rfl) vcH_next
theorem kpH_labels_of (B : Bse W) : Kept W true ⟨"labels_of", 4, spLabelsH⟩ :=
  kept_by (B.fs 28 _ rfl) bd_labels_of (trH_labels_of 3 1 spLabelH (spFacts 0)) (n := n_labels_of.length) rfl (dk (k := 3) B sc_labels_of rfl rfl rfl rfl rfl (fun h => nomatch h) (.inl rfl) (fun h => nomatch h) (all_cons (kpH_label B) (by decide) (all_cons (kpH_facts_in B) (by decide) all_nil))) (fun ds P X h => by obtain ⟨_, _, _, _, rfl, _⟩ := h; rfl) vcH_labels
theorem numH_number_of (B : Bse W) {j : Nat} (hj : 1 ≤ j) : NumK W true j :=
  num_by (k := 0) (B.fs 29 _ rfl) bd_number_of trH_number_of rfl (dk B sc_number_of rfl rfl rfl rfl rfl (fun h => nomatch h) (.inl rfl) (fun h => nomatch h) all_nil) vcH_number hj
theorem kpH_track (B : Bse W) : Kept W true ⟨"track", 5, spTrackH⟩ :=
  kept_by (B.fs 30 _ rfl) bd_track (trH_track 1 1 1 4 (spMeets 0) (spFirst 0) (spNext 0) spLabelsH) (n := n_track.length) rfl (dk (k := 4) B sc_track rfl rfl rfl rfl rfl (fun _ => numH_number_of B (by decide)) (.inl rfl) (fun h => nomatch h) (all_cons (kpH_meets B) (by decide) (all_cons (kpH_first_memory B) (by decide) (all_cons (kpH_next_memory B) (by decide) (all_cons (kpH_labels_of B) (by decide) all_nil))))) (fun ds P X h => by obtain ⟨_, _, _, _, _, rfl, _⟩ := h; rfl) vcH_track
theorem kp_law_cell (B : Bse W) : Kept W false ⟨"_law_cell", 1, spCell⟩ :=
  kept_by (B.fs 31 _ rfl) bd_law_cell (tr_law_cell) (n := n_law_cell.length) rfl (dk (k := 0) B sc_law_cell rfl rfl rfl rfl rfl (fun h => nomatch h) (.inl rfl) (fun h => nomatch h) all_nil) (fun ds P X h => by obtain ⟨_, _, rfl, _⟩ := h; rfl) vc_cell
theorem kp_law_draw (B : Bse W) : Kept W false ⟨"_law_draw", 2, spDraw⟩ :=
  kept_by (B.fs 32 _ rfl) bd_law_draw (tr_law_draw 1 spCell) (n := n_law_draw.length) rfl (dk (k := 1) B sc_law_draw rfl rfl rfl rfl rfl (fun h => nomatch h) (.inl rfl) (fun h => nomatch h) (all_cons (kp_law_cell B) (by decide) all_nil)) (fun ds P X h => by obtain ⟨_, _, _, rfl, _⟩ := h; rfl) vc_draw
theorem kp_law_term (B : Bse W) : Kept W false ⟨"_law_term", 1, spTerm⟩ :=
  kept_by (B.fs 33 _ rfl) bd_law_term (tr_law_term) (n := n_law_term.length) rfl (dk (k := 0) B sc_law_term rfl rfl rfl rfl rfl (fun h => nomatch h) (.inl rfl) (fun h => nomatch h) all_nil) (fun ds P X h => by obtain ⟨_, _, _, rfl, _⟩ := h; rfl) vc_term
theorem kp_law_condition (B : Bse W) : Kept W false ⟨"_law_condition", 2, spCond⟩ :=
  kept_by (B.fs 34 _ rfl) bd_law_condition (tr_law_condition 1 spTerm) (n := n_law_condition.length) rfl (dk (k := 1) B sc_law_condition rfl rfl rfl rfl rfl (fun h => nomatch h) (.inl rfl) (fun h => nomatch h) (all_cons (kp_law_term B) (by decide) all_nil)) (fun ds P X h => by obtain ⟨_, _, _, rfl, _⟩ := h; rfl) vc_cond
theorem kp_law_move (B : Bse W) : Kept W false ⟨"_law_move", 3, spMove⟩ :=
  kept_by (B.fs 35 _ rfl) bd_law_move (tr_law_move 2 1 2 spDraw spTerm spCond) (n := n_law_move.length) rfl (dk (k := 2) B sc_law_move rfl rfl rfl rfl rfl (fun h => nomatch h) (.inl rfl) (fun h => nomatch h) (all_cons (kp_law_draw B) (by decide) (all_cons (kp_law_term B) (by decide) (all_cons (kp_law_condition B) (by decide) all_nil)))) (fun ds P X h => by obtain ⟨_, _, _, _, _, _, rfl, _⟩ := h; rfl) vc_move
theorem kp_law_sensors (B : Bse W) : Kept W false ⟨"_law_sensors", 3, spSensors⟩ :=
  kept_by (B.fs 37 _ rfl) bd_law_sensors (tr_law_sensors 2 1 spDraw spTerm) (n := n_law_sensors.length) rfl (dk (k := 2) B sc_law_sensors rfl rfl rfl rfl rfl (fun h => nomatch h) (.inl rfl) (fun h => nomatch h) (all_cons (kp_law_draw B) (by decide) (all_cons (kp_law_term B) (by decide) all_nil))) (fun ds P X h => by obtain ⟨_, _, rfl, _⟩ := h; rfl) vc_sensors
theorem kp_law_plant (B : Bse W) : Kept W false ⟨"_law_plant", 4, spPlant⟩ :=
  kept_by (B.fs 36 _ rfl) bd_law_plant (tr_law_plant 2 3 3 spDraw spMove spSensors) (n := n_law_plant.length) rfl (dk (k := 3) B sc_law_plant rfl rfl rfl rfl rfl (fun h => nomatch h) (.inl rfl) (fun h => nomatch h) (all_cons (kp_law_draw B) (by decide) (all_cons (kp_law_move B) (by decide) (all_cons (kp_law_sensors B) (by decide) all_nil)))) (fun ds P X h => by obtain ⟨_, rfl, _⟩ := h; rfl) vc_plant
theorem kp_law_value_0 (B : Bse W) : Kept W false ⟨"_law_value", 1, spValue 0⟩ :=
  kept_by (B.fs 38 _ rfl) bd_law_value (tr_law_value 0 never) (n := n_law_value.length) rfl (dk (k := 0) B sc_law_value rfl rfl rfl rfl rfl (fun h => nomatch h) (.inl rfl) (fun h => nomatch h) (all_cons (kept_never (k := 0) (B.fs 38 _ rfl) bd_law_value) (by decide) all_nil)) (fun ds P X h => by obtain ⟨_, _, _, rfl, _⟩ := h; rfl) (vc_lvalue (d := 0) (by decide))
theorem kp_law_value_1 (B : Bse W) : Kept W false ⟨"_law_value", 2, spValue 1⟩ :=
  kept_by (B.fs 38 _ rfl) bd_law_value (tr_law_value 1 (spValue 0)) (n := n_law_value.length) rfl (dk (k := 1) B sc_law_value rfl rfl rfl rfl rfl (fun h => nomatch h) (.inl rfl) (fun h => nomatch h) (all_cons (kp_law_value_0 B) (by decide) all_nil)) (fun ds P X h => by obtain ⟨_, _, _, rfl, _⟩ := h; rfl) (vc_lvalue (d := 1) (by decide))
theorem kp_law_value_2 (B : Bse W) : Kept W false ⟨"_law_value", 3, spValue 2⟩ :=
  kept_by (B.fs 38 _ rfl) bd_law_value (tr_law_value 2 (spValue 1)) (n := n_law_value.length) rfl (dk (k := 2) B sc_law_value rfl rfl rfl rfl rfl (fun h => nomatch h) (.inl rfl) (fun h => nomatch h) (all_cons (kp_law_value_1 B) (by decide) all_nil)) (fun ds P X h => by obtain ⟨_, _, _, rfl, _⟩ := h; rfl) (vc_lvalue (d := 2) (by decide))
theorem kp_law_value_3 (B : Bse W) : Kept W false ⟨"_law_value", 4, spValue 3⟩ :=
  kept_by (B.fs 38 _ rfl) bd_law_value (tr_law_value 3 (spValue 2)) (n := n_law_value.length) rfl (dk (k := 3) B sc_law_value rfl rfl rfl rfl rfl (fun h => nomatch h) (.inl rfl) (fun h => nomatch h) (all_cons (kp_law_value_2 B) (by decide) all_nil)) (fun ds P X h => by obtain ⟨_, _, _, rfl, _⟩ := h; rfl) (vc_lvalue (d := 3) (by decide))
theorem kp_law_true_0 (B : Bse W) : Kept W false ⟨"_law_true", 5, spTrue 0⟩ :=
  kept_by (B.fs 39 _ rfl) bd_law_true (tr_law_true 4 0 (spValue 3) never) (n := n_law_true.length) rfl (dk (k := 4) B sc_law_true rfl rfl rfl rfl rfl (fun h => nomatch h) (.inl rfl) (fun h => nomatch h) (all_cons (kp_law_value_3 B) (by decide) (all_cons (kept_never (k := 0) (B.fs 39 _ rfl) bd_law_true) (by decide) all_nil))) (fun ds P X h => by obtain ⟨_, _, _, rfl, _⟩ := h; rfl) (vc_ltrue (d := 0))
theorem kp_law_true_1 (B : Bse W) : Kept W false ⟨"_law_true", 6, spTrue 1⟩ :=
  kept_by (B.fs 39 _ rfl) bd_law_true (tr_law_true 4 5 (spValue 3) (spTrue 0)) (n := n_law_true.length) rfl (dk (k := 5) B sc_law_true rfl rfl rfl rfl rfl (fun h => nomatch h) (.inl rfl) (fun h => nomatch h) (all_cons (kp_law_value_3 B) (by decide) (all_cons (kp_law_true_0 B) (by decide) all_nil))) (fun ds P X h => by obtain ⟨_, _, _, rfl, _⟩ := h; rfl) (vc_ltrue (d := 1))
theorem kp_law_true_2 (B : Bse W) : Kept W false ⟨"_law_true", 7, spTrue 2⟩ :=
  kept_by (B.fs 39 _ rfl) bd_law_true (tr_law_true 4 6 (spValue 3) (spTrue 1)) (n := n_law_true.length) rfl (dk (k := 6) B sc_law_true rfl rfl rfl rfl rfl (fun h => nomatch h) (.inl rfl) (fun h => nomatch h) (all_cons (kp_law_value_3 B) (by decide) (all_cons (kp_law_true_1 B) (by decide) all_nil))) (fun ds P X h => by obtain ⟨_, _, _, rfl, _⟩ := h; rfl) (vc_ltrue (d := 2))
theorem kp_law_true_3 (B : Bse W) : Kept W false ⟨"_law_true", 8, spTrue 3⟩ :=
  kept_by (B.fs 39 _ rfl) bd_law_true (tr_law_true 4 7 (spValue 3) (spTrue 2)) (n := n_law_true.length) rfl (dk (k := 7) B sc_law_true rfl rfl rfl rfl rfl (fun h => nomatch h) (.inl rfl) (fun h => nomatch h) (all_cons (kp_law_value_3 B) (by decide) (all_cons (kp_law_true_2 B) (by decide) all_nil))) (fun ds P X h => by obtain ⟨_, _, _, rfl, _⟩ := h; rfl) (vc_ltrue (d := 3))
theorem kp_law_box (B : Bse W) : Kept W false ⟨"_law_box", 1, spBox⟩ :=
  kept_by (B.fs 40 _ rfl) bd_law_box (tr_law_box) (n := n_law_box.length) rfl (dk (k := 0) B sc_law_box rfl rfl rfl rfl rfl (fun h => nomatch h) (.inl rfl) (fun h => nomatch h) all_nil) (fun ds P X h => by obtain ⟨_, _, rfl, _⟩ := h; rfl) vc_box
theorem kp_law_part_next (B : Bse W) : Kept W false ⟨"_law_part_next", 9, spPart⟩ :=
  kept_by (B.fs 41 _ rfl) bd_law_part_next (tr_law_part_next 4 8 1 (spValue 3) (spTrue 3) spBox) (n := n_law_part_next.length) rfl (dk (k := 8) B sc_law_part_next rfl rfl rfl rfl rfl (fun h => nomatch h) (.inl rfl) (fun h => nomatch h) (all_cons (kp_law_value_3 B) (by decide) (all_cons (kp_law_true_3 B) (by decide) (all_cons (kp_law_box B) (by decide) all_nil)))) (fun ds P X h => by obtain ⟨_, _, _, rfl, _⟩ := h; rfl) vc_part_next
theorem kp_law_next (B : Bse W) : Kept W false ⟨"_law_next", 10, spNx⟩ :=
  kept_by (B.fs 42 _ rfl) bd_law_next (tr_law_next 9 spPart) (n := n_law_next.length) rfl (dk (k := 9) B sc_law_next rfl rfl rfl rfl rfl (fun h => nomatch h) (.inl rfl) (fun h => nomatch h) (all_cons (kp_law_part_next B) (by decide) all_nil)) (fun ds P X h => by obtain ⟨_, _, rfl, _⟩ := h; rfl) vc_nx
theorem kp_law_first (B : Bse W) : Kept W false ⟨"_law_first", 2, spFs⟩ :=
  kept_by (B.fs 43 _ rfl) bd_law_first (tr_law_first 1 spBox) (n := n_law_first.length) rfl (dk (k := 1) B sc_law_first rfl rfl rfl rfl rfl (fun h => nomatch h) (.inl rfl) (fun h => nomatch h) (all_cons (kp_law_box B) (by decide) all_nil)) (fun ds P X h => by obtain ⟨_, rfl, _⟩ := h; rfl) vc_fs
theorem kp_law_fact_0 (B : Bse W) : Kept W false ⟨"_law_fact", 1, spFact 0⟩ :=
  kept_by (B.fs 44 _ rfl) bd_law_fact (tr_law_fact 0 never) (n := n_law_fact.length) rfl (dk (k := 0) B sc_law_fact rfl rfl rfl rfl rfl (fun h => nomatch h) (.inl rfl) (fun h => nomatch h) (all_cons (kept_never (k := 0) (B.fs 44 _ rfl) bd_law_fact) (by decide) all_nil)) (fun ds P X h => by obtain ⟨_, _, _, rfl, _⟩ := h; rfl) (vc_fact (d := 0))
theorem kp_law_fact_1 (B : Bse W) : Kept W false ⟨"_law_fact", 2, spFact 1⟩ :=
  kept_by (B.fs 44 _ rfl) bd_law_fact (tr_law_fact 1 (spFact 0)) (n := n_law_fact.length) rfl (dk (k := 1) B sc_law_fact rfl rfl rfl rfl rfl (fun h => nomatch h) (.inl rfl) (fun h => nomatch h) (all_cons (kp_law_fact_0 B) (by decide) all_nil)) (fun ds P X h => by obtain ⟨_, _, _, rfl, _⟩ := h; rfl) (vc_fact (d := 1))
theorem kp_law_wish_0 (B : Bse W) : Kept W false ⟨"_law_wish", 3, spWishL 0⟩ :=
  kept_by (B.fs 45 _ rfl) bd_law_wish (tr_law_wish 2 0 (spFact 1) never) (n := n_law_wish.length) rfl (dk (k := 2) B sc_law_wish rfl rfl rfl rfl rfl (fun h => nomatch h) (.inl rfl) (fun h => nomatch h) (all_cons (kp_law_fact_1 B) (by decide) (all_cons (kept_never (k := 0) (B.fs 45 _ rfl) bd_law_wish) (by decide) all_nil))) (fun ds P X h => by obtain ⟨_, _, _, _, _, rfl, _⟩ := h; rfl) (vc_wishL (d := 0))
theorem kp_law_wish_1 (B : Bse W) : Kept W false ⟨"_law_wish", 4, spWishL 1⟩ :=
  kept_by (B.fs 45 _ rfl) bd_law_wish (tr_law_wish 2 3 (spFact 1) (spWishL 0)) (n := n_law_wish.length) rfl (dk (k := 3) B sc_law_wish rfl rfl rfl rfl rfl (fun h => nomatch h) (.inl rfl) (fun h => nomatch h) (all_cons (kp_law_fact_1 B) (by decide) (all_cons (kp_law_wish_0 B) (by decide) all_nil))) (fun ds P X h => by obtain ⟨_, _, _, _, _, rfl, _⟩ := h; rfl) (vc_wishL (d := 1))
theorem kp_law_wish_2 (B : Bse W) : Kept W false ⟨"_law_wish", 5, spWishL 2⟩ :=
  kept_by (B.fs 45 _ rfl) bd_law_wish (tr_law_wish 2 4 (spFact 1) (spWishL 1)) (n := n_law_wish.length) rfl (dk (k := 4) B sc_law_wish rfl rfl rfl rfl rfl (fun h => nomatch h) (.inl rfl) (fun h => nomatch h) (all_cons (kp_law_fact_1 B) (by decide) (all_cons (kp_law_wish_1 B) (by decide) all_nil))) (fun ds P X h => by obtain ⟨_, _, _, _, _, rfl, _⟩ := h; rfl) (vc_wishL (d := 2))
theorem kp_law_wish_3 (B : Bse W) : Kept W false ⟨"_law_wish", 6, spWishL 3⟩ :=
  kept_by (B.fs 45 _ rfl) bd_law_wish (tr_law_wish 2 5 (spFact 1) (spWishL 2)) (n := n_law_wish.length) rfl (dk (k := 5) B sc_law_wish rfl rfl rfl rfl rfl (fun h => nomatch h) (.inl rfl) (fun h => nomatch h) (all_cons (kp_law_fact_1 B) (by decide) (all_cons (kp_law_wish_2 B) (by decide) all_nil))) (fun ds P X h => by obtain ⟨_, _, _, _, _, rfl, _⟩ := h; rfl) (vc_wishL (d := 3))
theorem kp_law_alike (B : Bse W) : Kept W false ⟨"_law_alike", 1, spAlike⟩ :=
  kept_by (B.fs 46 _ rfl) bd_law_alike (tr_law_alike 0 never) (n := n_law_alike.length) rfl (dk (k := 0) B sc_law_alike rfl rfl rfl rfl rfl (fun h => nomatch h) (.inl rfl) (fun h => nomatch h) (all_cons (kept_never (k := 0) (B.fs 46 _ rfl) bd_law_alike) (by decide) all_nil)) (fun ds P X h => by obtain ⟨_, _, rfl, _⟩ := h; rfl) vc_alike
theorem kp_law_states (B : Bse W) : Kept W false ⟨"_law_states", 11, spStates⟩ :=
  kept_by (B.fs 47 _ rfl) bd_law_states (tr_law_states 10 2 spNx spFs) (n := n_law_states.length) rfl (dk (k := 10) B sc_law_states rfl rfl rfl rfl rfl (fun h => nomatch h) (.inl rfl) (fun h => nomatch h) (all_cons (kp_law_next B) (by decide) (all_cons (kp_law_first B) (by decide) all_nil))) (fun ds P X h => by obtain ⟨_, _, rfl, _⟩ := h; rfl) vc_states
theorem kp_law_steps (B : Bse W) : Kept W false ⟨"_law_steps", 11, spSteps⟩ :=
  kept_by (B.fs 48 _ rfl) bd_law_steps (tr_law_steps 10 spNx) (n := n_law_steps.length) rfl (dk (k := 10) B sc_law_steps rfl rfl rfl rfl rfl (fun h => nomatch h) (.inl rfl) (fun h => nomatch h) (all_cons (kp_law_next B) (by decide) all_nil)) (fun ds P X h => by obtain ⟨_, _, rfl, _⟩ := h; rfl) vc_steps
theorem kp_law_machine (B : Bse W) : Kept W false ⟨"_law_machine", 12, spMachine⟩ :=
  kept_by (B.fs 49 _ rfl) bd_law_machine (tr_law_machine 2 11 spFs spSteps) (n := n_law_machine.length) rfl (dk (k := 11) B sc_law_machine rfl rfl rfl rfl rfl (fun h => nomatch h) (.inl rfl) (fun h => nomatch h) (all_cons (kp_law_first B) (by decide) (all_cons (kp_law_steps B) (by decide) all_nil))) (fun ds P X h => by obtain ⟨_, _, rfl, _⟩ := h; rfl) vc_machine
theorem kp_law_pick (B : Bse W) : Kept W false ⟨"_law_pick", 3, spPick⟩ :=
  kept_by (B.fs 50 _ rfl) bd_law_pick (tr_law_pick 2 spDraw) (n := n_law_pick.length) rfl (dk (k := 2) B sc_law_pick rfl rfl rfl rfl rfl (fun h => nomatch h) (.inl rfl) (fun h => nomatch h) (all_cons (kp_law_draw B) (by decide) all_nil)) (fun ds P X h => by obtain ⟨_, _, _, rfl, _⟩ := h; rfl) vc_pick
theorem kp_law_readings (B : Bse W) : Kept W false ⟨"_law_readings", 5, spReads⟩ :=
  kept_by (B.fs 51 _ rfl) bd_law_readings (tr_law_readings 4 1 (spValue 3) spBox) (n := n_law_readings.length) rfl (dk (k := 4) B sc_law_readings rfl rfl rfl rfl rfl (fun h => nomatch h) (.inl rfl) (fun h => nomatch h) (all_cons (kp_law_value_3 B) (by decide) (all_cons (kp_law_box B) (by decide) all_nil))) (fun ds P X h => by obtain ⟨_, _, rfl, _⟩ := h; rfl) vc_reads
theorem kp_law_row (B : Bse W) : Kept W false ⟨"_law_row", 11, spRow⟩ :=
  kept_by (B.fs 52 _ rfl) bd_law_row (tr_law_row 2 10 2 5 spDraw spNx spFs spReads) (n := n_law_row.length) rfl (dk (k := 10) B sc_law_row rfl rfl rfl rfl rfl (fun h => nomatch h) (.inl rfl) (fun h => nomatch h) (all_cons (kp_law_draw B) (by decide) (all_cons (kp_law_next B) (by decide) (all_cons (kp_law_first B) (by decide) (all_cons (kp_law_readings B) (by decide) all_nil))))) (fun ds P X h => by obtain ⟨_, _, _, _, rfl, _⟩ := h; rfl) vc_row
theorem kp_law_setting (B : Bse W) : Kept W false ⟨"_law_setting", 12, spSetting⟩ :=
  kept_by (B.fs 53 _ rfl) bd_law_setting (tr_law_setting 4 11 spPlant spStates) (n := n_law_setting.length) rfl (dk (k := 11) B sc_law_setting rfl rfl rfl rfl rfl (fun h => nomatch h) (.inl rfl) (fun h => nomatch h) (all_cons (kp_law_plant B) (by decide) (all_cons (kp_law_states B) (by decide) all_nil))) (fun ds P X h => by obtain ⟨_, rfl, _⟩ := h; rfl) vc_setting
theorem kp_law_depth_wish (B : Bse W) : Kept W false ⟨"_law_depth_wish", 7, spDepth⟩ :=
  kept_by (B.fs 54 _ rfl) bd_law_depth_wish (tr_law_depth_wish 2 6 spDraw (spWishL 3)) (n := n_law_depth_wish.length) rfl (dk (k := 6) B sc_law_depth_wish rfl rfl rfl rfl rfl (fun h => nomatch h) (.inl rfl) (fun h => nomatch h) (all_cons (kp_law_draw B) (by decide) (all_cons (kp_law_wish_3 B) (by decide) all_nil))) (fun ds P X h => by obtain ⟨_, _, _, rfl, _⟩ := h; rfl) vc_depth
theorem kp_law_tracked (B : Bse W) : Kept W false ⟨"_law_tracked", 16, spTracked⟩ :=
  kept_by (B.fs 55 _ rfl) bd_law_tracked (tr_law_tracked 15 12 12 7 5 spTrack spMachine spSetting spDepth spTrackH) (n := n_law_tracked.length) rfl (dk (k := 15) B sc_law_tracked rfl rfl rfl rfl rfl (fun h => nomatch h) (.inr ⟨rfl, by decide +kernel, by decide⟩) (fun _ => ⟨rfl, (all_cons (kpH_track B) (by decide) all_nil)⟩) (all_cons (kp_track B) (by decide) (all_cons (kp_law_machine B) (by decide) (all_cons (kp_law_setting B) (by decide) (all_cons (kp_law_depth_wish B) (by decide) all_nil))))) (fun ds P X h => by obtain ⟨_, rfl, _⟩ := h; rfl) vc_tracked
theorem law_fn (B : Bse W) {f : Addr} {fd : FuncData} (F : L2.Fun W.K "law" "law" s_law f fd) : FnM false W.P W.w W.K W.mg W.base 17 f fd a_law (spOf W.C spLaw) :=
  fn_by F (tr_law 8 8 8 1 1 3 11 16 spPoss spJudge spBuild spSays spAlike spPick spRow spTracked) (n := n_law.length) rfl (dk (k := 16) B sc_law rfl rfl rfl rfl rfl (fun h => nomatch h) (.inr ⟨rfl, by decide +kernel, by decide⟩) (fun _ => ⟨rfl, all_nil⟩) (all_cons (kp_possible_readings B) (by decide) (all_cons (kp_judge B) (by decide) (all_cons (kp_build B) (by decide) (all_cons (kp_says B) (by decide) (all_cons (kp_law_alike B) (by decide) (all_cons (kp_law_pick B) (by decide) (all_cons (kp_law_row B) (by decide) (all_cons (kp_law_tracked B) (by decide) all_nil))))))))) (fun ds P X h => by obtain ⟨_, rfl, _⟩ := h; rfl) vc_law
end Wd

/-! G1: from what the top has written to the law's promise. -/
namespace Wd
open PySem PySem.Spec PyProof.Rows L2
open Evl (Ex Ex.refl)
def HasK (K : PySem.W.Frag) (mg : Str → Option Value) (nm : Str) (st : Stmt) : Prop := ∃ (f : Addr) (fd : FuncData), mg nm = some (.ref f) ∧ L2.Fun K nm nm st f fd
def AllHas (K : PySem.W.Frag) (mg : Str → Option Value) (l : List (Str × Nat)) : Prop := ∀ (j : Nat) (p : Str × Nat), l[j]? = some p → HasK K mg p.1 (top p.2)
def AllNone (K : PySem.W.Frag) (l : List Str) : Prop := ∀ x ∈ l, PySem.W.nsIn K mainGlobals x = some none
def noLst : Value → Bool
  | .type s => !decide (s = "list")
  | _ => true
section
variable {K : PySem.W.Frag} {mg : Str → Option Value} {h : Heap} {nm : Str} {i : Nat} {l : List (Str × Nat)} {ls : List Str} {x : Str}
theorem allh_nil : AllHas K mg [] := fun j p e => by simp at e
theorem allh_cons (a : HasK K mg nm (top i)) (r : AllHas K mg l) : AllHas K mg (⟨nm, i⟩ :: l) := fun j p e => by
  cases j with
  | zero => simp at e; subst e; exact a
  | succ j => exact r j p (by simpa using e)
theorem alln_nil : AllNone K [] := fun x m => nomatch m
theorem alln_cons (a : PySem.W.nsIn K mainGlobals x = some none) (r : AllNone K ls) : AllNone K (x :: ls) := fun y m => by
  rcases List.mem_cons.mp m with z | z
  · rw [z]; exact a
  · exact r y z
theorem has_mk {st : Stmt} {f : Addr} {oc kV doc pm cdv ct : Value} {od an : Option Addr} {osl : Array (Option Value)} (X : K.In h) (G : h.Ns mainGlobals mg) (a : PySem.W.nsIn K mainGlobals nm = some (some (.ref f)))
    (o : K.lookup f = some ⟨oc, od, .func (PySem.W.fnOf nm nm (defArgs st) (defBody st) (defScope st) .none kV doc pm an cdv ct), osl⟩) (c : PySem.W.codeIn K cdv nm = true) (k : PySem.W.keepIn K (.ref f) = true) : HasK K mg nm st :=
  ⟨f, _, PySem.W.mg_of X G a, fun_mk o c k⟩
theorem too_mk {C f N : Addr} {cn q : Str} {bs bm : List Value} {sn : List Str} {sub : List Value} {ab : Bool} {col : Option Bool} {dd : Option Addr} {m0 m1 m2 m3 m5 : Option Value} {oc kV doc pm cdv ct : Value} {od an : Option Addr} {osl : Array (Option Value)}
    (X : K.In h) (G : h.Ns mainGlobals mg) (aC : PySem.W.nsIn K mainGlobals "TooMany" = some (some (.ref C))) (oC : K.lookup C = some (excClassObj cn q C N bs bm true sn sub ab col dd m0 m1 m2 m3 m5 "ValueError.__new__")) (hb : PySem.HandSPX.refsVE bm = true)
    (sa : PySem.W.findIn K (.ref C) "__setattr__" = some (some (.builtin "object.__setattr__"))) (kC : PySem.W.keepIn K (.ref C) = true) (eC : PySem.W.subIn K (.ref C) (.type "BaseException") = some true) (tC : PySem.W.typeIn K (.ref C) = some (.type "type"))
    (no : PySem.W.findIn K (.ref C) "what" = some none) (a : PySem.W.findIn K (.ref C) "__init__" = some (some (.ref f))) (t : PySem.W.typeIn K (.ref f) = some (.type "function"))
    (o : K.lookup f = some ⟨oc, od, .func (PySem.W.fnOf "__init__" "TooMany.__init__" (defArgs sWhat) (defBody sWhat) (defScope sWhat) .none kV doc pm an cdv ct), osl⟩) (c : PySem.W.codeIn K cdv "TooMany.__init__" = true) (k : PySem.W.keepIn K (.ref f) = true) : TooT K mg C where
  oex := ⟨⟨cn, q, N, bs, bm, sn, sub, ab, col, dd, m0, m1, m2, m3, m5, oC, hb⟩, sa, eC, tC, kC⟩
  mgC := PySem.W.mg_of X G aC
  no := no
  ini := ⟨f, _, a, t, fun_mk o c k⟩
/-- the class is among those that its own clause names -/
theorem em_mk {C : Addr} (eC : PySem.W.subIn K (.ref C) (.type "BaseException") = some true) (iC : PySem.W.isClsIn K C = true) (tC : PySem.W.typeIn K (.ref C) = some (.type "type")) (sC : PySem.W.subIn K (.ref C) (.ref C) = some true) : PySem.W.exmOne K (.ref C) (.ref C) = some true := by
  have e2 : ((PySem.W.clsIn K C).isSome && PySem.W.typeIn K (.ref C) == some (.type "type")) = true := by
    have iC : (PySem.W.clsIn K C).isSome = true := iC
    rw [iC, tC]
    rfl
  unfold PySem.W.exmOne
  rw [if_pos (by rw [eC]; rfl)]
  unfold PySem.W.kitCls
  dsimp only
  rw [if_pos e2]
  exact sC
end
/-- the law's promise at the top: True, of any script -/
def spTop : Sp := fun vs H Q _ => ∃ (F : Hp) (ns : List Int), Ex F H ∧ Reps F vs [scD ns] ∧ ∀ v F' H', Rep F' v (.bool true) → Q v H'
theorem top_of {C : Addr} {vs : List V} {H : Hp} {Q : VK} {E : XK} (h : spTop vs H Q E) : spOf C spLaw vs H Q E := by
  obtain ⟨F, ns, e, r, k⟩ := h
  exact ⟨[scD ns], F, fun d => d = .bool true, False, ⟨ns, rfl, rfl⟩, e, r, fun v d F' H' hd _ rv => by subst hd; exact k v F' H' rv, fun _ _ _ h => h.elim⟩
theorem fin {P : Program} {w : World} {K : PySem.W.Frag} {mg : Str → Option Value} {h : Heap} {fa C : Addr} (X : K.In h) (G : h.Ns mainGlobals mg) (hfa : mg "law" = some (.ref fa)) (bl : AllNone K blts) (too : TooT K mg C) (em : PySem.W.exmOne K (.ref C) (.ref C) = some true)
    (hs : AllHas K mg tbl) : ∃ fd : FuncData, (∀ (s : Shared) (u : Value), BindsTo s fd ⟨[u], []⟩ [("_law_script", u)]) ∧ ∀ base : Heap, K.In base → base.Ns mainGlobals mg → FnOk P w K mg base (CXn P w) 17 fa fd ["_law_script"] spTop := by
  obtain ⟨f, fd, hf, F⟩ := hs 56 _ rfl
  have e : f = fa := by
    have z := hf.symm.trans hfa
    cases z
    rfl
  subst e
  refine ⟨fd, ?_, fun base _ _ => ?_⟩
  · obtain ⟨oc, od, kV, doc, pm, an, cdv, ct, osl, rfl, _, _⟩ := F.ex
    exact fun s u => .of_eq rfl
  · have B : Bse ⟨P, w, K, mg, base, C⟩ := ⟨fun x hx => PySem.W.mg_none_of X G (bl x (by simpa using hx)), too, em, hs⟩
    exact ((law_fn B F).c rfl).imp fun vs H Q E => top_of
theorem walk {l : PySem.W.OpenLaw} {q : Program} {loose : List Str} {XP : (Str → Option Value) → Heap → Prop} {YP : World → Heap → Prop} {d : DefRec} {K : Params → PySem.W.Frag} (hn : l.most = some 63) (hdf : d.params.defaults = [])
    (hY : ∀ (w : World) (h : Heap), YP w h → (K w.params).In h) (hl : ∀ p : Params, (K p).all (fun o => noLst o.2.cls) = true)
    (F : ∀ (w : World) (mg : Str → Option Value) (fa : Addr) (h : Heap), (K w.params).In h → h.Ns mainGlobals mg → mg d.name = some (.ref fa) →
      ∃ fd : FuncData, (∀ (s : Shared) (u : Value), BindsTo s fd ⟨[u], []⟩ [("_law_script", u)]) ∧ ∀ base : Heap, (K w.params).In base → base.Ns mainGlobals mg → FnOk l.prog w (K w.params) mg base (CXn l.prog w) 17 fa fd ["_law_script"] spTop) :
    PySem.W.WalkO q loose XP YP l.row.toRowW d [] (fun f vs => PySem.call f vs) :=
  L2.walk_of (n := 63) (k := 17) (x := "_law_script") (CX := fun w => CXn l.prog w) (sp := fun _ => spTop) hn (by decide) hdf ⟨rfl, by decide, by decide⟩ hY F
    (fun w H a ns _ hO hS => by
      rcases hS with hS | ⟨o, its, n, e1, e2, _⟩
      · have ha : ∃ o, H a = some (.frz o (.lst (ns.map V.int))) := by
          rcases hS with z | z
          · rcases hO a with y | ⟨o, xs, y⟩
            · rw [z] at y; cases y
            · rw [z] at y; cases y
          · exact z
        obtain ⟨o, ha⟩ := ha
        refine ⟨H, ns, Ex.refl _, .cons (.frz ha ?_) .nil, fun v F' H' r => ?_⟩
        · have e : (ns.map fun i => (PyData.int i, PyData.none)).map (·.1) = ns.map PyData.int := by rw [List.map_map]; rfl
          rw [e]
          exact reps_ints ns
        · cases r
          rfl
      · exfalso
        have m : (a, o) ∈ K w.params := by
          have key : ∀ {t : PySem.W.Frag}, t.lookup a = some o → (a, o) ∈ t := by
            intro t
            induction t with
            | nil => intro z; cases z
            | cons p t ih =>
              obtain ⟨b, ob⟩ := p
              intro z
              by_cases c : a = b
              · subst c
                simp [List.lookup] at z
                subst z
                exact List.mem_cons_self
              · have cb : (a == b) = false := by simpa using c
                simp [List.lookup, cb] at z
                exact List.mem_cons_of_mem _ (ih z)
          exact key e1
        have z := List.all_eq_true.mp (hl w.params) _ m
        have e2 : o.cls = .type "list" := e2
        simp only [e2] at z
        cases z)
    fun w H s e s' ⟨_, _, _, _, _, _, _, _, _, _, _, _, z⟩ => z
end Wd


open PySem PySem.W PyProof.Rows in
set_option maxRecDepth 100000 in
set_option maxHeartbeats 0 in
theorem PySem.Challenge.cw_wardens_k47_whole_monitor_is_the_judge_holds : PySem.Challenge.rw_wardens_k47_whole_monitor_is_the_judge.Holds := by
  w_on; o_law; k_head; (case hw => w_witness2)
  k_fill
  refine Wd.walk (l := PySem.Challenge.rw_wardens_k47_whole_monitor_is_the_judge) rfl rfl (fun w h Y => PySem.W.kIn_of Y) ?L ?F
  case L => intro p; kernel_rfl
  case F =>
    intro w mg fa h KX G hmg
    refine' Wd.fin KX G hmg ?bl ?too ?em ?hs
    case too =>
      refine' Wd.too_mk KX G ?aC ?oC ?hb ?sa ?kC ?eC ?tC ?no ?a ?t ?o ?c ?k
      (case aC => k_is)
      (case oC => k_is)
      (case hb => rfl)
      (case sa => k_is)
      (case kC => k_is)
      (case eC => k_is)
      (case tC => k_is)
      (case no => k_is)
      (case a => k_is)
      (case t => k_is)
      (case o => k_is)
      (case c => k_is)
      (case k => k_is)
    case em =>
      refine' Wd.em_mk ?eC ?iC ?tC ?sC
      (case eC => k_is)
      (case iC => k_is)
      (case tC => k_is)
      (case sC => k_is)
    case bl =>
      refine' Wd.alln_cons ?a ?_; (case a => k_is)
      refine' Wd.alln_cons ?a ?_; (case a => k_is)
      refine' Wd.alln_cons ?a ?_; (case a => k_is)
      refine' Wd.alln_cons ?a ?_; (case a => k_is)
      refine' Wd.alln_cons ?a ?_; (case a => k_is)
      refine' Wd.alln_cons ?a ?_; (case a => k_is)
      refine' Wd.alln_cons ?a ?_; (case a => k_is)
      refine' Wd.alln_cons ?a ?_; (case a => k_is)
      refine' Wd.alln_cons ?a ?_; (case a => k_is)
      refine' Wd.alln_cons ?a ?_; (case a => k_is)
      refine' Wd.alln_cons ?a ?_; (case a => k_is)
      refine' Wd.alln_cons ?a ?_; (case a => k_is)
      refine' Wd.alln_cons ?a ?_; (case a => k_is)
      exact Wd.alln_nil
    case hs =>
      refine' Wd.allh_cons (Wd.has_mk KX G ?a ?o ?c ?k) ?_; (case a => k_is); (case o => k_is); (case c => k_is); (case k => k_is)
      refine' Wd.allh_cons (Wd.has_mk KX G ?a ?o ?c ?k) ?_; (case a => k_is); (case o => k_is); (case c => k_is); (case k => k_is)
      refine' Wd.allh_cons (Wd.has_mk KX G ?a ?o ?c ?k) ?_; (case a => k_is); (case o => k_is); (case c => k_is); (case k => k_is)
      refine' Wd.allh_cons (Wd.has_mk KX G ?a ?o ?c ?k) ?_; (case a => k_is); (case o => k_is); (case c => k_is); (case k => k_is)
      refine' Wd.allh_cons (Wd.has_mk KX G ?a ?o ?c ?k) ?_; (case a => k_is); (case o => k_is); (case c => k_is); (case k => k_is)
      refine' Wd.allh_cons (Wd.has_mk KX G ?a ?o ?c ?k) ?_; (case a => k_is); (case o => k_is); (case c => k_is); (case k => k_is)
      refine' Wd.allh_cons (Wd.has_mk KX G ?a ?o ?c ?k) ?_; (case a => k_is); (case o => k_is); (case c => k_is); (case k => k_is)
      refine' Wd.allh_cons (Wd.has_mk KX G ?a ?o ?c ?k) ?_; (case a => k_is); (case o => k_is); (case c => k_is); (case k => k_is)
      refine' Wd.allh_cons (Wd.has_mk KX G ?a ?o ?c ?k) ?_; (case a => k_is); (case o => k_is); (case c => k_is); (case k => k_is)
      refine' Wd.allh_cons (Wd.has_mk KX G ?a ?o ?c ?k) ?_; (case a => k_is); (case o => k_is); (case c => k_is); (case k => k_is)
      refine' Wd.allh_cons (Wd.has_mk KX G ?a ?o ?c ?k) ?_; (case a => k_is); (case o => k_is); (case c => k_is); (case k => k_is)
      refine' Wd.allh_cons (Wd.has_mk KX G ?a ?o ?c ?k) ?_; (case a => k_is); (case o => k_is); (case c => k_is); (case k => k_is)
      refine' Wd.allh_cons (Wd.has_mk KX G ?a ?o ?c ?k) ?_; (case a => k_is); (case o => k_is); (case c => k_is); (case k => k_is)
      refine' Wd.allh_cons (Wd.has_mk KX G ?a ?o ?c ?k) ?_; (case a => k_is); (case o => k_is); (case c => k_is); (case k => k_is)
      refine' Wd.allh_cons (Wd.has_mk KX G ?a ?o ?c ?k) ?_; (case a => k_is); (case o => k_is); (case c => k_is); (case k => k_is)
      refine' Wd.allh_cons (Wd.has_mk KX G ?a ?o ?c ?k) ?_; (case a => k_is); (case o => k_is); (case c => k_is); (case k => k_is)
      refine' Wd.allh_cons (Wd.has_mk KX G ?a ?o ?c ?k) ?_; (case a => k_is); (case o => k_is); (case c => k_is); (case k => k_is)
      refine' Wd.allh_cons (Wd.has_mk KX G ?a ?o ?c ?k) ?_; (case a => k_is); (case o => k_is); (case c => k_is); (case k => k_is)
      refine' Wd.allh_cons (Wd.has_mk KX G ?a ?o ?c ?k) ?_; (case a => k_is); (case o => k_is); (case c => k_is); (case k => k_is)
      refine' Wd.allh_cons (Wd.has_mk KX G ?a ?o ?c ?k) ?_; (case a => k_is); (case o => k_is); (case c => k_is); (case k => k_is)
      refine' Wd.allh_cons (Wd.has_mk KX G ?a ?o ?c ?k) ?_; (case a => k_is); (case o => k_is); (case c => k_is); (case k => k_is)
      refine' Wd.allh_cons (Wd.has_mk KX G ?a ?o ?c ?k) ?_; (case a => k_is); (case o => k_is); (case c => k_is); (case k => k_is)
      refine' Wd.allh_cons (Wd.has_mk KX G ?a ?o ?c ?k) ?_; (case a => k_is); (case o => k_is); (case c => k_is); (case k => k_is)
      refine' Wd.allh_cons (Wd.has_mk KX G ?a ?o ?c ?k) ?_; (case a => k_is); (case o => k_is); (case c => k_is); (case k => k_is)
      refine' Wd.allh_cons (Wd.has_mk KX G ?a ?o ?c ?k) ?_; (case a => k_is); (case o => k_is); (case c => k_is); (case k => k_is)
      refine' Wd.allh_cons (Wd.has_mk KX G ?a ?o ?c ?k) ?_; (case a => k_is); (case o => k_is); (case c => k_is); (case k => k_is)
      refine' Wd.allh_cons (Wd.has_mk KX G ?a ?o ?c ?k) ?_; (case a => k_is); (case o => k_is); (case c => k_is); (case k => k_is)
      refine' Wd.allh_cons (Wd.has_mk KX G ?a ?o ?c ?k) ?_; (case a => k_is); (case o => k_is); (case c => k_is); (case k => k_is)
      refine' Wd.allh_cons (Wd.has_mk KX G ?a ?o ?c ?k) ?_; (case a => k_is); (case o => k_is); (case c => k_is); (case k => k_is)
      refine' Wd.allh_cons (Wd.has_mk KX G ?a ?o ?c ?k) ?_; (case a => k_is); (case o => k_is); (case c => k_is); (case k => k_is)
      refine' Wd.allh_cons (Wd.has_mk KX G ?a ?o ?c ?k) ?_; (case a => k_is); (case o => k_is); (case c => k_is); (case k => k_is)
      refine' Wd.allh_cons (Wd.has_mk KX G ?a ?o ?c ?k) ?_; (case a => k_is); (case o => k_is); (case c => k_is); (case k => k_is)
      refine' Wd.allh_cons (Wd.has_mk KX G ?a ?o ?c ?k) ?_; (case a => k_is); (case o => k_is); (case c => k_is); (case k => k_is)
      refine' Wd.allh_cons (Wd.has_mk KX G ?a ?o ?c ?k) ?_; (case a => k_is); (case o => k_is); (case c => k_is); (case k => k_is)
      refine' Wd.allh_cons (Wd.has_mk KX G ?a ?o ?c ?k) ?_; (case a => k_is); (case o => k_is); (case c => k_is); (case k => k_is)
      refine' Wd.allh_cons (Wd.has_mk KX G ?a ?o ?c ?k) ?_; (case a => k_is); (case o => k_is); (case c => k_is); (case k => k_is)
      refine' Wd.allh_cons (Wd.has_mk KX G ?a ?o ?c ?k) ?_; (case a => k_is); (case o => k_is); (case c => k_is); (case k => k_is)
      refine' Wd.allh_cons (Wd.has_mk KX G ?a ?o ?c ?k) ?_; (case a => k_is); (case o => k_is); (case c => k_is); (case k => k_is)
      refine' Wd.allh_cons (Wd.has_mk KX G ?a ?o ?c ?k) ?_; (case a => k_is); (case o => k_is); (case c => k_is); (case k => k_is)
      refine' Wd.allh_cons (Wd.has_mk KX G ?a ?o ?c ?k) ?_; (case a => k_is); (case o => k_is); (case c => k_is); (case k => k_is)
      refine' Wd.allh_cons (Wd.has_mk KX G ?a ?o ?c ?k) ?_; (case a => k_is); (case o => k_is); (case c => k_is); (case k => k_is)
      refine' Wd.allh_cons (Wd.has_mk KX G ?a ?o ?c ?k) ?_; (case a => k_is); (case o => k_is); (case c => k_is); (case k => k_is)
      refine' Wd.allh_cons (Wd.has_mk KX G ?a ?o ?c ?k) ?_; (case a => k_is); (case o => k_is); (case c => k_is); (case k => k_is)
      refine' Wd.allh_cons (Wd.has_mk KX G ?a ?o ?c ?k) ?_; (case a => k_is); (case o => k_is); (case c => k_is); (case k => k_is)
      refine' Wd.allh_cons (Wd.has_mk KX G ?a ?o ?c ?k) ?_; (case a => k_is); (case o => k_is); (case c => k_is); (case k => k_is)
      refine' Wd.allh_cons (Wd.has_mk KX G ?a ?o ?c ?k) ?_; (case a => k_is); (case o => k_is); (case c => k_is); (case k => k_is)
      refine' Wd.allh_cons (Wd.has_mk KX G ?a ?o ?c ?k) ?_; (case a => k_is); (case o => k_is); (case c => k_is); (case k => k_is)
      refine' Wd.allh_cons (Wd.has_mk KX G ?a ?o ?c ?k) ?_; (case a => k_is); (case o => k_is); (case c => k_is); (case k => k_is)
      refine' Wd.allh_cons (Wd.has_mk KX G ?a ?o ?c ?k) ?_; (case a => k_is); (case o => k_is); (case c => k_is); (case k => k_is)
      refine' Wd.allh_cons (Wd.has_mk KX G ?a ?o ?c ?k) ?_; (case a => k_is); (case o => k_is); (case c => k_is); (case k => k_is)
      refine' Wd.allh_cons (Wd.has_mk KX G ?a ?o ?c ?k) ?_; (case a => k_is); (case o => k_is); (case c => k_is); (case k => k_is)
      refine' Wd.allh_cons (Wd.has_mk KX G ?a ?o ?c ?k) ?_; (case a => k_is); (case o => k_is); (case c => k_is); (case k => k_is)
      refine' Wd.allh_cons (Wd.has_mk KX G ?a ?o ?c ?k) ?_; (case a => k_is); (case o => k_is); (case c => k_is); (case k => k_is)
      refine' Wd.allh_cons (Wd.has_mk KX G ?a ?o ?c ?k) ?_; (case a => k_is); (case o => k_is); (case c => k_is); (case k => k_is)
      refine' Wd.allh_cons (Wd.has_mk KX G ?a ?o ?c ?k) ?_; (case a => k_is); (case o => k_is); (case c => k_is); (case k => k_is)
      refine' Wd.allh_cons (Wd.has_mk KX G ?a ?o ?c ?k) ?_; (case a => k_is); (case o => k_is); (case c => k_is); (case k => k_is)
      refine' Wd.allh_cons (Wd.has_mk KX G ?a ?o ?c ?k) ?_; (case a => k_is); (case o => k_is); (case c => k_is); (case k => k_is)
      exact Wd.allh_nil

