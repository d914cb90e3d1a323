import PyProof.Rows.All
import Wide.All
import OpenK.AllK
import Wide.FinOn
import KE.DataEq
import HandS.ForMost
import HandS.ForExc
import HandS.TupAny
import HandS.Zip
import HandS.More
import HandS.TupMul
import HandS.IsInst
import HandS.SortInts
import HandS.Style
import HandS.Walk
import HandS.ExcInit
import HandS.TryMany
import HandS.ExcField
import HandS.Comp
import HandS.Defaults
import HandS.ExcOwn
import HandS.RaiseMore
import PyProof.StrOps2
import HandS.Ends
import PyProof.FactsAll.list_3
import HandS.Words
import PySem.Challenge.RW_proofkernel_k00_whole_terms_places_and_p
import HandS.ForList
section
set_option Elab.async false
set_option linter.all false
/-! PKa: a small pure semantics: data D, a memory of lists and dicts, what an expression and a statement answer. No heap, no state of the machine here. -/
namespace PK

/-- data: tuples are written out, what can change stands in the memory, at loc; kst: a list of numbers that nothing changes -/
inductive D where
  | non | bl (b : Bool) | int (i : Int) | str (s : List Nat) | tup (xs : List D) | loc (n : Nat) | fn (f : Nat) | kd (n : Nat) | kst (xs : List Int)
  deriving Inhabited

/-- an object of the memory: a list, a list that is being walked, a dict, an instance -/
inductive MO where
  | lst (xs : List D) | lck (xs : List D) | dic (kvs : List (D × D)) | ins (c : Nat) (fs : List (Nat × D))
abbrev Mem := List MO
/-- a list to be read -/
def MO.rd : MO → Option (List D)
  | .lst xs => some xs
  | .lck xs => some xs
  | _ => none
/-- a list of one's own -/
def MO.own : MO → Option (List D)
  | .lst xs => some xs
  | .lck xs => some xs
  | _ => none
def MO.kvs : MO → Option (List (D × D))
  | .dic kvs => some kvs
  | _ => none
/-- what no one changes -/
def MO.fix : MO → Bool
  | .lck _ => true
  | _ => false
abbrev rdL (M : Mem) (a : Nat) : Option (List D) := (M[a]?).bind MO.rd
abbrev ownL (M : Mem) (a : Nat) : Option (List D) := (M[a]?).bind MO.own
abbrev rdK (M : Mem) (a : Nat) : Option (List (D × D)) := (M[a]?).bind MO.kvs
structure Exn where
  cls : Nat
  fs : List (Nat × D)
abbrev Env := List (Option D)
inductive Out where
  | ok (d : D) (M : Mem) | exc (x : Exn) (M : Mem) | bad
inductive SOut where
  | nx (ρ : Env) (M : Mem) | rt (d : D) (M : Mem) | bk (ρ : Env) (M : Mem) | ct (ρ : Env) (M : Mem) | exc (x : Exn) (ρ : Env) (M : Mem) | bad

mutual
/-- all places of the memory within lie below k -/
def D.lt (k : Nat) : D → Bool
  | .tup xs => D.ltL k xs
  | .loc n => decide (n < k)
  | _ => true
def D.ltL (k : Nat) : List D → Bool
  | [] => true
  | d :: ds => d.lt k && D.ltL k ds
end
def MO.lt (k : Nat) : MO → Bool
  | .lst xs => D.ltL k xs
  | .lck xs => D.ltL k xs
  | .dic kvs => kvs.all fun p => p.2.lt k
  | .ins _ fs => fs.all fun p => p.2.lt k

mutual
/-- numbers, truth values, texts, None, tuples of such -/
def D.flat : D → Bool
  | .tup xs => D.flatL xs
  | .loc _ => false
  | .fn _ => false
  | .kd _ => false
  | .kst _ => false
  | _ => true
def D.flatL : List D → Bool
  | [] => true
  | d :: ds => d.flat && D.flatL ds
end
mutual
def D.dep : D → Nat
  | .tup xs => D.depL xs + 1
  | _ => 0
def D.depL : List D → Nat
  | [] => 0
  | d :: ds => max d.dep (D.depL ds)
end
mutual
/-- == of data -/
def D.eqv : D → D → Bool
  | .non, .non => true
  | .bl a, .bl b => a == b
  | .bl a, .int j => (if a then 1 else 0) == j
  | .int i, .bl b => i == (if b then 1 else 0)
  | .int i, .int j => i == j
  | .str x, .str y => x == y
  | .tup xs, .tup ys => D.eqvL xs ys
  | _, _ => false
def D.eqvL : List D → List D → Bool
  | [], [] => true
  | x :: xs, y :: ys => x.eqv y && D.eqvL xs ys
  | _, _ => false
end

/-! ### what stands around: the calls of the text's own defs, how often a while turns, the constant dicts, how many calls may stand in one another -/
structure Ctx where
  call : Nat → List D → Mem → Out
  wf : Nat
  lev : Nat
abbrev SE := Ctx → Env → Mem → Out
abbrev SS := Ctx → Env → Mem → SOut

def Out.bind (o : Out) (f : D → Mem → Out) : Out :=
  match o with
  | .ok d M => f d M
  | .exc x M => .exc x M
  | .bad => .bad

/-- what is left of the memory behind a value: what it does not need is forgotten -/
def gcM (k : Nat) (d : D) (M : Mem) : D × Mem :=
  if d.lt k then (d, M.take k) else
  match d with
  | .loc n => match M[n]? with
    | some o => if o.lt k then (.loc k, M.take k ++ [o]) else (d, M)
    | none => (d, M)
  | _ => (d, M)
def Out.gc (k : Nat) : Out → Out
  | .ok d M => .ok (gcM k d M).1 (gcM k d M).2
  | o => o

/-! ### expressions -/
def sVar (i : Nat) : SE := fun _ ρ M => match ρ[i]? with
  | some (some d) => .ok d M
  | _ => .bad
def sC (d : D) : SE := fun _ _ M => .ok d M
def sNil : SE := fun _ _ M => .ok (.tup []) M
def consD (d ds : D) (M : Mem) : Out := match ds with
  | .tup l => .ok (.tup (d :: l)) M
  | _ => .bad
/-- a row of values, from the left: a tuple -/
def sCons (a r : SE) : SE := fun κ ρ M => (a κ ρ M).bind fun d M => (r κ ρ M).bind fun ds M => consD d ds M
def rowD (f : List D → Mem → Out) (ds : D) (M : Mem) : Out := match ds with
  | .tup l => f l M
  | _ => .bad
def sRow (f : List D → Mem → Out) (as : SE) : SE := fun κ ρ M => (as κ ρ M).bind (rowD f)
def alloc (o : MO) (M : Mem) : Out := .ok (.loc M.length) (M ++ [o])
def sTup (as : SE) : SE := sRow (fun l M => if l.length ≤ 16777216 then .ok (.tup l) M else .bad) as
def sLst (as : SE) : SE := sRow (fun l M => if l.length ≤ 16777216 then alloc (.lst l) M else .bad) as
def sCall (f : Nat) (dfl : List D) (as : SE) : SE := fun κ ρ M => (as κ ρ M).bind (rowD fun l M => κ.call f (l ++ dfl) M)
def sCallV (i : Nat) (as : SE) : SE := fun κ ρ M => match ρ[i]? with
  | some (some (.fn f)) => (as κ ρ M).bind (rowD fun l M => κ.call f l M)
  | _ => .bad
def isLst (d : D) (M : Mem) : Bool := match d with
  | .loc n => (rdL M n).isSome
  | _ => false
/-- o.m(..), o a list -/
def sMeth (f : List D → Mem → Out) (a as : SE) : SE := fun κ ρ M => (a κ ρ M).bind fun d M1 => if isLst d M1 then (as κ ρ M1).bind (rowD fun l M2 => f (d :: l) M2) else .bad
def sBin (f : D → D → Mem → Out) (a b : SE) : SE := fun κ ρ M => (a κ ρ M).bind fun x M => (b κ ρ M).bind fun y M => f x y M
def sUn (f : D → Mem → Out) (a : SE) : SE := fun κ ρ M => (a κ ρ M).bind f
def sIf (c a b : SE) : SE := fun κ ρ M => (c κ ρ M).bind fun x M => match x with
  | .bl true => a κ ρ M
  | .bl false => b κ ρ M
  | _ => .bad
/-- a and b, a or b: a a truth value -/
def sAnd (a b : SE) : SE := fun κ ρ M => (a κ ρ M).bind fun x M => match x with
  | .bl true => b κ ρ M
  | .bl false => .ok (.bl false) M
  | _ => .bad
def sOr (a b : SE) : SE := fun κ ρ M => (a κ ρ M).bind fun x M => match x with
  | .bl true => .ok (.bl true) M
  | .bl false => b κ ρ M
  | _ => .bad
def dNot : D → Mem → Out
  | .bl b, M => .ok (.bl (!b)) M
  | _, _ => .bad

/-! ### operators -/
def dAdd : D → D → Mem → Out
  | .int i, .int j, M => .ok (.int (i + j)) M
  | .str s, .str t, M => if s.length + t.length ≤ 16777216 then .ok (.str (s ++ t)) M else .bad
  | .tup xs, .tup ys, M => if xs.length + ys.length ≤ 16777216 then .ok (.tup (xs ++ ys)) M else .bad
  | .loc a, .loc b, M => match ownL M a, ownL M b with
    | some xs, some ys => if xs.length + ys.length ≤ 16777216 then alloc (.lst (xs ++ ys)) M else .bad
    | _, _ => .bad
  | _, _, _ => .bad
def dSub : D → D → Mem → Out
  | .int i, .int j, M => .ok (.int (i - j)) M
  | _, _, _ => .bad
def dMul : D → D → Mem → Out
  | .int i, .int j, M => if (-(2 ^ 64) < i ∧ i < 2 ^ 64) ∨ (-(2 ^ 64) < j ∧ j < 2 ^ 64) then .ok (.int (i * j)) M else .bad
  | .tup xs, .int j, M => if xs.length * j.toNat ≤ 16777216 ∧ -(2 ^ 62) < j ∧ j < 2 ^ 62 then .ok (.tup (List.replicate j.toNat xs).flatten) M else .bad
  | .str xs, .int j, M => if xs.length * j.toNat ≤ 16777216 ∧ -(2 ^ 62) < j ∧ j < 2 ^ 62 then .ok (.str (List.replicate j.toNat xs).flatten) M else .bad
  | .loc a, .int j, M => match ownL M a with
    | some xs => if xs.length * j.toNat ≤ 16777216 ∧ -(2 ^ 62) < j ∧ j < 2 ^ 62 then alloc (.lst (List.replicate j.toNat xs).flatten) M else .bad
    | _ => .bad
  | _, _, _ => .bad
def dFdiv : D → D → Mem → Out
  | .int i, .int j, M => if 0 < j ∧ j < 1073741824 then .ok (.int (i / j)) M else .bad
  | _, _, _ => .bad
def dMod : D → D → Mem → Out
  | .int i, .int j, M => if 0 < j then .ok (.int (i % j)) M else .bad
  | _, _, _ => .bad
def dNeg : D → Mem → Out
  | .int i, M => .ok (.int (-i)) M
  | _, _ => .bad
/-- ==: of data without places; of two lists of such; a list and anything else differ -/
def dEq : D → D → Mem → Option Bool
  | .loc a, .loc b, M => match rdL M a, rdL M b with
    | some xs, some ys => if D.flatL xs && D.flatL ys && decide (min (D.depL xs) (D.depL ys) ≤ 150) then some (D.eqvL xs ys) else none
    | _, _ => none
  | .loc a, y, M => match rdL M a with
    | some xs => if D.flatL xs && y.flat && decide (min (D.depL xs) y.dep ≤ 150) then some false else none
    | _ => none
  | x, .loc b, M => match rdL M b with
    | some ys => if x.flat && D.flatL ys && decide (min x.dep (D.depL ys) ≤ 150) then some false else none
    | _ => none
  | x, y, _ => if x.flat && y.flat && decide (min x.dep y.dep ≤ 150) then some (x.eqv y) else none
def dEqB : D → D → Mem → Out := fun x y M => match dEq x y M with
  | some b => .ok (.bl b) M
  | none => .bad
def dNeB : D → D → Mem → Out := fun x y M => match dEq x y M with
  | some b => .ok (.bl !b) M
  | none => .bad
def dLt : D → D → Mem → Out
  | .int i, .int j, M => .ok (.bl (decide (i < j))) M
  | _, _, _ => .bad
def dLe : D → D → Mem → Out
  | .int i, .int j, M => .ok (.bl (decide (i ≤ j))) M
  | _, _, _ => .bad
def dGt : D → D → Mem → Out
  | .int i, .int j, M => .ok (.bl (decide (j < i))) M
  | _, _, _ => .bad
def dGe : D → D → Mem → Out
  | .int i, .int j, M => .ok (.bl (decide (j ≤ i))) M
  | _, _, _ => .bad
def dIsN : D → D → Mem → Out
  | .non, .non, M => .ok (.bl true) M
  | _, .non, M => .ok (.bl false) M
  | _, _, _ => .bad
def dNotN : D → D → Mem → Out
  | .non, .non, M => .ok (.bl false) M
  | _, .non, M => .ok (.bl true) M
  | _, _, _ => .bad
/-- a < b < c -/
def sChain (f g : D → D → Mem → Out) (a b c : SE) : SE := fun κ ρ M => (a κ ρ M).bind fun x M => (b κ ρ M).bind fun y M => (f x y M).bind fun r M => match r with
  | .bl true => (c κ ρ M).bind fun z M => g y z M
  | .bl false => .ok (.bl false) M
  | _ => .bad
/-- the constant dicts of the module: keys are texts; of each text that is asked, what it holds -/
abbrev Tb := Nat → List (List Nat × Option D)
def kget (T : Tb) (n : Nat) (s : List Nat) : Option (Option D) := (T n).lookup s
def dIn (T : Tb) : D → D → Mem → Option Bool
  | .str [c], .str t, _ => some (decide (c ∈ t))
  | x, .tup ys, _ => if x.flat && D.flatL ys && decide (D.depL ys ≤ 150) then some (ys.any fun z => z.eqv x) else none
  | .str s, .kd n, _ => (kget T n s).map (·.isSome)
  | x, .loc a, M => match rdL M a, rdK M a with
    | some ys, _ => if x.flat && D.flatL ys && decide (D.depL ys ≤ 150) then some (ys.any fun z => z.eqv x) else none
    | none, some kvs => match x with
      | .str _ => some (kvs.any fun p => p.1.eqv x)
      | .int _ => some (kvs.any fun p => p.1.eqv x)
      | _ => none
    | none, none => none
  | _, _, _ => none
def dInB (T : Tb) : D → D → Mem → Out := fun x y M => match dIn T x y M with
  | some b => .ok (.bl b) M
  | none => .bad
def dNotInB (T : Tb) : D → D → Mem → Out := fun x y M => match dIn T x y M with
  | some b => .ok (.bl !b) M
  | none => .bad
def ofO : Option D → Mem → Out
  | some d, M => .ok d M
  | none, _ => .bad
def dIx (T : Tb) : D → D → Mem → Out
  | .tup xs, .int i, M => ofO (L2.atI xs i) M
  | .str s, .int i, M => if s.length ≤ 16777216 then ofO ((L2.atI s i).map fun c => .str [c]) M else .bad
  | .kd n, .str s, M => ofO ((kget T n s).bind id) M
  | .loc a, .int i, M => match rdL M a, rdK M a with
    | some xs, _ => ofO (L2.atI xs i) M
    | none, some kvs => ofO ((kvs.find? fun p => p.1.eqv (.int i)).map (·.2)) M
    | none, none => .bad
  | .loc a, .str s, M => match rdK M a with
    | some kvs => ofO ((kvs.find? fun p => p.1.eqv (.str s)).map (·.2)) M
    | none => .bad
  | _, _, _ => .bad
def cut {α : Type} (xs : List α) (lo hi : Option Int) : List α := (xs.drop (HT.sIx xs.length 0 lo)).take (HT.sIx xs.length xs.length hi - HT.sIx xs.length 0 lo)
def dCut (lo hi : Option Int) : D → Mem → Out
  | .tup xs, M => .ok (.tup (cut xs lo hi)) M
  | .loc a, M => match rdL M a with
    | some xs => alloc (.lst (cut xs lo hi)) M
    | none => .bad
  | .str s, M => if s.length ≤ 16777216 then .ok (.str (cut s lo hi)) M else .bad
  | .kst ns, M => alloc (.lst ((cut ns lo hi).map .int)) M
  | _, _ => .bad
/-- a bound of a slice -/
def dInt : D → Option Int
  | .int i => some i
  | _ => none
def sSlice (a : SE) (lo hi : Option SE) : SE := fun κ ρ M => (a κ ρ M).bind fun x M =>
  match lo, hi with
  | none, none => dCut none none x M
  | some l, none => (l κ ρ M).bind fun i M => match i with | .int i => dCut (some i) none x M | _ => .bad
  | none, some h => (h κ ρ M).bind fun j M => match j with | .int j => dCut none (some j) x M | _ => .bad
  | some l, some h => (l κ ρ M).bind fun i M => match i with
    | .int i => ((h κ ρ M).bind fun j M => match j with | .int j => dCut (some i) (some j) x M | _ => .bad)
    | _ => .bad
/-- {} -/
def sDict : SE := fun _ _ M => alloc (.dic []) M
def dRev : D → Mem → Out
  | .tup xs, M => .ok (.tup xs.reverse) M
  | .loc a, M => match rdL M a with
    | some xs => alloc (.lst xs.reverse) M
    | none => .bad
  | _, _ => .bad

/-! ### built-ins -/
def dLen (T : Tb) : List D → Mem → Out
  | [.tup xs], M => .ok (.int xs.length) M
  | [.str s], M => if s.length ≤ 16777216 then .ok (.int s.length) M else .bad
  | [.loc a], M => match rdL M a, rdK M a with
    | some xs, _ => .ok (.int xs.length) M
    | none, some kvs => .ok (.int kvs.length) M
    | none, none => .bad
  | _, _ => .bad
inductive Ty where
  | int | bool | str | tuple | list | dict | own (c : Nat)
/-- isinstance -/
def isiB (t : Ty) (d : D) (M : Mem) : Option Bool := match d with
  | .non => some false
  | .bl _ => some (match t with | .int => true | .bool => true | _ => false)
  | .int _ => some (match t with | .int => true | _ => false)
  | .str _ => some (match t with | .str => true | _ => false)
  | .tup _ => some (match t with | .tuple => true | _ => false)
  | .loc a => match M[a]? with
    | some (.lst _) => some (match t with | .list => true | _ => false)
    | some (.lck _) => some (match t with | .list => true | _ => false)
    | some (.dic _) => some (match t with | .dict => true | _ => false)
    | some (.ins c _) => (match t with | .own c' => if c = c' then some true else none | _ => none)
    | none => none
  | .fn _ => none
  | .kd _ => none
  | .kst _ => none
def dIsi (t : Ty) : D → Mem → Out := fun x M => match isiB t x M with
  | some b => .ok (.bl b) M
  | none => .bad
def dTuple : List D → Mem → Out
  | [.tup xs], M => .ok (.tup xs) M
  | [.loc a], M => match rdL M a with
    | some xs => .ok (.tup xs) M
    | none => .bad
  | _, _ => .bad
def dList : List D → Mem → Out
  | [.tup xs], M => alloc (.lst xs) M
  | [.loc a], M => match rdL M a with
    | some xs => alloc (.lst xs) M
    | none => .bad
  | _, _ => .bad
def intsOf : List D → Option (List Int)
  | [] => some []
  | .int i :: r => (intsOf r).map (i :: ·)
  | _ :: _ => none
def blsOf : List D → Option (List Bool)
  | [] => some []
  | .bl b :: r => (blsOf r).map (b :: ·)
  | _ :: _ => none
def strsOf : List D → Option (List (List Nat))
  | [] => some []
  | .str s :: r => (strsOf r).map (s :: ·)
  | _ :: _ => none
def lstAt (d : D) (M : Mem) : Option (List D) := match d with
  | .loc a => rdL M a
  | _ => none
def one (f : D → Mem → Out) : List D → Mem → Out
  | [d], M => f d M
  | _, _ => .bad
def dSum : D → Mem → Out := fun d M => match (lstAt d M).bind intsOf with
  | some ns => .ok (.int ns.sum) M
  | none => .bad
def maxI : List Int → Int
  | [] => 0
  | [n] => n
  | n :: r => max n (maxI r)
def minI : List Int → Int
  | [] => 0
  | [n] => n
  | n :: r => min n (minI r)
def dMax1 : D → Mem → Out := fun d M => match (lstAt d M).bind intsOf with
  | some (n :: r) => .ok (.int (maxI (n :: r))) M
  | _ => .bad
def dMin1 : D → Mem → Out := fun d M => match (lstAt d M).bind intsOf with
  | some (n :: r) => .ok (.int (minI (n :: r))) M
  | _ => .bad
def dMax : List D → Mem → Out
  | [.int i, .int j], M => .ok (.int (if j > i then j else i)) M
  | [d], M => dMax1 d M
  | _, _ => .bad
def dMin : List D → Mem → Out
  | [.int i, .int j], M => .ok (.int (if j < i then j else i)) M
  | [d], M => dMin1 d M
  | _, _ => .bad
def dAll : D → Mem → Out := fun d M => match (lstAt d M).bind blsOf with
  | some bs => .ok (.bl (bs.all id)) M
  | none => .bad
def dAny : D → Mem → Out := fun d M => match (lstAt d M).bind blsOf with
  | some bs => .ok (.bl (bs.any id)) M
  | none => .bad
def dAbs : D → Mem → Out
  | .int i, M => .ok (.int (if i < 0 then -i else i)) M
  | _, _ => .bad
def dToInt : D → Mem → Out
  | .int i, M => .ok (.int i) M
  | .bl b, M => .ok (.int (if b then 1 else 0)) M
  | _, _ => .bad
def insI (x : Int) : List Int → List Int
  | [] => [x]
  | y :: r => if x ≤ y then x :: y :: r else y :: insI x r
def sortI : List Int → List Int
  | [] => []
  | x :: r => insI x (sortI r)
def leL : List Nat → List Nat → Bool
  | [], _ => true
  | _ :: _, [] => false
  | a :: r, b :: s => if a < b then true else if b < a then false else leL r s
def insS (x : List Nat) : List (List Nat) → List (List Nat)
  | [] => [x]
  | y :: r => if leL x y then x :: y :: r else y :: insS x r
def sortS : List (List Nat) → List (List Nat)
  | [] => []
  | x :: r => insS x (sortS r)
/-- sorted of a list or of a dict's keys: numbers; texts (fewer than 64) -/
def sortD (ks : List D) (M : Mem) : Out := match intsOf ks, strsOf ks with
  | some ns, _ => alloc (.lst ((sortI ns).map .int)) M
  | none, some ss => if ss.length < 64 then alloc (.lst ((sortS ss).map .str)) M else .bad
  | none, none => .bad
def dSorted : D → Mem → Out := fun d M => match d with
  | .loc a => match rdL M a, rdK M a with
    | some xs, _ => sortD xs M
    | none, some kvs => if kvs.length < 64 then sortD (kvs.map (·.1)) M else .bad
    | none, none => .bad
  | _ => .bad

/-! ### walks -/
def D.items : D → Mem → Option (List D)
  | .tup xs, _ => some xs
  | .loc a, M => rdL M a
  | .str s, _ => some (s.map fun c => .str [c])
  | _, _ => none
/-- a walk: the items, the place of the list that is walked (locked meanwhile), the memory -/
inductive IOut where
  | ok (xs : List D) (src : Option Nat) (M : Mem) | exc (x : Exn) (M : Mem) | bad
abbrev SI := Ctx → Env → Mem → IOut
def lockAt (a : Nat) (M : Mem) : Option Nat × Mem := match M[a]? with
  | some (.lst xs) => (some a, M.set a (.lck xs))
  | _ => (none, M)
def lockD (k : Nat) (M : Mem) : D → Option Nat × Mem
  | .loc a => if a < k then lockAt a M else (none, M)
  | _ => (none, M)
def unlock : Option Nat → Mem → Option Mem
  | none, M => some M
  | some a, M => match M[a]? with
    | some (.lck xs) => some (M.set a (.lst xs))
    | _ => none
def iGo (f : D → Nat → Mem → IOut) (a : SE) : SI := fun κ ρ M => match a κ ρ M with
  | .ok d M' => f d M.length M'
  | .exc x M' => .exc x M'
  | .bad => .bad
/-- for x in a: a tuple, a text, a list. A list that is new is walked as it is and forgotten -/
def ofF (d : D) (k : Nat) (M' : Mem) : IOut := match d.items M' with
  | some xs => if D.ltL k xs then .ok xs (lockD k (M'.take k) d).1 (lockD k (M'.take k) d).2 else .ok xs (lockD M'.length M' d).1 (lockD M'.length M' d).2
  | none => .bad
def iOf (a : SE) : SI := iGo ofF a
def rangeD (a c : Int) (n : Nat) : List D := (List.range n).map fun i : Nat => D.int (a + (i : Int) * c)
def r1F (d : D) (k : Nat) (M' : Mem) : IOut := match d with
  | .tup [.int j] => if -(2 ^ 62) ≤ j ∧ j < 2 ^ 62 then .ok (rangeD 0 1 j.toNat) none (M'.take k) else .bad
  | _ => .bad
def r2F (d : D) (k : Nat) (M' : Mem) : IOut := match d with
  | .tup [.int i, .int j] => if -(2 ^ 62) ≤ i ∧ i < 2 ^ 62 ∧ -(2 ^ 62) ≤ j ∧ j < 2 ^ 62 then .ok (rangeD i 1 (j - i).toNat) none (M'.take k) else .bad
  | _ => .bad
def r3F (d : D) (k : Nat) (M' : Mem) : IOut := match d with
  | .tup [.int i, .int j, .int c] => if c = -1 ∧ -(2 ^ 60) ≤ i ∧ i < 2 ^ 60 ∧ -(2 ^ 60) ≤ j ∧ j < 2 ^ 60 then .ok (rangeD i (-1) (i - j).toNat) none (M'.take k) else .bad
  | _ => .bad
def iR1 (as : SE) : SI := iGo r1F as
def iR2 (as : SE) : SI := iGo r2F as
def iR3 (as : SE) : SI := iGo r3F as
def zipD : List D → List D → List D
  | x :: xs, y :: ys => .tup [x, y] :: zipD xs ys
  | _, _ => []
def zipF (d : D) (k : Nat) (M' : Mem) : IOut := match d with
  | .tup [.tup xs, .tup ys] => if D.ltL k xs && D.ltL k ys then .ok (zipD xs ys) none (M'.take k) else .bad
  | .tup [.loc a, .loc b] => match rdL M' a, rdL M' b with
    | some xs, some ys => if D.ltL k xs && D.ltL k ys && decide (k ≤ a) && decide (k ≤ b) then .ok (zipD xs ys) none (M'.take k) else .bad
    | _, _ => .bad
  | _ => .bad
def iZip (as : SE) : SI := iGo zipF as
def enumD (i : Nat) : List D → List D
  | [] => []
  | x :: xs => .tup [.int (i : Int), x] :: enumD (i + 1) xs

/-! ### targets -/
inductive Tg where
  | name (i : Nat) | tup (is : List Nat)
def setAll : List Nat → List D → Env → Option Env
  | [], [], ρ => some ρ
  | i :: is, d :: ds, ρ => setAll is ds (ρ.set i (some d))
  | _, _, _ => none
def Tg.set (t : Tg) (d : D) (ρ : Env) : Option Env := match t with
  | .name i => some (ρ.set i (some d))
  | .tup is => match d with
    | .tup ds => setAll is ds ρ
    | _ => none
def wipeE (ρ : Env) : List Nat → Env
  | [] => ρ
  | v :: vs => (wipeE ρ vs).set v none

/-! ### comprehensions -/
inductive COut where
  | ok (ds : List D) (M : Mem) | bad
def condOk (cond : Option SE) (κ : Ctx) (ρ : Env) (M : Mem) : Out := match cond with
  | none => .ok (.bl true) M
  | some c => c κ ρ M
def compGo (κ : Ctx) (ρ : Env) (t : Tg) (cond : Option SE) (elt : SE) : List D → List D → Mem → COut
  | [], acc, M => .ok acc M
  | x :: xs, acc, M =>
    match t.set x ρ with
    | none => .bad
    | some ρ' => match condOk cond κ ρ' M with
      | .ok (.bl true) M1 => match elt κ ρ' (M1.take M.length) with
        | .ok d M2 => if acc.length < 16777216 then compGo κ ρ t cond elt xs (acc ++ [(gcM M.length d M2).1]) (gcM M.length d M2).2 else .bad
        | _ => .bad
      | .ok (.bl false) M1 => compGo κ ρ t cond elt xs acc (M1.take M.length)
      | _ => .bad
/-- [elt for t in it if cond] -/
def sComp (own : List Nat) (t : Tg) (it : SI) (cond : Option SE) (elt : SE) : SE := fun κ ρ M => match it κ ρ M with
  | .ok xs src M1 => match compGo κ (wipeE ρ own) t cond elt xs [] M1 with
    | .ok ds M2 => match unlock src M2 with
      | some M3 => alloc (.lst ds) M3
      | none => .bad
    | .bad => .bad
  | .exc x M' => .exc x M'
  | .bad => .bad

/-! ### statements -/
def SOut.bind (o : SOut) (f : Env → Mem → SOut) : SOut := match o with
  | .nx ρ M => f ρ M
  | o => o
def ofOut (ρ : Env) (o : Out) (f : D → Mem → SOut) : SOut := match o with
  | .ok d M => f d M
  | .exc x M => .exc x ρ M
  | .bad => .bad
def pNil : SS := fun _ ρ M => .nx ρ M
def pSeq (a b : SS) : SS := fun κ ρ M => (a κ ρ M).bind (b κ)
def pIf (c : SE) (a b : SS) : SS := fun κ ρ M => ofOut ρ (c κ ρ M) fun x M' => match x with
  | .bl true => a κ ρ (M'.take M.length)
  | .bl false => b κ ρ (M'.take M.length)
  | _ => .bad
def pSet (i : Nat) (e : SE) : SS := fun κ ρ M => ofOut ρ (e κ ρ M) fun d M' => .nx (ρ.set i (some (gcM M.length d M').1)) (gcM M.length d M').2
def pTup (is : List Nat) (e : SE) : SS := fun κ ρ M => ofOut ρ (e κ ρ M) fun d M' => match (Tg.tup is).set (gcM M.length d M').1 ρ with
  | some ρ' => .nx ρ' (gcM M.length d M').2
  | none => .bad
def pAug (f : D → D → Mem → Out) (i : Nat) (e : SE) : SS := fun κ ρ M => match ρ[i]? with
  | some (some x) => ofOut ρ (e κ ρ M) fun y M1 => ofOut ρ (f x y M1) fun d M' => .nx (ρ.set i (some (gcM M.length d M').1)) (gcM M.length d M').2
  | _ => .bad
def pRet (e : SE) : SS := fun κ ρ M => ofOut ρ (e κ ρ M) fun d M' => .rt d M'
def pDrop (e : SE) : SS := fun κ ρ M => ofOut ρ (e κ ρ M) fun _ M' => .nx ρ (M'.take M.length)
def pBk : SS := fun _ ρ M => .bk ρ M
def pCt : SS := fun _ ρ M => .ct ρ M
def forGo (κ : Ctx) (t : Tg) (body : SS) : List D → Env → Mem → SOut
  | [], ρ, M => .nx ρ M
  | x :: xs, ρ, M => match t.set x ρ with
    | none => .bad
    | some ρ1 => match body κ ρ1 M with
      | .nx ρ2 M2 => forGo κ t body xs ρ2 M2
      | .ct ρ2 M2 => forGo κ t body xs ρ2 M2
      | .bk ρ2 M2 => .nx ρ2 M2
      | o => o
def unlockS (src : Option Nat) : SOut → SOut
  | .nx ρ M => match unlock src M with | some M' => .nx ρ M' | none => .bad
  | .rt d M => match unlock src M with | some M' => .rt d M' | none => .bad
  | .bk ρ M => match unlock src M with | some M' => .bk ρ M' | none => .bad
  | .ct ρ M => match unlock src M with | some M' => .ct ρ M' | none => .bad
  | .exc x ρ M => match unlock src M with | some M' => .exc x ρ M' | none => .bad
  | .bad => .bad
def pFor (t : Tg) (it : SI) (body : SS) : SS := fun κ ρ M => match it κ ρ M with
  | .ok xs src M1 => unlockS src (forGo κ t body xs ρ M1)
  | .exc x M' => .exc x ρ M'
  | .bad => .bad
def whileGo (κ : Ctx) (c : SE) (body : SS) : Nat → Env → Mem → SOut
  | 0, _, _ => .bad
  | n + 1, ρ, M => ofOut ρ (c κ ρ M) fun x M' => match x with
    | .bl true => match body κ ρ (M'.take M.length) with
      | .nx ρ2 M2 => whileGo κ c body n ρ2 M2
      | .ct ρ2 M2 => whileGo κ c body n ρ2 M2
      | .bk ρ2 M2 => .nx ρ2 M2
      | o => o
    | .bl false => .nx ρ (M'.take M.length)
    | _ => .bad
def pWhile (c : SE) (body : SS) : SS := fun κ ρ M => whileGo κ c body κ.wf ρ M
/-- xs.append(e), xs.extend(ys), xs[i] = e: what is stored has no place of the memory in it that is not older -/
def setMO (a : Nat) (o : MO) (M : Mem) : Mem := M.set a o
def dAppend : List D → Mem → Out
  | [.loc a, d], M => match M[a]? with
    | some (.lst xs) => if d.lt a && decide (xs.length < 16777216) then .ok .non (M.set a (.lst (xs ++ [d]))) else .bad
    | _ => .bad
  | _, _ => .bad
def dExtend : List D → Mem → Out
  | [.loc a, .loc b], M => match M[a]?, ownL M b with
    | some (.lst xs), some ys => if D.ltL a ys && decide (xs.length + ys.length ≤ 16777216) then .ok .non (M.set a (.lst (xs ++ ys))) else .bad
    | _, _ => .bad
  | _, _ => .bad
def dPop : List D → Mem → Out
  | [.loc a], M => match M[a]? with
    | some (.lst xs) => match xs.getLast? with
      | some d => .ok d (M.set a (.lst xs.dropLast))
      | none => .bad
    | _ => .bad
  | _, _ => .bad
def putK (k v : D) (kvs : List (D × D)) : List (D × D) := if kvs.any fun p => p.1.eqv k then kvs.map fun p => if p.1.eqv k then (k, v) else p else kvs ++ [(k, v)]
def isKey : D → Bool
  | .int _ => true
  | .str _ => true
  | _ => false
/-- o[i] = v -/
def dPut (o i v : D) (M : Mem) : Option Mem := match o with
  | .loc a => match M[a]? with
    | some (.lst xs) => match i with
      | .int k => match L2.ixN xs.length k with
        | some j => if v.lt a then some (M.set a (.lst (xs.set j v))) else none
        | none => none
      | _ => none
    | some (.dic kvs) => if isKey i && v.lt a && decide (kvs.length < 16777216) then some (M.set a (.dic (putK i v kvs))) else none
    | _ => none
  | _ => none
def pPut (o i e : SE) : SS := fun κ ρ M => ofOut ρ (e κ ρ M) fun v M1 => ofOut ρ (o κ ρ M1) fun x M2 => ofOut ρ (i κ ρ M2) fun k M3 => match dPut x k v M3 with
  | some M4 => .nx ρ (M4.take M.length)
  | none => .bad
/-- raise C('..'), C without own __init__ -/
def pRaise0 (c : Nat) : SS := fun _ ρ M => .exc ⟨c, []⟩ ρ M
/-- raise C(..): d0 the defaults -/
def pRaise (c : Nat) (fs : List Nat) (d0 : List D) (as : SE) : SS := fun κ ρ M => if 2 ≤ κ.lev then ofOut ρ (as κ ρ M) fun ds M' => match ds with
  | .tup l => if (l ++ d0).length = fs.length ∧ fs.length ≤ 9 ∧ D.ltL 0 (l ++ d0) = true then .exc ⟨c, fs.zip (l ++ d0)⟩ ρ M' else .bad
  | _ => .bad else .bad
/-- a clause: the classes that it takes, those that it lets by, its name's slot, what it returns -/
structure Hd where
  yes : List Nat
  no : List Nat
  slot : Option Nat
  val : Exn → Option D
def tryGo : List Hd → Exn → Env → Mem → SOut
  | [], x, ρ, M => .exc x ρ M
  | h :: r, x, ρ, M => if h.yes.contains x.cls then
      (if (match h.slot with | some i => decide (i < ρ.length) | none => true) then (match h.val x with | some d => .rt d M | none => .bad) else .bad)
    else if h.no.contains x.cls then tryGo r x ρ M else .bad
def pTry (body : SS) (hs : List Hd) : SS := fun κ ρ M => match body κ ρ M with
  | .exc x ρ' M' => tryGo hs x ρ' M'
  | o => o
/-- a field of the exception in hand -/
def xGet (c f : Nat) (x : Exn) : Option D := if x.cls = c then x.fs.lookup f else none
def xC (d : D) (_ : Exn) : Option D := some d
def xNil (_ : Exn) : Option (List D) := some []
def xCons (g : Exn → Option D) (r : Exn → Option (List D)) (x : Exn) : Option (List D) := match g x, r x with
  | some d, some ds => some (d :: ds)
  | _, _ => none
def xTup (r : Exn → Option (List D)) (x : Exn) : Option D := match r x with
  | some ds => if ds.length ≤ 9 then some (.tup ds) else none
  | none => none

/-! ### a def -/
structure Def where
  np : Nat
  ns : Nat
  body : SS
def startE (n : Nat) (ds : List D) : Env := ds.map some ++ List.replicate (n - ds.length) none
def runDef (f : Def) (κ : Ctx) (ds : List D) (M : Mem) : Out :=
  if ds.length = f.np then
    match f.body κ (startE f.ns ds) M with
    | .rt d M' => .ok (gcM M.length d M').1 (gcM M.length d M').2
    | .nx _ M' => .ok .non (M'.take M.length)
    | .exc x _ M' => .exc x (M'.take M.length)
    | _ => .bad
  else .bad
/-- the calls with n levels below -/
def callN (P : Nat → Option Def) (wf : Nat) : Nat → Nat → List D → Mem → Out
  | 0 => fun _ _ _ => .bad
  | n + 1 => fun f ds M => match P f with
    | some d => runDef d ⟨callN P wf n, wf, n⟩ ds M
    | none => .bad
def ctxN (P : Nat → Option Def) (wf n : Nat) : Ctx := ⟨callN P wf n, wf, n⟩
end PK
end

section
set_option Elab.async false
set_option linter.all false
set_option maxHeartbeats 2000000
/-! PKb: how data and memory stand in the abstract heap; what a heap keeps. -/
namespace PK
open PySem L2

/-- where the text's own things stand -/
structure Lk where
  df : Nat → List D
  fa : Nat → Addr
  ca : Nat → Addr
  kd : Nat → Addr
  fn : Nat → Str

mutual
def RepD (K : PySem.W.Frag) (L : Lk) (ads : Nat → Addr) (k : Nat) (H : Hp) : D → V → Prop
  | .non, v => v = .non
  | .bl b, v => v = .bl b
  | .int i, v => v = .int i
  | .str s, v => v = .str ⟨s.toArray⟩
  | .tup xs, v => ∃ a vs, v = .ref a ∧ SqT K H a vs ∧ RepL K L ads k H xs vs
  | .loc n, v => n < k ∧ v = .ref (ads n)
  | .fn f, v => v = .ref (L.fa f)
  | .kd n, v => v = .ref (L.kd n)
  | .kst ns, v => ∃ a, v = .ref a ∧ ((∃ ob, H a = some (.frz ob (.lst (ns.map V.int)))) ∨ (∃ (o : Obj) (its : Array Value) (n : Nat), K.lookup a = some o ∧ o.cls = .type "list" ∧ o.dict = none ∧ o.data = .seq its n ∧ its.size ≤ sizeLine ∧ Vals (ns.map V.int) its.toList))
def RepL (K : PySem.W.Frag) (L : Lk) (ads : Nat → Addr) (k : Nat) (H : Hp) : List D → List V → Prop
  | [], vs => vs = []
  | d :: ds, vs => ∃ v r, vs = v :: r ∧ RepD K L ads k H d v ∧ RepL K L ads k H ds r
end
/-- a key of a dict -/
def keyV : D → Option Key
  | .int i => some (.inl i)
  | .str s => some (.inr ⟨s.toArray⟩)
  | _ => none
def RepO (K : PySem.W.Frag) (L : Lk) (ads : Nat → Addr) (k : Nat) (H : Hp) (a : Addr) : MO → Prop
  | .lst xs => ∃ vs, H a = some (.lst vs) ∧ RepL K L ads k H xs vs
  | .lck xs => ∃ vs, H a = some (.lst vs) ∧ RepL K L ads k H xs vs
  | .dic kvs => ∃ ws, H a = some (.dK ws) ∧ Paired (fun (p : D × D) (q : Key × V) => keyV p.1 = some q.1 ∧ RepD K L ads k H p.2 q.2) kvs ws
  | .ins c fs => ∃ dx ws, H a = some (.ins (L.ca c) dx ws) ∧ Paired (fun (p : Nat × D) (q : Str × V) => q.1 = L.fn p.1 ∧ RepD K L ads k H p.2 q.2) fs ws
structure RepM (K : PySem.W.Frag) (L : Lk) (ads : Nat → Addr) (H : Hp) (M : Mem) : Prop where
  at_ : ∀ n o, M[n]? = some o → RepO K L ads n H (ads n) o
  inj : ∀ i j, i < M.length → j < M.length → ads i = ads j → i = j
structure After (ads : Nat → Addr) (M : Mem) (H : Hp) (ads' : Nat → Addr) (M' : Mem) (H' : Hp) : Prop where
  ext : ∀ a o, H a = some o → (∀ n, n < M.length → ads n ≠ a) → H' a = some o
  agr : ∀ n, n < M.length → ads' n = ads n
  len : M.length ≤ M'.length
  fresh : ∀ n, M.length ≤ n → n < M'.length → H (ads' n) = none
  fixd : ∀ n o, M[n]? = some o → o.fix = true → M'[n]? = some o ∧ H' (ads n) = H (ads n)
def RepE (K : PySem.W.Frag) (L : Lk) (ads : Nat → Addr) (k : Nat) (H : Hp) (ρ : Env) (σ : St) : Prop :=
  ρ.length = σ.length ∧ ∀ (i : Nat) (d : D), ρ[i]? = some (some d) → ∃ v, σ[i]? = some (some v) ∧ RepD K L ads k H d v
def RepX (K : PySem.W.Frag) (L : Lk) (H : Hp) (x : Exn) (c : Value) (d : Option Addr) : Prop :=
  c = .ref (L.ca x.cls) ∧ ((x.fs = [] ∧ d = none) ∨ ∃ dx ws, d = some dx ∧ H dx = some (.xd ws) ∧ ∀ p ∈ x.fs, ∃ v, ws.lookup (L.fn p.1) = some v ∧ RepD K L (fun _ => 0) 0 H p.2 v)

variable {K : PySem.W.Frag} {L : Lk} {ads ads' ads1 ads2 : Nat → Addr} {k k' : Nat} {H H' H1 H2 : Hp} {M M' M1 M2 : Mem} {d : D} {v : V} {xs : List D} {vs : List V}

/-! ### lists -/
theorem RepL.length : ∀ {xs : List D} {vs : List V}, RepL K L ads k H xs vs → xs.length = vs.length
  | [], vs, h => by simp only [RepL] at h; subst h; rfl
  | d :: ds, vs, h => by
    simp only [RepL] at h
    obtain ⟨v, r, rfl, _, h2⟩ := h
    simp [RepL.length h2]
theorem RepL.get : ∀ {xs : List D} {vs : List V} {i : Nat} {d : D}, RepL K L ads k H xs vs → xs[i]? = some d → ∃ v, vs[i]? = some v ∧ RepD K L ads k H d v
  | [], _, _, _, _, e => by simp at e
  | x :: ds, vs, 0, d, h, e => by
    simp only [RepL] at h
    obtain ⟨v, r, rfl, h1, h2⟩ := h
    simp at e; subst e
    exact ⟨v, rfl, h1⟩
  | x :: ds, vs, i + 1, d, h, e => by
    simp only [RepL] at h
    obtain ⟨v, r, rfl, h1, h2⟩ := h
    simpa using RepL.get h2 (by simpa using e)
theorem RepL.of_get : ∀ {xs : List D} {vs : List V}, xs.length = vs.length → (∀ (i : Nat) d, xs[i]? = some d → ∃ v, vs[i]? = some v ∧ RepD K L ads k H d v) → RepL K L ads k H xs vs
  | [], vs, hl, _ => by
    simp only [RepL]
    exact List.length_eq_zero_iff.mp hl.symm
  | x :: ds, [], hl, _ => by simp at hl
  | x :: ds, v :: r, hl, h => by
    simp only [RepL]
    refine ⟨v, r, rfl, ?_, RepL.of_get (by simpa using hl) fun i d e => ?_⟩
    · obtain ⟨w, e, q⟩ := h 0 x rfl
      simp at e; subst e; exact q
    · simpa using h (i + 1) d (by simpa using e)
theorem RepL.append {ys : List D} {ws : List V} : ∀ {xs : List D} {vs : List V}, RepL K L ads k H xs vs → RepL K L ads k H ys ws → RepL K L ads k H (xs ++ ys) (vs ++ ws)
  | [], vs, h, h2 => by simp only [RepL] at h; subst h; exact h2
  | d :: ds, vs, h, h2 => by
    simp only [RepL] at h
    obtain ⟨v, r, rfl, h1, h3⟩ := h
    simp only [List.cons_append, RepL]
    exact ⟨v, _, rfl, h1, RepL.append h3 h2⟩
theorem RepL.one (h : RepD K L ads k H d v) : RepL K L ads k H [d] [v] := by
  simp only [RepL]
  exact ⟨v, [], rfl, h, rfl⟩
theorem RepL.cons (h : RepD K L ads k H d v) (hs : RepL K L ads k H xs vs) : RepL K L ads k H (d :: xs) (v :: vs) := by
  simp only [RepL]
  exact ⟨v, vs, rfl, h, hs⟩
theorem RepL.map_of {α : Type} {f : α → D} {g : α → V} (h : ∀ x, RepD K L ads k H (f x) (g x)) : ∀ l : List α, RepL K L ads k H (l.map f) (l.map g)
  | [] => by simp [RepL]
  | x :: r => by simp only [List.map_cons]; exact RepL.cons (h x) (RepL.map_of h r)
theorem RepL.drop (n : Nat) (h : RepL K L ads k H xs vs) : RepL K L ads k H (xs.drop n) (vs.drop n) := by
  refine RepL.of_get (by simp [h.length]) fun i d e => ?_
  rw [List.getElem?_drop] at e ⊢
  exact h.get e
theorem RepL.take (n : Nat) (h : RepL K L ads k H xs vs) : RepL K L ads k H (xs.take n) (vs.take n) := by
  refine RepL.of_get (by simp [h.length]) fun i d e => ?_
  by_cases hi : i < n
  · rw [List.getElem?_take_of_lt hi] at e ⊢
    exact h.get e
  · rw [List.getElem?_take_eq_none (by omega)] at e
    cases e
theorem RepL.reverse (h : RepL K L ads k H xs vs) : RepL K L ads k H xs.reverse vs.reverse := by
  refine RepL.of_get (by simp [h.length]) fun i d e => ?_
  have hi : i < xs.length := by
    have := (List.getElem?_eq_some_iff.mp e).1
    simpa using this
  rw [List.getElem?_reverse hi] at e
  rw [List.getElem?_reverse (by rw [← h.length]; exact hi), ← h.length]
  exact h.get e
theorem RepL.set {j : Nat} (h : RepL K L ads k H xs vs) (hd : RepD K L ads k H d v) : RepL K L ads k H (xs.set j d) (vs.set j v) := by
  refine RepL.of_get (by simp [h.length]) fun i d' e => ?_
  by_cases hi : j = i
  · subst hi
    by_cases hj : j < xs.length
    · rw [List.getElem?_set_self hj] at e
      cases e
      exact ⟨v, by rw [List.getElem?_set_self (by rw [← h.length]; exact hj)], hd⟩
    · rw [List.getElem?_eq_none (by simp; omega)] at e; cases e
  · rw [List.getElem?_set_ne hi] at e ⊢
    exact h.get e
theorem RepL.dropLast (h : RepL K L ads k H xs vs) : RepL K L ads k H xs.dropLast vs.dropLast := by
  rw [List.dropLast_eq_take, List.dropLast_eq_take, ← h.length]
  exact h.take _
theorem RepL.nil_iff (h : RepL K L ads k H xs vs) : vs = [] ↔ xs = [] := by
  have e := h.length
  cases xs <;> cases vs <;> simp_all
theorem RepL.mem (h : RepL K L ads k H xs vs) (hd : d ∈ xs) : ∃ v, RepD K L ads k H d v := by
  obtain ⟨i, hi, e⟩ := List.mem_iff_getElem.mp hd
  obtain ⟨v, _, q⟩ := h.get (i := i) (d := d) (by simp [hi, e])
  exact ⟨v, q⟩

/-! ### carrying -/
/-- what never changes -/
inductive Still : HO → Prop
  | tup (vs : List V) : Still (.tup vs)
  | frz (ob : Obj) (w : HO) : Still (.frz ob w)
/-- the tuples of H, and what is frozen, stand in H' -/
def TupsIn (H H' : Hp) : Prop := ∀ a u, Still u → H a = some u → H' a = some u
theorem SqT.tin {a : Addr} (t : TupsIn H H') (h : SqT K H a vs) : SqT K H' a vs := by
  rcases h with (h | ⟨o, h⟩) | h
  · exact .inl (.inl (t a _ (.tup vs) h))
  · exact .inl (.inr ⟨o, t a _ (.frz _ _) h⟩)
  · exact .inr h
mutual
theorem RepD.tin (t : TupsIn H H') (ha : ∀ n, n < k → ads' n = ads n) : ∀ (d : D) (v : V), RepD K L ads k H d v → RepD K L ads' k H' d v
  | .non, v, h => by simp only [RepD] at h ⊢; exact h
  | .bl _, v, h => by simp only [RepD] at h ⊢; exact h
  | .int _, v, h => by simp only [RepD] at h ⊢; exact h
  | .str _, v, h => by simp only [RepD] at h ⊢; exact h
  | .fn _, v, h => by simp only [RepD] at h ⊢; exact h
  | .kd _, v, h => by simp only [RepD] at h ⊢; exact h
  | .kst _, v, h => by
    simp only [RepD] at h ⊢
    obtain ⟨a, e, h⟩ := h
    rcases h with ⟨ob, h⟩ | h
    · exact ⟨a, e, .inl ⟨ob, t a _ (.frz _ _) h⟩⟩
    · exact ⟨a, e, .inr h⟩
  | .loc n, v, h => by
    simp only [RepD] at h ⊢
    exact ⟨h.1, by rw [ha n h.1]; exact h.2⟩
  | .tup xs, v, h => by
    simp only [RepD] at h ⊢
    obtain ⟨a, vs, e, h1, h2⟩ := h
    exact ⟨a, vs, e, SqT.tin t h1, RepL.tin t ha xs vs h2⟩
theorem RepL.tin (t : TupsIn H H') (ha : ∀ n, n < k → ads' n = ads n) : ∀ (xs : List D) (vs : List V), RepL K L ads k H xs vs → RepL K L ads' k H' xs vs
  | [], vs, h => by simp only [RepL] at h ⊢; exact h
  | d :: ds, vs, h => by
    simp only [RepL] at h ⊢
    obtain ⟨v, r, e, h1, h2⟩ := h
    exact ⟨v, r, e, RepD.tin t ha d v h1, RepL.tin t ha ds r h2⟩
end
mutual
/-- fewer places -/
theorem RepD.low : ∀ (d : D) (v : V), RepD K L ads k H d v → d.lt k' = true → RepD K L ads k' H d v
  | .non, v, h, _ => by simp only [RepD] at h ⊢; exact h
  | .bl _, v, h, _ => by simp only [RepD] at h ⊢; exact h
  | .int _, v, h, _ => by simp only [RepD] at h ⊢; exact h
  | .str _, v, h, _ => by simp only [RepD] at h ⊢; exact h
  | .fn _, v, h, _ => by simp only [RepD] at h ⊢; exact h
  | .kd _, v, h, _ => by simp only [RepD] at h ⊢; exact h
  | .kst _, v, h, _ => by simp only [RepD] at h ⊢; exact h
  | .loc n, v, h, l => by
    simp only [RepD] at h ⊢
    simp only [D.lt, decide_eq_true_eq] at l
    exact ⟨l, h.2⟩
  | .tup xs, v, h, l => by
    simp only [RepD] at h ⊢
    simp only [D.lt] at l
    obtain ⟨a, vs, e, h1, h2⟩ := h
    exact ⟨a, vs, e, h1, RepL.low xs vs h2 l⟩
theorem RepL.low : ∀ (xs : List D) (vs : List V), RepL K L ads k H xs vs → D.ltL k' xs = true → RepL K L ads k' H xs vs
  | [], vs, h, _ => by simp only [RepL] at h ⊢; exact h
  | d :: ds, vs, h, l => by
    simp only [RepL] at h ⊢
    simp only [D.ltL, Bool.and_eq_true] at l
    obtain ⟨v, r, e, h1, h2⟩ := h
    exact ⟨v, r, e, RepD.low d v h1 l.1, RepL.low ds r h2 l.2⟩
end
mutual
theorem RepD.up (hk : k ≤ k') : ∀ (d : D) (v : V), RepD K L ads k H d v → RepD K L ads k' H d v
  | .non, v, h => by simp only [RepD] at h ⊢; exact h
  | .bl _, v, h => by simp only [RepD] at h ⊢; exact h
  | .int _, v, h => by simp only [RepD] at h ⊢; exact h
  | .str _, v, h => by simp only [RepD] at h ⊢; exact h
  | .fn _, v, h => by simp only [RepD] at h ⊢; exact h
  | .kd _, v, h => by simp only [RepD] at h ⊢; exact h
  | .kst _, v, h => by simp only [RepD] at h ⊢; exact h
  | .loc n, v, h => by
    simp only [RepD] at h ⊢
    exact ⟨Nat.lt_of_lt_of_le h.1 hk, h.2⟩
  | .tup xs, v, h => by
    simp only [RepD] at h ⊢
    obtain ⟨a, vs, e, h1, h2⟩ := h
    exact ⟨a, vs, e, h1, RepL.up hk xs vs h2⟩
theorem RepL.up (hk : k ≤ k') : ∀ (xs : List D) (vs : List V), RepL K L ads k H xs vs → RepL K L ads k' H xs vs
  | [], vs, h => by simp only [RepL] at h ⊢; exact h
  | d :: ds, vs, h => by
    simp only [RepL] at h ⊢
    obtain ⟨v, r, e, h1, h2⟩ := h
    exact ⟨v, r, e, RepD.up hk d v h1, RepL.up hk ds r h2⟩
end
mutual
/-- what is represented has its places below k -/
theorem RepD.isLt : ∀ (d : D) (v : V), RepD K L ads k H d v → d.lt k = true
  | .non, v, h => rfl
  | .bl _, v, h => rfl
  | .int _, v, h => rfl
  | .str _, v, h => rfl
  | .fn _, v, h => rfl
  | .kd _, v, h => rfl
  | .kst _, v, h => rfl
  | .loc n, v, h => by
    simp only [RepD] at h
    simp [D.lt, h.1]
  | .tup xs, v, h => by
    simp only [RepD] at h
    obtain ⟨a, vs, e, h1, h2⟩ := h
    simp only [D.lt]
    exact RepL.isLt xs vs h2
theorem RepL.isLt : ∀ (xs : List D) (vs : List V), RepL K L ads k H xs vs → D.ltL k xs = true
  | [], vs, h => rfl
  | d :: ds, vs, h => by
    simp only [RepL] at h
    obtain ⟨v, r, e, h1, h2⟩ := h
    simp [D.ltL, RepD.isLt d v h1, RepL.isLt ds r h2]
end
theorem Paired.mono' {α β : Type} {F G : α → β → Prop} {l₁ : List α} {l₂ : List β} (h : Paired F l₁ l₂) (f : ∀ a b, a ∈ l₁ → F a b → G a b) : Paired G l₁ l₂ := by
  induction h with
  | nil => exact .nil
  | cons r t ih => exact .cons (f _ _ List.mem_cons_self r) (ih fun a b m => f a b (List.mem_cons_of_mem _ m))
theorem RepO.tin {o : MO} {a a' : Addr} (h : RepO K L ads k H a o) (t : TupsIn H H') (e : ∀ u, H a = some u → H' a' = some u) (ha : ∀ n, n < k → ads' n = ads n) : RepO K L ads' k H' a' o := by
  cases o with
  | lst xs => obtain ⟨vs, h1, h2⟩ := h; exact ⟨vs, e _ h1, RepL.tin t ha _ _ h2⟩
  | lck xs => obtain ⟨vs, h1, h2⟩ := h; exact ⟨vs, e _ h1, RepL.tin t ha _ _ h2⟩
  | dic kvs =>
    obtain ⟨ws, h1, h2⟩ := h
    exact ⟨ws, e _ h1, Paired.mono' h2 fun p q _ z => ⟨z.1, RepD.tin t ha _ _ z.2⟩⟩
  | ins c fs =>
    obtain ⟨dx, ws, h1, h2⟩ := h
    exact ⟨dx, ws, e _ h1, Paired.mono' h2 fun p q _ z => ⟨z.1, RepD.tin t ha _ _ z.2⟩⟩
theorem RepO.low {o : MO} {a : Addr} (h : RepO K L ads k H a o) (l : o.lt k' = true) : RepO K L ads k' H a o := by
  cases o with
  | lst xs => obtain ⟨vs, h1, h2⟩ := h; exact ⟨vs, h1, RepL.low _ _ h2 l⟩
  | lck xs => obtain ⟨vs, h1, h2⟩ := h; exact ⟨vs, h1, RepL.low _ _ h2 l⟩
  | dic kvs =>
    obtain ⟨ws, h1, h2⟩ := h
    simp only [MO.lt, List.all_eq_true] at l
    exact ⟨ws, h1, Paired.mono' h2 fun p q m z => ⟨z.1, RepD.low _ _ z.2 (l p m)⟩⟩
  | ins c fs =>
    obtain ⟨dx, ws, h1, h2⟩ := h
    simp only [MO.lt, List.all_eq_true] at l
    exact ⟨dx, ws, h1, Paired.mono' h2 fun p q m z => ⟨z.1, RepD.low _ _ z.2 (l p m)⟩⟩
/-- an object of the memory is tracked, and is no tuple -/
theorem RepO.there {o : MO} {a : Addr} (h : RepO K L ads k H a o) : ∃ u, H a = some u ∧ ¬ Still u := by
  cases o with
  | lst xs => obtain ⟨vs, h1, _⟩ := h; exact ⟨_, h1, fun z => (by cases z)⟩
  | lck xs => obtain ⟨vs, h1, _⟩ := h; exact ⟨_, h1, fun z => (by cases z)⟩
  | dic kvs => obtain ⟨ws, h1, _⟩ := h; exact ⟨_, h1, fun z => (by cases z)⟩
  | ins c fs => obtain ⟨dx, ws, h1, _⟩ := h; exact ⟨_, h1, fun z => (by cases z)⟩
theorem RepM.there (m : RepM K L ads H M) {n : Nat} (hn : n < M.length) : ∃ u, H (ads n) = some u ∧ ¬ Still u :=
  (m.at_ n M[n] (by simp [hn])).there
theorem After.tin (m : RepM K L ads H M) (A : After ads M H ads' M' H') : TupsIn H H' := fun a w hs h => A.ext a w h fun n hn e => by
  obtain ⟨u, hu, h1⟩ := m.there hn
  rw [e, h] at hu
  cases hu
  exact h1 hs
theorem After.refl : After ads M H ads M H := ⟨fun _ _ h _ => h, fun _ _ => rfl, Nat.le_refl _, fun n h1 h2 => absurd h2 (by omega), fun _ _ h _ => ⟨h, rfl⟩⟩
theorem After.tracked (m : RepM K L ads' H' M') (A : After ads M H ads' M' H') {a : Addr} {o : HO} (h : H a = some o) : ∃ u, H' a = some u := by
  by_cases hl : ∃ n, n < M.length ∧ ads n = a
  · obtain ⟨n, hn, e⟩ := hl
    obtain ⟨u, hu, _⟩ := m.there (Nat.lt_of_lt_of_le hn A.len)
    rw [A.agr n hn, e] at hu
    exact ⟨u, hu⟩
  · exact ⟨o, A.ext a o h fun n hn e => hl ⟨n, hn, e⟩⟩
theorem After.trans (m1 : RepM K L ads1 H1 M1) (A : After ads M H ads1 M1 H1) (B : After ads1 M1 H1 ads2 M2 H2) : After ads M H ads2 M2 H2 where
  ext := fun a o h hl => by
    refine B.ext a o (A.ext a o h hl) fun n hn e => ?_
    by_cases h0 : n < M.length
    · exact hl n h0 (by rw [← A.agr n h0]; exact e)
    · have := A.fresh n (by omega) hn
      rw [e, h] at this; cases this
  agr := fun n hn => by rw [B.agr n (Nat.lt_of_lt_of_le hn A.len), A.agr n hn]
  len := Nat.le_trans A.len B.len
  fresh := fun n h0 h2 => by
    by_cases h1 : n < M1.length
    · rw [B.agr n h1]; exact A.fresh n h0 h1
    · have z := B.fresh n (by omega) h2
      cases q : H (ads2 n) with
      | none => rfl
      | some o =>
        obtain ⟨u, hu⟩ := A.tracked m1 q
        rw [hu] at z; cases z
  fixd := fun n o h f => by
    obtain ⟨h1, e1⟩ := A.fixd n o h f
    obtain ⟨h2, e2⟩ := B.fixd n o h1 f
    have hn : n < M.length := (List.getElem?_eq_some_iff.mp h).1
    exact ⟨h2, by rw [← A.agr n hn, e2, A.agr n hn, e1]⟩
theorem RepD.after (h : RepD K L ads k H d v) (m : RepM K L ads H M) (A : After ads M H ads' M' H') (hk : k ≤ M.length := by exact Nat.le_refl _) : RepD K L ads' k H' d v :=
  RepD.tin (A.tin m) (fun n hn => A.agr n (Nat.lt_of_lt_of_le hn hk)) _ _ h
theorem RepL.after (h : RepL K L ads k H xs vs) (m : RepM K L ads H M) (A : After ads M H ads' M' H') (hk : k ≤ M.length := by exact Nat.le_refl _) : RepL K L ads' k H' xs vs :=
  RepL.tin (A.tin m) (fun n hn => A.agr n (Nat.lt_of_lt_of_le hn hk)) _ _ h
/-- .. with all the new places -/
theorem RepD.on (h : RepD K L ads M.length H d v) (m : RepM K L ads H M) (A : After ads M H ads' M' H') : RepD K L ads' M'.length H' d v := RepD.up A.len _ _ (h.after m A)
theorem RepL.on (h : RepL K L ads M.length H xs vs) (m : RepM K L ads H M) (A : After ads M H ads' M' H') : RepL K L ads' M'.length H' xs vs := RepL.up A.len _ _ (h.after m A)
theorem RepE.on {ρ : Env} {σ : St} (h : RepE K L ads M.length H ρ σ) (m : RepM K L ads H M) (A : After ads M H ads' M' H') : RepE K L ads' M'.length H' ρ σ :=
  ⟨h.1, fun i d e => let ⟨v, e1, r⟩ := h.2 i d e; ⟨v, e1, r.on m A⟩⟩
theorem RepE.set {ρ : Env} {σ : St} {i : Nat} (h : RepE K L ads k H ρ σ) (r : RepD K L ads k H d v) : RepE K L ads k H (ρ.set i (some d)) (σ.set i (some v)) := by
  refine ⟨by simp [h.1], fun j d' e => ?_⟩
  by_cases hj : i = j
  · subst hj
    by_cases hi : i < ρ.length
    · rw [List.getElem?_set_self hi] at e
      cases e
      exact ⟨v, by rw [List.getElem?_set_self (by rw [← h.1]; exact hi)], r⟩
    · rw [List.getElem?_eq_none (by simp; omega)] at e; cases e
  · rw [List.getElem?_set_ne hj] at e ⊢
    exact h.2 j d' e
theorem RepE.unset {ρ : Env} {σ : St} {i : Nat} (h : RepE K L ads k H ρ σ) : RepE K L ads k H (ρ.set i none) (σ.set i none) := by
  refine ⟨by simp [h.1], fun j d' e => ?_⟩
  by_cases hj : i = j
  · subst hj
    by_cases hi : i < ρ.length
    · rw [List.getElem?_set_self hi] at e; cases e
    · rw [List.getElem?_eq_none (by simp; omega)] at e; cases e
  · rw [List.getElem?_set_ne hj] at e ⊢
    exact h.2 j d' e
theorem RepE.wipe {ρ : Env} {σ : St} (h : RepE K L ads k H ρ σ) : ∀ is : List Nat, RepE K L ads k H (wipeE ρ is) (wipe σ is)
  | [] => h
  | i :: is => (RepE.wipe h is).unset

/-! ### new things, changed things -/
theorem TupsIn.fresh {p : Addr} {o : HO} (hp : H p = none) : TupsIn H (upd H p o) := fun a u _ h => by rw [upd_ne (ne_of_none h hp)]; exact h
theorem TupsIn.refl : TupsIn H H := fun _ _ _ h => h
theorem After.new {p : Addr} {o : HO} (m : RepM K L ads H M) (hp : H p = none) : After ads M H ads M (upd H p o) :=
  ⟨fun a u h _ => by rw [upd_ne (ne_of_none h hp)]; exact h, fun _ _ => rfl, Nat.le_refl _, fun n h1 h2 => absurd h2 (by omega), fun n u h _ => ⟨h, by
    obtain ⟨w, hw, _⟩ := m.there (List.getElem?_eq_some_iff.mp h).1
    rw [upd_ne (ne_of_none hw hp)]⟩⟩
theorem RepM.new {p : Addr} {o : HO} (m : RepM K L ads H M) (hp : H p = none) : RepM K L ads (upd H p o) M :=
  ⟨fun n u e => (m.at_ n u e).tin (TupsIn.fresh hp) (fun w hw => by rw [upd_ne (ne_of_none hw hp)]; exact hw) fun _ _ => rfl, m.inj⟩
theorem RepD.new {p : Addr} {o : HO} (h : RepD K L ads k H d v) (hp : H p = none) : RepD K L ads k (upd H p o) d v := RepD.tin (TupsIn.fresh hp) (fun _ _ => rfl) _ _ h
theorem RepL.new {p : Addr} {o : HO} (h : RepL K L ads k H xs vs) (hp : H p = none) : RepL K L ads k (upd H p o) xs vs := RepL.tin (TupsIn.fresh hp) (fun _ _ => rfl) _ _ h
/-- a new place -/
def adsN (ads : Nat → Addr) (n : Nat) (p : Addr) : Nat → Addr := fun j => if j = n then p else ads j
theorem adsN_lt {n j : Nat} {p : Addr} (h : j < n) : adsN ads n p j = ads j := by unfold adsN; rw [if_neg (by omega)]
theorem adsN_at {n : Nat} {p : Addr} : adsN ads n p n = p := by unfold adsN; rw [if_pos rfl]
theorem RepM.alloc {p : Addr} {o : MO} (m : RepM K L ads H M) (hd : ∀ n, n < M.length → ads n ≠ p) (ro : RepO K L ads M.length H p o) : RepM K L (adsN ads M.length p) H (M ++ [o]) where
  at_ := fun n u e => by
    by_cases hn : n < M.length
    · rw [List.getElem?_append_left hn] at e
      rw [adsN_lt hn]
      exact (m.at_ n u e).tin TupsIn.refl (fun _ h => h) fun j hj => adsN_lt (by omega)
    · have hn' : n = M.length := by
        have := (List.getElem?_eq_some_iff.mp e).1
        simp at this; omega
      subst hn'
      simp at e; subst e
      rw [adsN_at]
      exact ro.tin TupsIn.refl (fun _ h => h) fun j hj => adsN_lt hj
  inj := fun i j hi hj e => by
    simp at hi hj
    by_cases h1 : i < M.length
    · by_cases h2 : j < M.length
      · rw [adsN_lt h1, adsN_lt h2] at e; exact m.inj i j h1 h2 e
      · have : j = M.length := by omega
        subst this
        rw [adsN_lt h1, adsN_at] at e
        exact absurd e (hd i h1)
    · have : i = M.length := by omega
      subst this
      by_cases h2 : j < M.length
      · rw [adsN_lt h2, adsN_at] at e
        exact absurd e.symm (hd j h2)
      · omega
theorem RepM.live {p : Addr} (m : RepM K L ads H M) (hp : H p = none) : ∀ n, n < M.length → ads n ≠ p := fun n hn e => by
  obtain ⟨u, hu, _⟩ := m.there hn
  rw [e, hp] at hu; cases hu
theorem After.alloc {p : Addr} {o : MO} (m : RepM K L ads H M) (hp : H p = none) {u : HO} : After ads M H (adsN ads M.length p) (M ++ [o]) (upd H p u) where
  ext := fun a w h _ => by rw [upd_ne (ne_of_none h hp)]; exact h
  agr := fun n hn => adsN_lt hn
  len := by simp
  fresh := fun n h1 h2 => by
    have : n = M.length := by simp at h2; omega
    subst this; rw [adsN_at]; exact hp
  fixd := fun n w h _ => by
    have hn := (List.getElem?_eq_some_iff.mp h).1
    obtain ⟨w', hw, _⟩ := m.there hn
    exact ⟨by rw [List.getElem?_append_left hn]; exact h, by rw [upd_ne (ne_of_none hw hp)]⟩
/-- an object changes -/
theorem TupsIn.mut {a : Addr} {u o : HO} (ha : H a = some u) (h1 : ¬ Still u) : TupsIn H (upd H a o) := fun b w hs h => by
  rw [upd_ne (fun e => by subst e; rw [ha] at h; cases h; exact h1 hs)]; exact h
theorem RepM.mut {n : Nat} {o' : MO} {u : HO} (m : RepM K L ads H M) (hn : n < M.length) (ro : RepO K L ads n (upd H (ads n) u) (ads n) o') : RepM K L ads (upd H (ads n) u) (M.set n o') where
  at_ := fun j w e => by
    obtain ⟨u0, hu, h1⟩ := m.there hn
    by_cases hj : n = j
    · subst hj
      rw [List.getElem?_set_self hn] at e
      cases e; exact ro
    · rw [List.getElem?_set_ne hj] at e
      have hl : j < M.length := (List.getElem?_eq_some_iff.mp e).1
      refine (m.at_ j w e).tin (TupsIn.mut hu h1) (fun w' hw => ?_) fun _ _ => rfl
      rw [upd_ne (fun z => hj (m.inj j n hl hn z).symm)]
      exact hw
  inj := fun i j hi hj e => m.inj i j (by simpa using hi) (by simpa using hj) e
theorem After.mut {n : Nat} {o o' : MO} {u : HO} (m : RepM K L ads H M) (ho : M[n]? = some o) (hf : o.fix = false := by rfl) (hn : n < M.length := by exact (List.getElem?_eq_some_iff.mp ho).1) : After ads M H ads (M.set n o') (upd H (ads n) u) where
  ext := fun a w h hl => by rw [upd_ne (fun e => hl n hn e.symm)]; exact h
  agr := fun _ _ => rfl
  len := by simp
  fresh := fun j h1 h2 => absurd h2 (by simp; omega)
  fixd := fun j w h f => by
    have hj := (List.getElem?_eq_some_iff.mp h).1
    have hne : n ≠ j := fun e => by
      subst e
      rw [ho] at h; cases h
      rw [hf] at f; cases f
    exact ⟨by rw [List.getElem?_set_ne hne]; exact h, by rw [upd_ne (fun e => hne (m.inj j n hj hn e).symm)]⟩
theorem RepM.take (m : RepM K L ads H M) (k : Nat) : RepM K L ads H (M.take k) where
  at_ := fun n o e => m.at_ n o (by
    by_cases hn : n < k
    · rwa [List.getElem?_take_of_lt hn] at e
    · rw [List.getElem?_take_eq_none (by omega)] at e; cases e)
  inj := fun i j hi hj e => m.inj i j (by simp at hi; omega) (by simp at hj; omega) e
theorem After.take (A : After ads M H ads' M' H') : After ads M H ads' (M'.take M.length) H' where
  ext := A.ext
  agr := A.agr
  len := by simp [A.len]
  fresh := fun n h1 h2 => absurd h2 (by simp; omega)
  fixd := fun n o h f => by
    obtain ⟨h1, e1⟩ := A.fixd n o h f
    exact ⟨by rw [List.getElem?_take_of_lt (List.getElem?_eq_some_iff.mp h).1]; exact h1, e1⟩
/-- gc -/
theorem gc_ok (A : After ads M H ads' M' H') (m : RepM K L ads' H' M') (r : RepD K L ads' M'.length H' d v) :
    ∃ ads2, After ads M H ads2 (gcM M.length d M').2 H' ∧ RepM K L ads2 H' (gcM M.length d M').2 ∧ RepD K L ads2 (gcM M.length d M').2.length H' (gcM M.length d M').1 v := by
  unfold gcM
  have hlen : (M'.take M.length).length = M.length := by rw [List.length_take]; exact Nat.min_eq_left A.len
  split
  · rename_i hl
    exact ⟨ads', A.take, m.take _, by dsimp only; rw [hlen]; exact RepD.low _ _ r hl⟩
  · rename_i hl
    split
    · rename_i n
      simp only [RepD] at r
      split
      · rename_i o ho
        split
        · rename_i hlo
          have hn : M.length ≤ n := by
            simp only [D.lt, decide_eq_true_eq] at hl; omega
          have hn' : n < M'.length := r.1
          have hkl := A.len
          have dist : ∀ j, j < (M'.take M.length).length → ads' j ≠ ads' n := fun j hj e => by
            rw [hlen] at hj
            have := m.inj j n (by omega) hn' e
            omega
          have ro : RepO K L ads' (M'.take M.length).length H' (ads' n) o := by rw [hlen]; exact (m.at_ n o ho).low hlo
          refine ⟨adsN ads' (M'.take M.length).length (ads' n), ?_, (m.take _).alloc dist ro, ?_⟩
          · refine ⟨A.ext, fun j hj => ?_, by dsimp only; simp [hlen], fun j h1 h2 => ?_, fun j _ h1 h2 => ?_⟩
            · rw [adsN_lt (by rw [hlen]; exact hj)]; exact A.agr j hj
            · have : j = (M'.take M.length).length := by
                dsimp only at h2
                rw [List.length_append, hlen] at h2
                simp at h2
                rw [hlen]; omega
              subst this
              rw [adsN_at]
              exact A.fresh n hn hn'
            · obtain ⟨h3, e3⟩ := A.fixd j _ h1 h2
              have hj := (List.getElem?_eq_some_iff.mp h1).1
              exact ⟨by dsimp only; rw [List.getElem?_append_left (by rw [hlen]; exact hj), List.getElem?_take_of_lt hj]; exact h3, e3⟩
          · dsimp only
            simp only [RepD]
            refine ⟨by rw [List.length_append, hlen]; simp, ?_⟩
            have : M.length = (M'.take M.length).length := hlen.symm
            rw [show adsN ads' (M'.take M.length).length (ads' n) M.length = ads' n by rw [hlen]; exact adsN_at]
            exact r.2
        · exact ⟨ads', A, m, by simp only [RepD]; exact r⟩
      · exact ⟨ads', A, m, by simp only [RepD]; exact r⟩
    · exact ⟨ads', A, m, r⟩
end PK
end

section
set_option Elab.async false
set_option linter.all false
set_option maxHeartbeats 4000000
/-! PKc: what an answer asks of the heap; operators, comparisons, subscripts by values. -/
namespace PK
open PySem L2

def OutP (K : PySem.W.Frag) (L : Lk) (ads : Nat → Addr) (M : Mem) (H : Hp) (o : Out) (Q : VK) (E : XK) : Prop :=
  match o with
  | .ok d M' => ∀ ads' H' v, After ads M H ads' M' H' → RepM K L ads' H' M' → RepD K L ads' M'.length H' d v → Q v H'
  | .exc x M' => ∀ ads' H' c dx, After ads M H ads' M' H' → RepM K L ads' H' M' → RepX K L H' x c dx → E c dx H'
  | .bad => False
section
variable {K : PySem.W.Frag} {L : Lk} {ads ads1 ads2 : Nat → Addr} {k : Nat} {H H1 H2 : Hp} {M M1 M2 : Mem} {d : D} {v : V} {o : Out} {Q Q' : VK} {E : XK} {xs : List D} {vs : List V}
theorem OutP.now (h : OutP K L ads M H (.ok d M) Q E) (m : RepM K L ads H M) (r : RepD K L ads M.length H d v) : Q v H := h ads H v After.refl m r
theorem OutP.after (h : OutP K L ads M H o Q E) (A : After ads M H ads1 M1 H1) (m : RepM K L ads1 H1 M1) : OutP K L ads1 M1 H1 o Q E := by
  cases o with
  | ok d M' => exact fun ads' H' v B m' r => h ads' H' v (A.trans m B) m' r
  | exc x M' => exact fun ads' H' c dx B m' r => h ads' H' c dx (A.trans m B) m' r
  | bad => exact h
theorem OutP.bind {f : D → Mem → Out} (h : OutP K L ads M H (o.bind f) Q E) :
    OutP K L ads M H o (fun v H1 => ∃ d ads1 M1, After ads M H ads1 M1 H1 ∧ RepM K L ads1 H1 M1 ∧ RepD K L ads1 M1.length H1 d v ∧ o = .ok d M1 ∧ OutP K L ads1 M1 H1 (f d M1) Q E) E := by
  cases o with
  | ok d M' => exact fun ads' H' v A m r => ⟨d, ads', M', A, m, r, rfl, OutP.after h A m⟩
  | exc x M' => exact h
  | bad => exact h
theorem OutP.mono (h : OutP K L ads M H o Q E) (q : ∀ v H, Q v H → Q' v H) : OutP K L ads M H o Q' E := by
  cases o with
  | ok d M' => exact fun ads' H' v A m r => q _ _ (h ads' H' v A m r)
  | exc x M' => exact h
  | bad => exact h
theorem OutP.gc (h : OutP K L ads M H (o.gc M.length) Q E) : OutP K L ads M H o Q E := by
  cases o with
  | ok d M' =>
    intro ads' H' v A m r
    obtain ⟨a2, A2, m2, r2⟩ := gc_ok A m r
    exact h a2 H' v A2 m2 r2
  | exc x M' => exact h
  | bad => exact h
/-- a new object that is no part of the memory -/
theorem OutP.new {p : Addr} {u : HO} (h : OutP K L ads M H (.ok d M) Q E) (m : RepM K L ads H M) (hp : H p = none) (r : RepD K L ads M.length (upd H p u) d v) : Q v (upd H p u) :=
  h ads _ v (After.new m hp) (m.new hp) r
/-- a new object of the memory -/
theorem OutP.alloc {p : Addr} {u : HO} {ob : MO} (h : OutP K L ads M H (alloc ob M) Q E) (m : RepM K L ads H M) (hp : H p = none) (r : RepO K L ads M.length (upd H p u) p ob) : Q (.ref p) (upd H p u) := by
  refine h (adsN ads M.length p) _ (.ref p) (After.alloc m hp) ((m.new hp).alloc (m.live hp) r) ?_
  simp only [RepD]
  exact ⟨by simp, by rw [adsN_at]⟩
/-- an object of the memory changes -/
theorem OutP.mut {n : Nat} {u : HO} {ob o0 : MO} (h : OutP K L ads M H (.ok d (M.set n ob)) Q E) (m : RepM K L ads H M) (ho : M[n]? = some o0) (hn : n < M.length) (ro : RepO K L ads n (upd H (ads n) u) (ads n) ob) (r : RepD K L ads M.length (upd H (ads n) u) d v) (hf : o0.fix = false := by rfl) : Q v (upd H (ads n) u) := by
  refine h ads _ v (After.mut m ho hf hn) (m.mut hn ro) ?_
  rw [List.length_set]; exact r
theorem RepM.tupsMut {n : Nat} {u : HO} (m : RepM K L ads H M) (hn : n < M.length) : TupsIn H (upd H (ads n) u) := by
  obtain ⟨w, hw, h1⟩ := m.there hn
  exact TupsIn.mut hw h1
theorem RepD.mut {n : Nat} {u : HO} (r : RepD K L ads k H d v) (m : RepM K L ads H M) (hn : n < M.length) : RepD K L ads k (upd H (ads n) u) d v := RepD.tin (m.tupsMut hn) (fun _ _ => rfl) _ _ r
theorem RepL.mut {n : Nat} {u : HO} (r : RepL K L ads k H xs vs) (m : RepM K L ads H M) (hn : n < M.length) : RepL K L ads k (upd H (ads n) u) xs vs := RepL.tin (m.tupsMut hn) (fun _ _ => rfl) _ _ r

/-! ### what stands at a place -/
theorem rep_own {n : Nat} (m : RepM K L ads H M) (h : ownL M n = some xs) : ∃ vs, n < M.length ∧ H (ads n) = some (.lst vs) ∧ RepL K L ads n H xs vs := by
  cases e : M[n]? with
  | none => rw [ownL, e] at h; cases h
  | some o =>
    have hn := (List.getElem?_eq_some_iff.mp e).1
    rw [ownL, e] at h
    have ro := m.at_ n o e
    cases o with
    | lst ys => cases h; obtain ⟨vs, h1, h2⟩ := ro; exact ⟨vs, hn, h1, h2⟩
    | lck ys => cases h; obtain ⟨vs, h1, h2⟩ := ro; exact ⟨vs, hn, h1, h2⟩
    | dic ys => cases h
    | ins c ys => cases h
theorem rep_rd {n : Nat} (m : RepM K L ads H M) (h : rdL M n = some xs) : ∃ vs, n < M.length ∧ SqL K H (ads n) vs ∧ RepL K L ads n H xs vs := by
  cases e : M[n]? with
  | none => rw [rdL, e] at h; cases h
  | some o =>
    have hn := (List.getElem?_eq_some_iff.mp e).1
    rw [rdL, e] at h
    have ro := m.at_ n o e
    cases o with
    | lst ys => cases h; obtain ⟨vs, h1, h2⟩ := ro; exact ⟨vs, hn, .of h1, h2⟩
    | lck ys => cases h; obtain ⟨vs, h1, h2⟩ := ro; exact ⟨vs, hn, .of h1, h2⟩
    | dic ys => cases h
    | ins c ys => cases h
theorem rep_dic {n : Nat} {kvs : List (D × D)} (m : RepM K L ads H M) (h : rdK M n = some kvs) : ∃ ws, n < M.length ∧ M[n]? = some (.dic kvs) ∧ H (ads n) = some (.dK ws) ∧ Paired (fun (p : D × D) (q : Key × V) => keyV p.1 = some q.1 ∧ RepD K L ads n H p.2 q.2) kvs ws := by
  cases e : M[n]? with
  | none => rw [rdK, e] at h; cases h
  | some o =>
    have hn := (List.getElem?_eq_some_iff.mp e).1
    rw [rdK, e] at h
    have ro := m.at_ n o e
    cases o with
    | lst ys => cases h
    | lck ys => cases h
    | dic ys => cases h; obtain ⟨ws, h1, h2⟩ := ro; exact ⟨ws, hn, rfl, h1, h2⟩
    | ins c ys => cases h
theorem RepL.up' {n : Nat} (h : RepL K L ads n H xs vs) (hn : n < M.length) : RepL K L ads M.length H xs vs := RepL.up (Nat.le_of_lt hn) _ _ h

/-! ### operators by values -/
/-- a two-place operation -/
def r2 (K : PySem.W.Frag) (L : Lk) (E : XK) (f : D → D → Mem → Out) : R2 := fun x y H Q => ∃ d1 d2 ads M, RepM K L ads H M ∧ RepD K L ads M.length H d1 x ∧ RepD K L ads M.length H d2 y ∧ OutP K L ads M H (f d1 d2 M) Q E
def r1 (K : PySem.W.Frag) (L : Lk) (E : XK) (f : D → Mem → Out) : V → Hp → VK → Prop := fun x H Q => ∃ d ads M, RepM K L ads H M ∧ RepD K L ads M.length H d x ∧ OutP K L ads M H (f d M) Q E
def rN (K : PySem.W.Frag) (L : Lk) (E : XK) (f : List D → Mem → Out) : List V → Hp → VK → Prop := fun xs H Q => ∃ ds ads M, RepM K L ads H M ∧ RepL K L ads M.length H ds xs ∧ OutP K L ads M H (f ds M) Q E
end
theorem sizeLine16 : sizeLine = 16777216 := sizeLine_eq
section
variable {X : Cx} {L : Lk} {E : XK}
theorem op_dAdd : OpR X (binaryOp .Add) (r2 X.K L E dAdd) := by
  intro pins s σ H x y v u Q I rx ry ⟨d1, d2, ads, M, m, q1, q2, h⟩
  unfold dAdd at h
  split at h
  · simp only [RepD] at q1 q2
    subst q1 q2
    exact op_add pins s σ H _ _ v u Q I rx ry ⟨_, _, rfl, rfl, h.now m (by simp only [RepD])⟩
  · split at h
    · rename_i hz
      simp only [RepD] at q1 q2
      subst q1 q2
      refine op_add_str pins s σ H _ _ v u Q I rx ry ⟨_, _, rfl, rfl, ?_, h.now m ?_⟩
      · rw [sizeLine16]; simpa [Str.length] using hz
      · simp only [RepD]
        exact congrArg (fun z => V.str ⟨z⟩) (by simp)
    · exact h.elim
  · split at h
    · rename_i hz
      simp only [RepD] at q1 q2
      obtain ⟨a, vs, rfl, ha, ra⟩ := q1
      obtain ⟨b, ws, rfl, hb, rb⟩ := q2
      refine op_catA pins s σ H _ _ v u Q I rx ry ⟨a, b, vs, ws, rfl, rfl, ha, hb, ?_, fun e => ?_, fun _ e => ?_, fun _ _ p hp => ?_⟩
      · rw [sizeLine16, ← ra.length, ← rb.length]; exact hz
      · have e' := (ra.nil_iff).mp e
        refine h.now m ?_
        simp only [RepD]
        exact ⟨b, ws, rfl, hb, by rw [e']; exact rb⟩
      · have e' := (rb.nil_iff).mp e
        refine h.now m ?_
        simp only [RepD]
        exact ⟨a, vs, rfl, ha, by rw [e', List.append_nil]; exact ra⟩
      · refine h.new m hp ?_
        simp only [RepD]
        exact ⟨p, _, rfl, .of upd_same, (ra.append rb).new hp⟩
    · exact h.elim
  · split at h
    · split at h
      · rename_i a b _ _ ys zs ha hb hz
        simp only [RepD] at q1 q2
        obtain ⟨_, rfl⟩ := q1
        obtain ⟨_, rfl⟩ := q2
        obtain ⟨vs, hn, h1, r1⟩ := rep_own m ha
        obtain ⟨ws, hn', h2, r2⟩ := rep_own m hb
        refine op_cat pins s σ H _ _ v u Q I rx ry ⟨_, _, vs, ws, rfl, rfl, h1, h2, ?_, fun p hp => ?_⟩
        · rw [sizeLine16, ← r1.length, ← r2.length]; exact hz
        · refine h.alloc m hp ⟨_, upd_same, ?_⟩
          exact ((r1.up' hn).append (r2.up' hn')).new hp
      · exact h.elim
    · exact h.elim
  · exact h.elim
theorem op_dSub : OpR X (binaryOp .Sub) (r2 X.K L E dSub) := by
  intro pins s σ H x y v u Q I rx ry ⟨d1, d2, ads, M, m, q1, q2, h⟩
  unfold dSub at h
  split at h
  · simp only [RepD] at q1 q2
    subst q1 q2
    exact op_sub pins s σ H _ _ v u Q I rx ry ⟨_, _, rfl, rfl, h.now m (by simp only [RepD])⟩
  · exact h.elim
theorem op_dFdiv : OpR X (binaryOp .FloorDiv) (r2 X.K L E dFdiv) := by
  intro pins s σ H x y v u Q I rx ry ⟨d1, d2, ads, M, m, q1, q2, h⟩
  unfold dFdiv at h
  split at h
  · split at h
    · rename_i hc
      simp only [RepD] at q1 q2
      subst q1 q2
      exact op_fdiv pins s σ H _ _ v u Q I rx ry ⟨_, _, rfl, rfl, hc, h.now m (by simp only [RepD])⟩
    · exact h.elim
  · exact h.elim
theorem op_dMod : OpR X (binaryOp .Mod) (r2 X.K L E dMod) := by
  intro pins s σ H x y v u Q I rx ry ⟨d1, d2, ads, M, m, q1, q2, h⟩
  unfold dMod at h
  split at h
  · split at h
    · rename_i hc
      simp only [RepD] at q1 q2
      subst q1 q2
      exact op_mod pins s σ H _ _ v u Q I rx ry ⟨_, _, rfl, rfl, hc, h.now m (by simp only [RepD])⟩
    · exact h.elim
  · exact h.elim
theorem un_dNeg : UnR X (unaryOp .USub) (r1 X.K L E dNeg) := by
  intro pins s σ H x v Q I rx ⟨d, ads, M, m, q, h⟩
  unfold dNeg at h
  split at h
  · simp only [RepD] at q
    subst q
    exact un_neg pins s σ H _ v Q I rx ⟨_, rfl, h.now m (by simp only [RepD])⟩
  · exact h.elim
theorem op_dLt : OpR X (compareOp .Lt) (r2 X.K L E dLt) := by
  intro pins s σ H x y v u Q I rx ry ⟨d1, d2, ads, M, m, q1, q2, h⟩
  unfold dLt at h
  split at h
  · simp only [RepD] at q1 q2
    subst q1 q2
    exact op_lt pins s σ H _ _ v u Q I rx ry ⟨_, _, rfl, rfl, h.now m (by simp only [RepD])⟩
  · exact h.elim
theorem op_dLe : OpR X (compareOp .LtE) (r2 X.K L E dLe) := by
  intro pins s σ H x y v u Q I rx ry ⟨d1, d2, ads, M, m, q1, q2, h⟩
  unfold dLe at h
  split at h
  · simp only [RepD] at q1 q2
    subst q1 q2
    exact op_le pins s σ H _ _ v u Q I rx ry ⟨_, _, rfl, rfl, h.now m (by simp only [RepD])⟩
  · exact h.elim
theorem op_dGt : OpR X (compareOp .Gt) (r2 X.K L E dGt) := by
  intro pins s σ H x y v u Q I rx ry ⟨d1, d2, ads, M, m, q1, q2, h⟩
  unfold dGt at h
  split at h
  · simp only [RepD] at q1 q2
    subst q1 q2
    exact op_gt pins s σ H _ _ v u Q I rx ry ⟨_, _, rfl, rfl, h.now m (by simp only [RepD])⟩
  · exact h.elim
theorem op_dGe : OpR X (compareOp .GtE) (r2 X.K L E dGe) := by
  intro pins s σ H x y v u Q I rx ry ⟨d1, d2, ads, M, m, q1, q2, h⟩
  unfold dGe at h
  split at h
  · simp only [RepD] at q1 q2
    subst q1 q2
    exact op_ge pins s σ H _ _ v u Q I rx ry ⟨_, _, rfl, rfl, h.now m (by simp only [RepD])⟩
  · exact h.elim
theorem RepD.nonIff {K : PySem.W.Frag} {ads : Nat → Addr} {k : Nat} {H : Hp} {d : D} {v : V} (h : RepD K L ads k H d v) : v = .non ↔ d = .non := by
  cases d <;> simp only [RepD] at h
  · simp [h]
  · subst h; simp
  · subst h; simp
  · subst h; simp
  · obtain ⟨a, vs, rfl, _⟩ := h; simp
  · obtain ⟨_, rfl⟩ := h; simp
  · subst h; simp
  · subst h; simp
  · obtain ⟨a, rfl, _⟩ := h; simp
theorem op_dIsN : OpR X (compareOp .Is) (r2 X.K L E dIsN) := by
  intro pins s σ H x y v u Q I rx ry ⟨d1, d2, ads, M, m, q1, q2, h⟩
  unfold dIsN at h
  split at h
  · simp only [RepD] at q1 q2
    subst q1 q2
    exact op_isN pins s σ H _ _ v u Q I rx ry ⟨rfl, h.now m (by simp only [RepD]; rfl)⟩
  · rename_i hd
    simp only [RepD] at q2
    subst q2
    refine op_isN pins s σ H _ _ v u Q I rx ry ⟨rfl, h.now m ?_⟩
    have : x ≠ .non := fun e => hd (q1.nonIff.mp e)
    simp only [RepD]
    simp [this]
  · exact h.elim
theorem op_dNotN : OpR X (compareOp .IsNot) (r2 X.K L E dNotN) := by
  intro pins s σ H x y v u Q I rx ry ⟨d1, d2, ads, M, m, q1, q2, h⟩
  unfold dNotN at h
  split at h
  · simp only [RepD] at q1 q2
    subst q1 q2
    exact op_notN pins s σ H _ _ v u Q I rx ry ⟨rfl, h.now m (by simp only [RepD]; rfl)⟩
  · rename_i hd
    simp only [RepD] at q2
    subst q2
    refine op_notN pins s σ H _ _ v u Q I rx ry ⟨rfl, h.now m ?_⟩
    have : x ≠ .non := fun e => hd (q1.nonIff.mp e)
    simp only [RepD]
    simp [this]
  · exact h.elim

/-! ### ==, in -/
mutual
def toPy : D → PyData
  | .non => .none
  | .bl b => .bool b
  | .int i => .int i
  | .str s => .str ⟨s.toArray⟩
  | .tup xs => .tuple (toPyL xs)
  | .loc _ => .none
  | .fn _ => .none
  | .kd _ => .none
  | .kst _ => .none
def toPyL : List D → List PyData
  | [] => []
  | d :: ds => toPy d :: toPyL ds
end
mutual
theorem plain_toPy : ∀ d : D, (toPy d).plain = true
  | .non => rfl
  | .bl _ => rfl
  | .int _ => rfl
  | .str _ => rfl
  | .tup xs => by simp only [toPy, PyData.plain]; exact plain_toPyL xs
  | .loc _ => rfl
  | .fn _ => rfl
  | .kd _ => rfl
  | .kst _ => rfl
theorem plain_toPyL : ∀ xs : List D, PyData.plainAll (toPyL xs) = true
  | [] => rfl
  | d :: ds => by simp only [toPyL, PyData.plainAll, plain_toPy d, plain_toPyL ds, Bool.and_self]
end
mutual
theorem depth_toPy : ∀ d : D, (toPy d).depth ≤ d.dep
  | .non => by simp [toPy, PyData.depth]
  | .bl _ => by simp [toPy, PyData.depth]
  | .int _ => by simp [toPy, PyData.depth]
  | .str _ => by simp [toPy, PyData.depth]
  | .tup xs => by
    have := depth_toPyL xs
    simp only [toPy, PyData.depth, D.dep]
    omega
  | .loc _ => by simp [toPy, PyData.depth]
  | .fn _ => by simp [toPy, PyData.depth]
  | .kd _ => by simp [toPy, PyData.depth]
  | .kst _ => by simp [toPy, PyData.depth]
theorem depth_toPyL : ∀ xs : List D, PyData.depthAll (toPyL xs) ≤ D.depL xs
  | [] => by simp [toPyL, PyData.depthAll]
  | d :: ds => by
    have h1 := depth_toPy d
    have h2 := depth_toPyL ds
    simp only [toPyL, PyData.depthAll, D.depL]
    omega
end
mutual
theorem eqv_toPy : ∀ a b : D, a.flat = true → b.flat = true → PyData.eqv (toPy a) (toPy b) = a.eqv b
  | .tup xs, .tup ys, h1, h2 => by
    simp only [D.flat] at h1 h2
    simp only [toPy, PyData.eqv, D.eqv]
    exact eqv_toPyL xs ys h1 h2
  | .str x, .str y, _, _ => by
    simp only [toPy, PyData.eqv, D.eqv]
    rw [Bool.eq_iff_iff]; simp
  | .non, b, _, h2 => by cases b <;> first | (simp [D.flat] at h2; done) | simp [toPy, PyData.eqv, D.eqv]
  | .bl _, b, _, h2 => by cases b <;> first | (simp [D.flat] at h2; done) | simp [toPy, PyData.eqv, D.eqv]
  | .int _, b, _, h2 => by cases b <;> first | (simp [D.flat] at h2; done) | simp [toPy, PyData.eqv, D.eqv]
  | .str _, .non, _, _ => by simp [toPy, PyData.eqv, D.eqv]
  | .str _, .bl _, _, _ => by simp [toPy, PyData.eqv, D.eqv]
  | .str _, .int _, _, _ => by simp [toPy, PyData.eqv, D.eqv]
  | .str _, .tup _, _, _ => by simp [toPy, PyData.eqv, D.eqv]
  | .tup _, .non, _, _ => by simp [toPy, PyData.eqv, D.eqv]
  | .tup _, .bl _, _, _ => by simp [toPy, PyData.eqv, D.eqv]
  | .tup _, .int _, _, _ => by simp [toPy, PyData.eqv, D.eqv]
  | .tup _, .str _, _, _ => by simp [toPy, PyData.eqv, D.eqv]
  | .str _, .loc _, _, h => by simp [D.flat] at h
  | .str _, .fn _, _, h => by simp [D.flat] at h
  | .str _, .kd _, _, h => by simp [D.flat] at h
  | .str _, .kst _, _, h => by simp [D.flat] at h
  | .tup _, .loc _, _, h => by simp [D.flat] at h
  | .tup _, .fn _, _, h => by simp [D.flat] at h
  | .tup _, .kd _, _, h => by simp [D.flat] at h
  | .tup _, .kst _, _, h => by simp [D.flat] at h
  | .loc _, _, h, _ => by simp [D.flat] at h
  | .fn _, _, h, _ => by simp [D.flat] at h
  | .kd _, _, h, _ => by simp [D.flat] at h
  | .kst _, _, h, _ => by simp [D.flat] at h
theorem eqv_toPyL : ∀ xs ys : List D, D.flatL xs = true → D.flatL ys = true → PyData.eqvAll (toPyL xs) (toPyL ys) = D.eqvL xs ys
  | [], [], _, _ => by simp [toPyL, PyData.eqvAll, D.eqvL]
  | [], _ :: _, _, _ => by simp [toPyL, PyData.eqvAll, D.eqvL]
  | _ :: _, [], _, _ => by simp [toPyL, PyData.eqvAll, D.eqvL]
  | x :: xs, y :: ys, h1, h2 => by
    simp only [D.flatL, Bool.and_eq_true] at h1 h2
    simp only [toPyL, PyData.eqvAll, D.eqvL, eqv_toPy x y h1.1 h2.1, eqv_toPyL xs ys h1.2 h2.2]
end
mutual
theorem RepD.dp {K : PySem.W.Frag} {ads : Nat → Addr} {k : Nat} {H : Hp} : ∀ (d : D) (v : V), RepD K L ads k H d v → d.flat = true → Dp K H v (toPy d)
  | .non, v, h, _ => by simp only [RepD] at h; subst h; exact .non
  | .bl _, v, h, _ => by simp only [RepD] at h; subst h; exact .bl _
  | .int _, v, h, _ => by simp only [RepD] at h; subst h; exact .int _
  | .str _, v, h, _ => by simp only [RepD] at h; subst h; exact .str _
  | .tup xs, v, h, f => by
    simp only [RepD] at h
    simp only [D.flat] at f
    obtain ⟨a, vs, rfl, h1, h2⟩ := h
    simp only [toPy]
    exact .tup h1 (RepL.dp xs vs h2 f)
  | .loc _, _, _, f => by simp [D.flat] at f
  | .fn _, _, _, f => by simp [D.flat] at f
  | .kd _, _, _, f => by simp [D.flat] at f
  | .kst _, _, _, f => by simp [D.flat] at f
theorem RepL.dp {K : PySem.W.Frag} {ads : Nat → Addr} {k : Nat} {H : Hp} : ∀ (xs : List D) (vs : List V), RepL K L ads k H xs vs → D.flatL xs = true → DpAll K H vs (toPyL xs)
  | [], vs, h, _ => by simp only [RepL] at h; subst h; exact .nil
  | d :: ds, vs, h, f => by
    simp only [RepL] at h
    simp only [D.flatL, Bool.and_eq_true] at f
    obtain ⟨v, r, rfl, h1, h2⟩ := h
    simp only [toPyL]
    exact .cons (RepD.dp d v h1 f.1) (RepL.dp ds r h2 f.2)
end
/-- what == gives, of what reads as data -/
theorem eq_of {neg : Bool} (hu : X.A.units + 200 < cLine) {pins : List (Addr × Obj)} {s : Shared} {σ : St} {H : Hp} {x y : V} {v u : Value} {Q : VK} {d e : PyData} (I : Inv X pins σ H s) (rx : RelV x v) (ry : RelV y u)
    (hd : Dp X.K H x d) (he : Dp X.K H y e) (pd : d.plain = true) (pe : e.plain = true) (hm : min d.depth e.depth ≤ 180) (q : Q (.bl (if neg then !PyData.eqv d e else PyData.eqv d e)) H) :
    wpAny (model X.prog X.w) X.A (compareOp (if neg then .NotEq else .Eq) v u) (EP X pins σ Q) X.xe s := by
  obtain ⟨as, w1⟩ := Dp.reads I d x v hd rx
  obtain ⟨bs, w2⟩ := Dp.reads I e y u he ry
  cases neg with
  | true => exact SeqAt.ne_plain w1 w2 pd pe (by omega) ⟨.bl _, H, I, rfl, q⟩
  | false => exact SeqAt.eq_plain w1 w2 pd pe (by omega) ⟨.bl _, H, I, rfl, q⟩
theorem rep_dp_list {K : PySem.W.Frag} {ads : Nat → Addr} {H : Hp} {M : Mem} {n : Nat} {xs : List D} (m : RepM K L ads H M) (h : rdL M n = some xs) (f : D.flatL xs = true) : Dp K H (.ref (ads n)) (.list (toPyL xs)) := by
  obtain ⟨vs, _, h1, h2⟩ := rep_rd m h
  exact .lst h1 (RepL.dp _ _ h2 f)
theorem eqv_list_other {xs : List PyData} {d : D} : PyData.eqv (.list xs) (toPy d) = false ∧ PyData.eqv (toPy d) (.list xs) = false := by
  cases d <;> simp [toPy, PyData.eqv]
theorem dEq_ok {neg : Bool} (hu : X.A.units + 200 < cLine) {pins : List (Addr × Obj)} {s : Shared} {σ : St} {H : Hp} {x y : V} {v u : Value} {Q : VK} {d1 d2 : D} {ads : Nat → Addr} {M : Mem} {b : Bool} (I : Inv X pins σ H s) (rx : RelV x v) (ry : RelV y u)
    (m : RepM X.K L ads H M) (q1 : RepD X.K L ads M.length H d1 x) (q2 : RepD X.K L ads M.length H d2 y) (h : dEq d1 d2 M = some b) (q : Q (.bl (if neg then !b else b)) H) :
    wpAny (model X.prog X.w) X.A (compareOp (if neg then .NotEq else .Eq) v u) (EP X pins σ Q) X.xe s := by
  unfold dEq at h
  split at h
  · split at h
    · split at h
      · rename_i a b' _ xs ys ha hb hc
        simp only [Bool.and_eq_true, decide_eq_true_eq] at hc
        simp only [RepD] at q1 q2
        obtain ⟨_, rfl⟩ := q1
        obtain ⟨_, rfl⟩ := q2
        cases h
        refine eq_of hu I rx ry (rep_dp_list m ha hc.1.1) (rep_dp_list m hb hc.1.2) (by simp only [PyData.plain, plain_toPyL]) (by simp only [PyData.plain, plain_toPyL]) ?_ ?_
        · have h1 := depth_toPyL xs
          have h2 := depth_toPyL ys
          simp only [PyData.depth]
          omega
        · simp only [PyData.eqv, eqv_toPyL xs ys hc.1.1 hc.1.2]; exact q
      · cases h
    · cases h
  · split at h
    · split at h
      · rename_i a _ _ _ xs ha hc
        simp only [Bool.and_eq_true, decide_eq_true_eq] at hc
        simp only [RepD] at q1
        obtain ⟨_, rfl⟩ := q1
        cases h
        refine eq_of hu I rx ry (rep_dp_list m ha hc.1.1) (RepD.dp _ _ q2 hc.1.2) (by simp only [PyData.plain, plain_toPyL]) (plain_toPy _) ?_ (by rw [eqv_list_other.1]; exact q)
        have h1 := depth_toPyL xs
        have h2 := depth_toPy d2
        simp only [PyData.depth]
        omega
      · cases h
    · cases h
  · split at h
    · split at h
      · rename_i a _ _ _ xs ha hc
        simp only [Bool.and_eq_true, decide_eq_true_eq] at hc
        simp only [RepD] at q2
        obtain ⟨_, rfl⟩ := q2
        cases h
        refine eq_of hu I rx ry (RepD.dp _ _ q1 hc.1.1) (rep_dp_list m ha hc.1.2) (plain_toPy _) (by simp only [PyData.plain, plain_toPyL]) ?_ (by rw [eqv_list_other.2]; exact q)
        have h1 := depth_toPyL xs
        have h2 := depth_toPy d1
        simp only [PyData.depth]
        omega
      · cases h
    · cases h
  · split at h
    · rename_i hc
      simp only [Bool.and_eq_true, decide_eq_true_eq] at hc
      cases h
      refine eq_of hu I rx ry (RepD.dp _ _ q1 hc.1.1) (RepD.dp _ _ q2 hc.1.2) (plain_toPy _) (plain_toPy _) ?_ ?_
      · have h1 := depth_toPy d1
        have h2 := depth_toPy d2
        omega
      · rw [eqv_toPy _ _ hc.1.1 hc.1.2]; exact q
    · cases h
theorem op_dEq (hu : X.A.units + 200 < cLine) : OpR X (compareOp .Eq) (r2 X.K L E dEqB) := by
  intro pins s σ H x y v u Q I rx ry ⟨d1, d2, ads, M, m, q1, q2, h⟩
  unfold dEqB at h
  split at h
  · rename_i b hb
    exact dEq_ok (neg := false) hu I rx ry m q1 q2 hb (h.now m (by simp only [RepD]; rfl))
  · exact h.elim
theorem op_dNe (hu : X.A.units + 200 < cLine) : OpR X (compareOp .NotEq) (r2 X.K L E dNeB) := by
  intro pins s σ H x y v u Q I rx ry ⟨d1, d2, ads, M, m, q1, q2, h⟩
  unfold dNeB at h
  split at h
  · rename_i b hb
    exact dEq_ok (neg := true) hu I rx ry m q1 q2 hb (h.now m (by simp only [RepD]; rfl))
  · exact h.elim
end
end PK
end

section
set_option Elab.async false
set_option linter.all false
set_option maxHeartbeats 4000000
set_option maxRecDepth 100000
/-! PKd: in, subscripts, slices, *, built-ins by values. -/
namespace PK
open PySem L2 PySem.Spec PyProof.Rows

/-- the constant dicts: of each text asked, the value or none -/
def KdOk (P : Program) (w : World) (K : PySem.W.Frag) (L : Lk) (T : Nat → List (List Nat × Option D)) : Prop :=
  ∀ n, T n ≠ [] → (∃ es m, KDict K w (L.kd n) es m) ∧ ∀ s o, (T n).lookup s = some o → match o with
    | some d => ∃ u v, PySem.W.nsIn K (L.kd n) ⟨s.toArray⟩ = some (some u) ∧ RelV v u ∧ ∀ ads k H, RepD K L ads k H d v
    | none => PySem.W.nsIn K (L.kd n) ⟨s.toArray⟩ = some none
section
variable {X : Cx} {L : Lk} {E : XK} {T : Nat → List (List Nat × Option D)}
theorem any_toPy {d : D} (f : d.flat = true) : ∀ {xs : List D}, D.flatL xs = true → ((toPyL xs).any fun z => PyData.eqv z (toPy d)) = xs.any fun z => z.eqv d
  | [], _ => rfl
  | x :: r, h => by
    simp only [D.flatL, Bool.and_eq_true] at h
    simp only [toPyL, List.any_cons, eqv_toPy x d h.1 f, any_toPy f h.2]
theorem paired_any {K : PySem.W.Frag} {ads : Nat → Addr} {k : Nat} {H : Hp} {x : D} {key : Key} (hx : keyV x = some key) : ∀ {kvs : List (D × D)} {ws : List (Key × V)}, Paired (fun (p : D × D) (q : Key × V) => keyV p.1 = some q.1 ∧ RepD K L ads k H p.2 q.2) kvs ws →
    (kvs.any fun p => p.1.eqv x) = (valV ws key).isSome ∧ ∀ d, (kvs.find? fun p => p.1.eqv x).map (·.2) = some d → ∃ v, valV ws key = some v ∧ RepD K L ads k H d v
  | _, _, .nil => ⟨rfl, fun d e => by simp at e⟩
  | _, _, .cons (a := p) (b := q) r t => by
    obtain ⟨i1, i2⟩ := paired_any hx t
    have he : p.1.eqv x = decide (q.1 = key) := by
      obtain ⟨h1, _⟩ := r
      revert h1 hx
      generalize p.1 = y
      generalize q.1 = z
      intro h2 h1
      cases y <;> simp only [keyV] at h1 <;> cases x <;> simp only [keyV] at h2 <;> (try cases h1) <;> (try cases h2) <;> simp [D.eqv, Bool.beq_eq_decide_eq]
    by_cases hq : q.1 = key
    · rw [valV_pos hq]
      rw [decide_eq_true hq] at he
      refine ⟨by simp [he], fun d e => ?_⟩
      rw [List.find?_cons, he] at e
      simp at e; subst e
      exact ⟨q.2, rfl, r.2⟩
    · rw [valV_neg hq]
      rw [decide_eq_false hq] at he
      refine ⟨by simp [he, i1], fun d e => ?_⟩
      rw [List.find?_cons, he] at e
      exact i2 d e
theorem keyV_rep {K : PySem.W.Frag} {ads : Nat → Addr} {k : Nat} {H : Hp} {x : D} {key : Key} {v : V} (hx : keyV x = some key) (r : RepD K L ads k H x v) : v = kV key := by
  cases x <;> simp only [keyV] at hx <;> (try cases hx) <;> simp only [RepD] at r <;> subst r <;> rfl
theorem in_ok {neg : Bool} (hk : KdOk X.prog X.w X.K L T) (hu : X.A.units + 200 < cLine) {pins : List (Addr × Obj)} {s : Shared} {σ : L2.St} {H : Hp} {x y : V} {v u : Value} {Q : VK} {d1 d2 : D} {ads : Nat → Addr} {M : Mem} {b : Bool} (I : Inv X pins σ H s) (rx : RelV x v) (ry : RelV y u)
    (m : RepM X.K L ads H M) (q1 : RepD X.K L ads M.length H d1 x) (q2 : RepD X.K L ads M.length H d2 y) (h : dIn T d1 d2 M = some b) (q : Q (.bl (if neg then !b else b)) H) :
    wpAny (model X.prog X.w) X.A (compareOp (if neg then .NotIn else .In) v u) (EP X pins σ Q) X.xe s := by
  unfold dIn at h
  split at h
  · simp only [RepD] at q1 q2
    subst q1 q2
    cases h
    cases neg with
    | true => exact op_notIn_sign pins s σ H _ _ v u Q I rx ry ⟨_, _, rfl, rfl, by simpa using q⟩
    | false => exact op_in_sign pins s σ H _ _ v u Q I rx ry ⟨_, _, rfl, rfl, by simpa using q⟩
  · split at h
    · rename_i ys hc
      simp only [Bool.and_eq_true, decide_eq_true_eq] at hc
      cases h
      obtain ⟨as, w1⟩ := Dp.reads I _ x v (RepD.dp _ _ q1 hc.1.1) rx
      have h2 : Dp X.K H y (.tuple (toPyL ys)) := RepD.dp (.tup ys) y q2 (by simp only [D.flat]; exact hc.1.2)
      obtain ⟨bs, w2⟩ := Dp.reads I _ y u h2 ry
      have hd := depth_toPyL ys
      rw [← any_toPy hc.1.1 (xs := ys) hc.1.2] at q
      cases neg with
      | true => exact SeqAt.notIn_tuple_data w2 w1 (plain_toPyL _) (plain_toPy _) (by omega) ⟨.bl _, H, I, rfl, q⟩
      | false => exact SeqAt.in_tuple_data w2 w1 (plain_toPyL _) (plain_toPy _) (by omega) ⟨.bl _, H, I, rfl, q⟩
    · cases h
  · rename_i n
    simp only [RepD] at q1 q2
    subst q1 q2
    cases hl : (T n).lookup _ with
    | none => unfold kget at h; rw [hl] at h; cases h
    | some o =>
      unfold kget at h; rw [hl] at h
      have hne : T n ≠ [] := fun e => by rw [e] at hl; cases hl
      obtain ⟨⟨es, m', D⟩, hv⟩ := hk n hne
      have := hv _ o hl
      cases o with
      | none =>
        cases h
        cases neg with
        | true => exact op_notIn_kd D pins s σ H _ _ v u Q I rx ry ⟨_, _, rfl, rfl, this, q⟩
        | false => exact op_in_kd D pins s σ H _ _ v u Q I rx ry ⟨_, _, rfl, rfl, this, q⟩
      | some d =>
        obtain ⟨u', v', e1, _, _⟩ := this
        cases h
        cases neg with
        | true => exact op_notIn_kd D pins s σ H _ _ v u Q I rx ry ⟨_, _, rfl, rfl, e1, q⟩
        | false => exact op_in_kd D pins s σ H _ _ v u Q I rx ry ⟨_, _, rfl, rfl, e1, q⟩
  · split at h
    · split at h
      · rename_i ys ha hc
        simp only [Bool.and_eq_true, decide_eq_true_eq] at hc
        simp only [RepD] at q2
        obtain ⟨_, rfl⟩ := q2
        cases h
        obtain ⟨as, w1⟩ := Dp.reads I _ x v (RepD.dp _ _ q1 hc.1.1) rx
        obtain ⟨bs, w2⟩ := Dp.reads I _ _ u (rep_dp_list m ha hc.1.2) ry
        have hd := depth_toPyL ys
        rw [← any_toPy hc.1.1 (xs := ys) hc.1.2] at q
        cases neg with
        | true => exact SeqAt.notIn_list_data w2 w1 (plain_toPyL _) (plain_toPy _) (by omega) ⟨.bl _, H, I, rfl, q⟩
        | false => exact SeqAt.in_list_data w2 w1 (plain_toPyL _) (plain_toPy _) (by omega) ⟨.bl _, H, I, rfl, q⟩
      · cases h
    · rename_i a _ _ kvs _ ha
      have hkey : ∃ key, keyV d1 = some key ∧ b = kvs.any fun p => p.1.eqv d1 := by
        split at h
        · cases h; exact ⟨_, rfl, rfl⟩
        · cases h; exact ⟨_, rfl, rfl⟩
        · cases h
      obtain ⟨key, hkey, rfl⟩ := hkey
      simp only [RepD] at q2
      obtain ⟨_, rfl⟩ := q2
      obtain ⟨ws, hn, _, hd, rp⟩ := rep_dic m ha
      have hg : DGet H (ads a) x (valV ws key) := by rw [keyV_rep hkey q1]; exact .k hd
      rw [(paired_any hkey rp).1] at q
      cases (show u = Value.ref _ from ry)
      cases neg with
      | true => exact d_notIn (by omega) I hg rx fun s' I' => ⟨.bl _, H, I', rfl, q⟩
      | false => exact d_in (by omega) I hg rx fun s' I' => ⟨.bl _, H, I', rfl, q⟩
    · cases h
  · cases h
theorem op_dIn (hk : KdOk X.prog X.w X.K L T) (hu : X.A.units + 200 < cLine) : OpR X (compareOp .In) (r2 X.K L E (dInB T)) := by
  intro pins s σ H x y v u Q I rx ry ⟨d1, d2, ads, M, m, q1, q2, h⟩
  unfold dInB at h
  split at h
  · rename_i b hb
    exact in_ok (neg := false) hk hu I rx ry m q1 q2 hb (h.now m (by simp only [RepD]; rfl))
  · exact h.elim
theorem op_dNotIn (hk : KdOk X.prog X.w X.K L T) (hu : X.A.units + 200 < cLine) : OpR X (compareOp .NotIn) (r2 X.K L E (dNotInB T)) := by
  intro pins s σ H x y v u Q I rx ry ⟨d1, d2, ads, M, m, q1, q2, h⟩
  unfold dNotInB at h
  split at h
  · rename_i b hb
    exact in_ok (neg := true) hk hu I rx ry m q1 q2 hb (h.now m (by simp only [RepD]; rfl))
  · exact h.elim

/-! ### o[i] -/
theorem atI_map {α β : Type} (f : α → β) (xs : List α) (i : Int) : atI (xs.map f) i = (atI xs i).map f := by
  unfold atI
  rw [List.length_map]
  cases ixN xs.length i with
  | none => rfl
  | some j => simp
theorem rep_atI {K : PySem.W.Frag} {ads : Nat → Addr} {k : Nat} {H : Hp} {xs : List D} {vs : List V} {i : Int} {d : D} (r : RepL K L ads k H xs vs) (h : atI xs i = some d) : ∃ v, atI vs i = some v ∧ RepD K L ads k H d v := by
  unfold atI at h ⊢
  rw [← r.length]
  cases e : ixN xs.length i with
  | none => rw [e] at h; cases h
  | some j =>
    rw [e] at h
    exact r.get h
theorem ix_d (hk : KdOk X.prog X.w X.K L T) (hu : X.A.units + 200 < cLine) {value slice : Expr} {pins : List (Addr × Obj)} {s : Shared} {σ : L2.St} {H : Hp} {x y : V} {v u : Value} {Q : VK} (I : Inv X pins σ H s) (rx : RelV x v) (ry : RelV y u) (h : r2 X.K L E (dIx T) x y H Q)
    (hs : subscripted slice false v u = operate [v, u] (getItem v u)) : wpAny (model X.prog X.w) X.A (subscriptTail value slice v u) (EP X pins σ Q) X.xe s := by
  obtain ⟨d1, d2, ads, M, m, q1, q2, h⟩ := h
  unfold dIx at h
  split at h
  · rename_i xs i
    simp only [RepD] at q1 q2
    obtain ⟨a, vs, rfl, ha, rl⟩ := q1
    subst q2
    cases e : atI xs i with
    | none => rw [e] at h; exact h.elim
    | some d =>
      rw [e] at h
      obtain ⟨v', ev, rv⟩ := rep_atI rl e
      exact ix_tup value slice pins s σ H _ _ v u Q I rx ry ⟨a, vs, i, v', rfl, rfl, ha, ev, h.now m rv⟩ hs
  · split at h
    · rename_i z i hz
      simp only [RepD] at q1 q2
      subst q1 q2
      cases e : atI z i with
      | none => rw [e] at h; exact h.elim
      | some c =>
        rw [e] at h
        refine ix_str value slice pins s σ H _ _ v u Q I rx ry ⟨_, i, c, rfl, rfl, ?_, e, h.now m ?_⟩ hs
        · rw [sizeLine16]; simpa [Str.length] using hz
        · simp only [RepD]
    · exact h.elim
  · rename_i n z
    simp only [RepD] at q1 q2
    subst q1 q2
    cases hl : (T n).lookup z with
    | none => unfold kget at h; rw [hl] at h; exact h.elim
    | some o =>
      unfold kget at h; rw [hl] at h
      have hne : T n ≠ [] := fun e => by rw [e] at hl; cases hl
      obtain ⟨⟨es, m', D⟩, hv⟩ := hk n hne
      have := hv _ o hl
      cases o with
      | none => exact h.elim
      | some d =>
        obtain ⟨u', v', e1, rv, rd⟩ := this
        cases (show v = Value.ref (L.kd n) from rx)
        refine tail_any (kd_type D I) PySem.F.slot_dict_getitem.lookup ?_ hs
        exact op_item_kd D pins s σ H (V.ref (L.kd n)) _ _ u Q I rfl ry ⟨_, u', v', rfl, rfl, e1, rv, h.now m (rd _ _ _)⟩
  · split at h
    · rename_i i _ _ xs ha
      simp only [RepD] at q1 q2
      obtain ⟨_, rfl⟩ := q1
      subst q2
      obtain ⟨vs, hn, h1, rl⟩ := rep_rd m ha
      cases e : atI xs i with
      | none => rw [e] at h; exact h.elim
      | some d =>
        rw [e] at h
        obtain ⟨v', ev, rv⟩ := rep_atI rl e
        exact ix_list value slice pins s σ H _ _ v u Q I rx ry ⟨_, vs, i, v', rfl, rfl, h1, ev, h.now m (RepD.up (Nat.le_of_lt hn) _ _ rv)⟩ hs
    · rename_i a i _ _ kvs _ ha
      simp only [RepD] at q1
      obtain ⟨_, rfl⟩ := q1
      obtain ⟨ws, hn, _, hd, rp⟩ := rep_dic m ha
      cases e : (kvs.find? fun p => p.1.eqv (.int i)).map (·.2) with
      | none => rw [e] at h; exact h.elim
      | some d =>
        rw [e] at h
        obtain ⟨v', ev, rv⟩ := (paired_any (x := .int i) rfl rp).2 d e
        have hg : DGet H (ads a) y (some v') := by rw [← ev, keyV_rep (x := .int i) rfl q2]; exact .k hd
        cases (show v = Value.ref _ from rx)
        refine tail_any (dict_typeIs I hg) PySem.F.slot_dict_getitem.lookup ?_ hs
        exact d_getItem (by omega) I hg ry fun w' s' I' rw' => ⟨v', H, I', rw', h.now m (RepD.up (Nat.le_of_lt hn) _ _ rv)⟩
    · exact h.elim
  · split at h
    · rename_i a z _ kvs ha
      simp only [RepD] at q1
      obtain ⟨_, rfl⟩ := q1
      obtain ⟨ws, hn, _, hd, rp⟩ := rep_dic m ha
      cases e : (kvs.find? fun p => p.1.eqv (.str z)).map (·.2) with
      | none => rw [e] at h; exact h.elim
      | some d =>
        rw [e] at h
        obtain ⟨v', ev, rv⟩ := (paired_any (x := .str z) rfl rp).2 d e
        have hg : DGet H (ads a) y (some v') := by rw [← ev, keyV_rep (x := .str z) rfl q2]; exact .k hd
        cases (show v = Value.ref _ from rx)
        refine tail_any (dict_typeIs I hg) PySem.F.slot_dict_getitem.lookup ?_ hs
        exact d_getItem (by omega) I hg ry fun w' s' I' rw' => ⟨v', H, I', rw', h.now m (RepD.up (Nat.le_of_lt hn) _ _ rv)⟩
    · exact h.elim
  · exact h.elim

/-! ### slices -/
theorem rep_cut {K : PySem.W.Frag} {ads : Nat → Addr} {k : Nat} {H : Hp} {xs : List D} {vs : List V} (r : RepL K L ads k H xs vs) (lo hi : Option Int) : RepL K L ads k H (cut xs lo hi) (cutV vs lo hi) := by
  unfold cut cutV
  rw [← r.length]
  exact (r.drop _).take _
theorem cut_all {α : Type} {xs : List α} {lo hi : Option Int} (h : HT.sIx xs.length 0 lo = 0 ∧ HT.sIx xs.length xs.length hi = xs.length) : cut xs lo hi = xs := by
  unfold cut
  rw [h.1, h.2]
  simp
def rCutD (K : PySem.W.Frag) (L : Lk) (E : XK) : V → Option Int → Option Int → Hp → VK → Prop := fun x lo hi H Q => ∃ d ads M, RepM K L ads H M ∧ RepD K L ads M.length H d x ∧ OutP K L ads M H (dCut lo hi d M) Q E
theorem cutS_eq {z : List Nat} (lo hi : Option Int) : cutS ⟨z.toArray⟩ lo hi = ⟨(cut z lo hi).toArray⟩ := by
  unfold cutS cut Str.length
  simp
theorem sl_d : SlR X (rCutD X.K L E) := by
  intro pins s σ H x v vl vu lo hi sl Q I rx hs pl pu ⟨d, ads, M, m, q1, h⟩
  unfold dCut at h
  split at h
  · rename_i xs
    simp only [RepD] at q1
    obtain ⟨a, vs, rfl, ha, rl⟩ := q1
    refine sl_tupA pins s σ H _ v vl vu lo hi sl Q I rx hs pl pu ⟨a, vs, rfl, ha, fun hw => ?_, fun hw p hp => ?_⟩
    · refine h.now m ?_
      rw [← rl.length] at hw
      rw [cut_all hw]
      simp only [RepD]
      exact ⟨a, vs, rfl, ha, rl⟩
    · refine h.new m hp ?_
      simp only [RepD]
      exact ⟨p, _, rfl, .of upd_same, (rep_cut rl lo hi).new hp⟩
  · split at h
    · rename_i a xs ha
      simp only [RepD] at q1
      obtain ⟨_, rfl⟩ := q1
      obtain ⟨vs, hn, h1, rl⟩ := rep_rd m ha
      refine sl_list pins s σ H _ v vl vu lo hi sl Q I rx hs pl pu ⟨_, vs, rfl, h1, fun p hp => ?_⟩
      exact h.alloc m hp ⟨_, upd_same, (rep_cut (rl.up' hn) lo hi).new hp⟩
    · exact h.elim
  · split at h
    · rename_i z hz
      simp only [RepD] at q1
      subst q1
      refine sl_str pins s σ H _ v vl vu lo hi sl Q I rx hs pl pu ⟨_, rfl, ?_, h.now m ?_⟩
      · rw [sizeLine16]; simpa [Str.length] using hz
      · simp only [RepD]; rw [cutS_eq]
    · exact h.elim
  · rename_i ns
    simp only [RepD] at q1
    obtain ⟨a, rfl, hk⟩ := q1
    have h1 : SqL X.K H a (ns.map V.int) := hk.elim (fun ⟨ob, z⟩ => .inl (.inr ⟨ob, z⟩)) .inr
    refine sl_list pins s σ H _ v vl vu lo hi sl Q I rx hs pl pu ⟨_, _, rfl, h1, fun p hp => ?_⟩
    refine h.alloc m hp ⟨_, upd_same, ?_⟩
    have e : cutV (ns.map V.int) lo hi = (cut ns lo hi).map V.int := by
      unfold cutV cut
      rw [List.length_map, ← List.map_drop, ← List.map_take]
    rw [e]
    exact RepL.map_of (fun i => by simp only [RepD]) _
  · exact h.elim

/-! ### built-ins -/
theorem call_dLen : CallR X (.builtin "len") (rN X.K L E (dLen T)) := by
  intro pins s σ H xs us Q I rv ⟨ds, ads, M, m, q, h⟩
  unfold dLen at h
  split at h
  · rename_i ys
    simp only [RepL, RepD] at q
    obtain ⟨v, r, rfl, ⟨a, vs, rfl, ha, rl⟩, rfl⟩ := q
    refine call_len pins s σ H _ us Q I rv ⟨_, _, rfl, .inr ⟨vs, ha, rfl⟩, ?_⟩
    rw [← rl.length]
    exact h.now m (by simp only [RepD])
  · split at h
    · rename_i z hz
      simp only [RepL, RepD] at q
      obtain ⟨v, r, rfl, rfl, rfl⟩ := q
      refine call_len pins s σ H _ us Q I rv ⟨_, z.length, rfl, ⟨?_, ?_⟩, h.now m (by simp only [RepD])⟩
      · rw [sizeLine16]; simpa [Str.length] using hz
      · simp [Str.length]
    · exact h.elim
  · split at h
    · rename_i xs _ ha
      simp only [RepL, RepD] at q
      obtain ⟨v, r, rfl, ⟨_, rfl⟩, rfl⟩ := q
      obtain ⟨vs, hn, h1, rl⟩ := rep_rd m ha
      refine call_len pins s σ H _ us Q I rv ⟨_, _, rfl, .inl ⟨vs, h1, rfl⟩, ?_⟩
      rw [← rl.length]
      exact h.now m (by simp only [RepD])
    · rename_i kvs _ ha
      simp only [RepL, RepD] at q
      obtain ⟨v, r, rfl, ⟨_, rfl⟩, rfl⟩ := q
      obtain ⟨ws, hn, _, hd, rp⟩ := rep_dic m ha
      obtain ⟨u, rfl, ru⟩ := vals1 rv
      cases (show u = Value.ref _ from ru)
      refine d_len I (.inl hd) fun t s' I' => ⟨.int ws.length, H, I', ⟨t, rfl⟩, ?_⟩
      have := Paired.length rp
      rw [← this]
      exact h.now m (by simp only [RepD])
    · exact h.elim
  · exact h.elim
/-- the class's name -/
def Ty.nm : Ty → String
  | .int => "int" | .bool => "bool" | .str => "str" | .tuple => "tuple" | .list => "list" | .dict => "dict" | .own _ => ""
theorem tyx_tup {K : PySem.W.Frag} {H : Hp} {a : Addr} {vs : List V} (h : SqT K H a vs) : TyX K H (.ref a) (.type "tuple") := by
  rcases h with (h | ⟨o, h⟩) | ⟨o, its, n, h1, h2, _⟩
  · exact .base (.tup h)
  · exact .fTuple h
  · exact .kTuple h1 h2
theorem call_dIsi {t : Ty} (ht : ∀ c, t ≠ .own c) : CallR X (.builtin "isinstance") (fun xs H Q => ∃ x d ads M, xs = [x, .ty t.nm] ∧ RepM X.K L ads H M ∧ RepD X.K L ads M.length H d x ∧ OutP X.K L ads M H (dIsi t d M) Q E) := by
  intro pins s σ H xs us Q I rv ⟨x, d, ads, M, ex, m, q, h⟩
  have go : ∀ (ty : String) (b : Bool), TyX X.K H x (.type ty) → kitB ty t.nm = some b → Q (.bl b) H → wpAny (model X.prog X.w) X.A (call (.builtin "isinstance") us) (EP X pins σ Q) X.xe s := fun ty b h1 h2 h3 =>
    call_isi pins s σ H xs us Q I rv ⟨x, _, _, _, b, ex, .ty _, h1, kit_ty h2, h3⟩
  unfold dIsi at h
  cases e : isiB t d M with
  | none => rw [e] at h; exact h.elim
  | some b =>
    rw [e] at h
    have hq : Q (.bl b) H := h.now m (by simp only [RepD])
    cases d with
    | non => simp only [RepD] at q; subst q; cases t <;> simp only [isiB] at e <;> (first | exact absurd rfl (ht _) | (cases e; exact go "NoneType" _ (.base .non) (by decide +kernel) hq))
    | bl _ => simp only [RepD] at q; subst q; cases t <;> simp only [isiB] at e <;> (first | exact absurd rfl (ht _) | (cases e; exact go "bool" _ (.base (.bl _)) (by decide +kernel) hq))
    | int _ => simp only [RepD] at q; subst q; cases t <;> simp only [isiB] at e <;> (first | exact absurd rfl (ht _) | (cases e; exact go "int" _ (.base (.int _)) (by decide +kernel) hq))
    | str _ => simp only [RepD] at q; subst q; cases t <;> simp only [isiB] at e <;> (first | exact absurd rfl (ht _) | (cases e; exact go "str" _ (.base (.str _)) (by decide +kernel) hq))
    | tup _ =>
      simp only [RepD] at q
      obtain ⟨a, vs, rfl, ha, rl⟩ := q
      cases t <;> simp only [isiB] at e <;> (first | exact absurd rfl (ht _) | (cases e; exact go "tuple" _ (tyx_tup ha) (by decide +kernel) hq))
    | fn _ => cases t <;> simp [isiB] at e
    | kd _ => cases t <;> simp [isiB] at e
    | kst _ => cases t <;> simp [isiB] at e
    | loc n =>
      simp only [RepD] at q
      obtain ⟨hn, rfl⟩ := q
      have lst : ∀ xs, (M[n]? = some (.lst xs) ∨ M[n]? = some (.lck xs)) → TyX X.K H (.ref (ads n)) (.type "list") := fun xs hx => by
        rcases hx with hx | hx
        · obtain ⟨vs, h1, _⟩ := m.at_ n _ hx; exact .base (.lst h1)
        · obtain ⟨vs, h1, _⟩ := m.at_ n _ hx; exact .base (.lst h1)
      cases eo : M[n]? with
      | none => cases t <;> simp [isiB, eo] at e
      | some o =>
        cases o with
        | lst ys => cases t <;> simp only [isiB, eo] at e <;> (first | exact absurd rfl (ht _) | (cases e; exact go "list" _ (lst ys (.inl eo)) (by decide +kernel) hq))
        | lck ys => cases t <;> simp only [isiB, eo] at e <;> (first | exact absurd rfl (ht _) | (cases e; exact go "list" _ (lst ys (.inr eo)) (by decide +kernel) hq))
        | dic kvs =>
          obtain ⟨ws, h1, _⟩ := m.at_ n _ eo
          cases t <;> simp only [isiB, eo] at e <;> (first | exact absurd rfl (ht _) | (cases e; exact go "dict" _ (.base (.dK h1)) (by decide +kernel) hq))
        | ins c fs => cases t <;> first | exact absurd rfl (ht _) | simp [isiB, eo] at e
theorem call_dTuple : CallR X (.type "tuple") (rN X.K L E dTuple) := by
  intro pins s σ H xs us Q I rv ⟨ds, ads, M, m, q, h⟩
  unfold dTuple at h
  split at h
  · simp only [RepL] at q
    obtain ⟨v, r, rfl, hv, rfl⟩ := q
    have hv' := hv
    simp only [RepD] at hv'
    obtain ⟨a, vs, rfl, ha, rl⟩ := hv'
    exact call_tuple_of pins s σ H _ us Q I rv ⟨a, vs, rfl, .inr ⟨ha, h.now m hv⟩⟩
  · split at h
    · rename_i xs ha
      simp only [RepL, RepD] at q
      obtain ⟨v, r, rfl, ⟨_, rfl⟩, rfl⟩ := q
      obtain ⟨vs, hn, h1, rl⟩ := rep_rd m ha
      refine call_tuple_of pins s σ H _ us Q I rv ⟨_, vs, rfl, .inl ⟨h1, fun p hp => h.new m hp ?_⟩⟩
      simp only [RepD]
      exact ⟨p, vs, rfl, .of upd_same, (rl.up' hn).new hp⟩
    · exact h.elim
  · exact h.elim
theorem call_dList : CallR X (.type "list") (rN X.K L E dList) := by
  intro pins s σ H xs us Q I rv ⟨ds, ads, M, m, q, h⟩
  unfold dList at h
  split at h
  · simp only [RepL, RepD] at q
    obtain ⟨v, r, rfl, ⟨a, vs, rfl, ha, rl⟩, rfl⟩ := q
    exact call_list_of pins s σ H _ us Q I rv ⟨a, vs, rfl, .inr ha, fun p hp => h.alloc m hp ⟨vs, upd_same, rl.new hp⟩⟩
  · split at h
    · rename_i xs ha
      simp only [RepL, RepD] at q
      obtain ⟨v, r, rfl, ⟨_, rfl⟩, rfl⟩ := q
      obtain ⟨vs, hn, h1, rl⟩ := rep_rd m ha
      exact call_list_of pins s σ H _ us Q I rv ⟨_, vs, rfl, .inl h1, fun p hp => h.alloc m hp ⟨vs, upd_same, (rl.up' hn).new hp⟩⟩
    · exact h.elim
  · exact h.elim
theorem rep_ints {K : PySem.W.Frag} {ads : Nat → Addr} {k : Nat} {H : Hp} : ∀ {xs : List D} {vs : List V} {ns : List Int}, RepL K L ads k H xs vs → intsOf xs = some ns → vs = ns.map V.int
  | [], vs, ns, h, e => by simp only [RepL] at h; simp only [intsOf] at e; cases e; subst h; rfl
  | .int i :: xs, vs, ns, h, e => by
    simp only [RepL, RepD] at h
    obtain ⟨v, r, rfl, rfl, h2⟩ := h
    simp only [intsOf] at e
    cases e2 : intsOf xs with
    | none => rw [e2] at e; cases e
    | some ms => rw [e2] at e; cases e; rw [rep_ints h2 e2]; rfl
  | .non :: _, _, _, _, e => by simp [intsOf] at e
  | .bl _ :: _, _, _, _, e => by simp [intsOf] at e
  | .str _ :: _, _, _, _, e => by simp [intsOf] at e
  | .tup _ :: _, _, _, _, e => by simp [intsOf] at e
  | .loc _ :: _, _, _, _, e => by simp [intsOf] at e
  | .fn _ :: _, _, _, _, e => by simp [intsOf] at e
  | .kd _ :: _, _, _, _, e => by simp [intsOf] at e
  | .kst _ :: _, _, _, _, e => by simp [intsOf] at e
theorem rep_bls {K : PySem.W.Frag} {ads : Nat → Addr} {k : Nat} {H : Hp} : ∀ {xs : List D} {vs : List V} {bs : List Bool}, RepL K L ads k H xs vs → blsOf xs = some bs → vs = bs.map V.bl
  | [], vs, ns, h, e => by simp only [RepL] at h; simp only [blsOf] at e; cases e; subst h; rfl
  | .bl i :: xs, vs, ns, h, e => by
    simp only [RepL, RepD] at h
    obtain ⟨v, r, rfl, rfl, h2⟩ := h
    simp only [blsOf] at e
    cases e2 : blsOf xs with
    | none => rw [e2] at e; cases e
    | some ms => rw [e2] at e; cases e; rw [rep_bls h2 e2]; rfl
  | .non :: _, _, _, _, e => by simp [blsOf] at e
  | .int _ :: _, _, _, _, e => by simp [blsOf] at e
  | .str _ :: _, _, _, _, e => by simp [blsOf] at e
  | .tup _ :: _, _, _, _, e => by simp [blsOf] at e
  | .loc _ :: _, _, _, _, e => by simp [blsOf] at e
  | .fn _ :: _, _, _, _, e => by simp [blsOf] at e
  | .kd _ :: _, _, _, _, e => by simp [blsOf] at e
  | .kst _ :: _, _, _, _, e => by simp [blsOf] at e
theorem rep_strs {K : PySem.W.Frag} {ads : Nat → Addr} {k : Nat} {H : Hp} : ∀ {xs : List D} {vs : List V} {ss : List (List Nat)}, RepL K L ads k H xs vs → strsOf xs = some ss → vs = (ss.map fun z => (⟨z.toArray⟩ : Str)).map V.str
  | [], vs, ns, h, e => by simp only [RepL] at h; simp only [strsOf] at e; cases e; subst h; rfl
  | .str i :: xs, vs, ns, h, e => by
    simp only [RepL, RepD] at h
    obtain ⟨v, r, rfl, rfl, h2⟩ := h
    simp only [strsOf] at e
    cases e2 : strsOf xs with
    | none => rw [e2] at e; cases e
    | some ms => rw [e2] at e; cases e; rw [rep_strs h2 e2]; rfl
  | .non :: _, _, _, _, e => by simp [strsOf] at e
  | .int _ :: _, _, _, _, e => by simp [strsOf] at e
  | .bl _ :: _, _, _, _, e => by simp [strsOf] at e
  | .tup _ :: _, _, _, _, e => by simp [strsOf] at e
  | .loc _ :: _, _, _, _, e => by simp [strsOf] at e
  | .fn _ :: _, _, _, _, e => by simp [strsOf] at e
  | .kd _ :: _, _, _, _, e => by simp [strsOf] at e
  | .kst _ :: _, _, _, _, e => by simp [strsOf] at e
theorem rep_lstAt {K : PySem.W.Frag} {ads : Nat → Addr} {H : Hp} {M : Mem} {d : D} {v : V} {xs : List D} (m : RepM K L ads H M) (r : RepD K L ads M.length H d v) (h : lstAt d M = some xs) : ∃ a vs, v = .ref a ∧ SqL K H a vs ∧ RepL K L ads M.length H xs vs := by
  unfold lstAt at h
  split at h
  · simp only [RepD] at r
    obtain ⟨vs, hn, h1, h2⟩ := rep_rd m h
    exact ⟨_, vs, r.2, h1, h2.up' hn⟩
  · cases h
theorem call_dSum (hc : X.calm = true) : CallR X (.builtin "sum") (rN X.K L E (one dSum)) := by
  intro pins s σ H xs us Q I rv ⟨ds, ads, M, m, q, h⟩
  unfold one at h
  split at h
  · rename_i d
    simp only [RepL] at q
    obtain ⟨v, r, rfl, hv, rfl⟩ := q
    unfold dSum at h
    split at h
    · rename_i ns hn
      obtain ⟨ys, e1, e2⟩ := Option.bind_eq_some_iff.mp hn
      obtain ⟨a, vs, rfl, hs, rl⟩ := rep_lstAt m hv e1
      exact cr_sum hc pins s σ H _ us Q I rv ⟨a, ns, rfl, by rw [← rep_ints rl e2]; exact hs, h.now m (by simp only [RepD])⟩
    · exact h.elim
  · exact h.elim
theorem maxI_ge : ∀ {ns : List Int} {y : Int}, y ∈ ns → y ≤ maxI ns
  | [n], y, h => by simp at h; subst h; exact Int.le_refl _
  | n :: m :: r, y, h => by
    have : maxI (n :: m :: r) = max n (maxI (m :: r)) := rfl
    rw [this]
    rcases List.mem_cons.mp h with e | e
    · subst e; exact Int.le_max_left _ _
    · exact Int.le_trans (maxI_ge e) (Int.le_max_right _ _)
theorem maxI_mem : ∀ {ns : List Int}, ns ≠ [] → maxI ns ∈ ns
  | [n], _ => by simp [maxI]
  | n :: m :: r, _ => by
    have e : maxI (n :: m :: r) = max n (maxI (m :: r)) := rfl
    have := maxI_mem (ns := m :: r) (by simp)
    rw [e]
    by_cases hc : n ≤ maxI (m :: r)
    · rw [Int.max_eq_right hc]; exact List.mem_cons_of_mem _ this
    · rw [Int.max_eq_left (by omega)]; exact List.mem_cons_self
theorem minI_le : ∀ {ns : List Int} {y : Int}, y ∈ ns → minI ns ≤ y
  | [n], y, h => by simp at h; subst h; exact Int.le_refl _
  | n :: m :: r, y, h => by
    have : minI (n :: m :: r) = min n (minI (m :: r)) := rfl
    rw [this]
    rcases List.mem_cons.mp h with e | e
    · subst e; exact Int.min_le_left _ _
    · exact Int.le_trans (Int.min_le_right _ _) (minI_le e)
theorem minI_mem : ∀ {ns : List Int}, ns ≠ [] → minI ns ∈ ns
  | [n], _ => by simp [minI]
  | n :: m :: r, _ => by
    have e : minI (n :: m :: r) = min n (minI (m :: r)) := rfl
    have := minI_mem (ns := m :: r) (by simp)
    rw [e]
    by_cases hc : n ≤ minI (m :: r)
    · rw [Int.min_eq_left hc]; exact List.mem_cons_self
    · rw [Int.min_eq_right (by omega)]; exact List.mem_cons_of_mem _ this
theorem call_dMax (hc : X.calm = true) : CallR X (.builtin "max") (rN X.K L E dMax) := by
  intro pins s σ H xs us Q I rv ⟨ds, ads, M, m, q, h⟩
  unfold dMax at h
  split at h
  · simp only [RepL, RepD] at q
    obtain ⟨v, r, rfl, rfl, w', r', rfl, rfl, rfl⟩ := q
    exact call_max2 hc pins s σ H _ us Q I rv ⟨_, _, rfl, h.now m (by simp only [RepD])⟩
  · simp only [RepL] at q
    obtain ⟨v, r, rfl, hv, rfl⟩ := q
    unfold dMax1 at h
    split at h
    · rename_i n r hn
      obtain ⟨ys, e1, e2⟩ := Option.bind_eq_some_iff.mp hn
      obtain ⟨a, vs, rfl, hs, rl⟩ := rep_lstAt m hv e1
      refine cr_max hc pins s σ H _ us Q I rv ⟨a, _, rfl, by rw [← rep_ints rl e2]; exact hs, by simp, fun k hk hm => ?_⟩
      have : k = maxI (n :: r) := Int.le_antisymm (maxI_ge hk) (hm _ (maxI_mem (by simp)))
      subst this
      exact h.now m (by simp only [RepD])
    · exact h.elim
  · exact h.elim
theorem call_dMin (hc : X.calm = true) : CallR X (.builtin "min") (rN X.K L E dMin) := by
  intro pins s σ H xs us Q I rv ⟨ds, ads, M, m, q, h⟩
  unfold dMin at h
  split at h
  · simp only [RepL, RepD] at q
    obtain ⟨v, r, rfl, rfl, w', r', rfl, rfl, rfl⟩ := q
    exact call_min2 hc pins s σ H _ us Q I rv ⟨_, _, rfl, h.now m (by simp only [RepD])⟩
  · simp only [RepL] at q
    obtain ⟨v, r, rfl, hv, rfl⟩ := q
    unfold dMin1 at h
    split at h
    · rename_i n r hn
      obtain ⟨ys, e1, e2⟩ := Option.bind_eq_some_iff.mp hn
      obtain ⟨a, vs, rfl, hs, rl⟩ := rep_lstAt m hv e1
      refine cr_min hc pins s σ H _ us Q I rv ⟨a, _, rfl, by rw [← rep_ints rl e2]; exact hs, by simp, fun k hk hm => ?_⟩
      have : k = minI (n :: r) := Int.le_antisymm (hm _ (minI_mem (by simp))) (minI_le hk)
      subst this
      exact h.now m (by simp only [RepD])
    · exact h.elim
  · exact h.elim
theorem call_dAll (hc : X.calm = true) : CallR X (.builtin "all") (rN X.K L E (one dAll)) := by
  intro pins s σ H xs us Q I rv ⟨ds, ads, M, m, q, h⟩
  unfold one at h
  split at h
  · simp only [RepL] at q
    obtain ⟨v, r, rfl, hv, rfl⟩ := q
    unfold dAll at h
    split at h
    · rename_i ns hn
      obtain ⟨ys, e1, e2⟩ := Option.bind_eq_some_iff.mp hn
      obtain ⟨a, vs, rfl, hs, rl⟩ := rep_lstAt m hv e1
      exact cr_all hc pins s σ H _ us Q I rv ⟨a, ns, rfl, by rw [← rep_bls rl e2]; exact hs, h.now m (by simp only [RepD])⟩
    · exact h.elim
  · exact h.elim
theorem call_dAny (hc : X.calm = true) : CallR X (.builtin "any") (rN X.K L E (one dAny)) := by
  intro pins s σ H xs us Q I rv ⟨ds, ads, M, m, q, h⟩
  unfold one at h
  split at h
  · simp only [RepL] at q
    obtain ⟨v, r, rfl, hv, rfl⟩ := q
    unfold dAny at h
    split at h
    · rename_i ns hn
      obtain ⟨ys, e1, e2⟩ := Option.bind_eq_some_iff.mp hn
      obtain ⟨a, vs, rfl, hs, rl⟩ := rep_lstAt m hv e1
      exact cr_any hc pins s σ H _ us Q I rv ⟨a, ns, rfl, by rw [← rep_bls rl e2]; exact hs, h.now m (by simp only [RepD])⟩
    · exact h.elim
  · exact h.elim
theorem call_dAbs : CallR X (.builtin "abs") (rN X.K L E (one dAbs)) := by
  intro pins s σ H xs us Q I rv ⟨ds, ads, M, m, q, h⟩
  unfold one at h
  split at h
  · simp only [RepL] at q
    obtain ⟨v, r, rfl, hv, rfl⟩ := q
    unfold dAbs at h
    split at h
    · simp only [RepD] at hv
      subst hv
      exact call_abs pins s σ H _ us Q I rv ⟨_, rfl, h.now m (by simp only [RepD])⟩
    · exact h.elim
  · exact h.elim
theorem call_dToInt : CallR X (.type "int") (rN X.K L E (one dToInt)) := by
  intro pins s σ H xs us Q I rv ⟨ds, ads, M, m, q, h⟩
  unfold one at h
  split at h
  · simp only [RepL] at q
    obtain ⟨v, r, rfl, hv, rfl⟩ := q
    unfold dToInt at h
    split at h
    · simp only [RepD] at hv
      subst hv
      exact call_int1 pins s σ H _ us Q I rv (.inl ⟨_, rfl, h.now m (by simp only [RepD])⟩)
    · simp only [RepD] at hv
      subst hv
      exact call_int1 pins s σ H _ us Q I rv (.inr ⟨_, rfl, h.now m (by simp only [RepD])⟩)
    · exact h.elim
  · exact h.elim

/-! ### methods of lists -/
def rM (K : PySem.W.Frag) (L : Lk) (E : XK) (f : List D → Mem → Out) : V → List V → Hp → VK → Prop := fun x xs H Q => rN K L E f (x :: xs) H Q
theorem mt_dAppend : MtR X "list.append" (rM X.K L E dAppend) := by
  intro pins s σ H x xs v us Q I rx rv ⟨ds, ads, M, m, q, h⟩
  unfold dAppend at h
  split at h
  · rename_i a d
    split at h
    · rename_i ys ha
      split at h
      · rename_i hc
        simp only [Bool.and_eq_true, decide_eq_true_eq] at hc
        simp only [RepL] at q
        obtain ⟨v0, r, e0, h0, v1, r1, rfl, h1, rfl⟩ := q
        obtain ⟨rfl, rfl⟩ := List.cons.inj e0
        simp only [RepD] at h0
        obtain ⟨hn, rfl⟩ := h0
        obtain ⟨vs, hH, rl⟩ := m.at_ a _ ha
        refine mt_append pins s σ H _ _ v us Q I rx rv ⟨_, vs, _, rfl, rfl, hH, ?_, h.mut m ha hn ⟨_, upd_same, ?_⟩ (by simp only [RepD])⟩
        · rw [sizeLine16, ← rl.length]; exact hc.2
        · exact (rl.append (RepL.one (RepD.low _ _ h1 hc.1))).mut m hn
      · exact h.elim
    · exact h.elim
  · exact h.elim
theorem mt_dExtend : MtR X "list.extend" (rM X.K L E dExtend) := by
  intro pins s σ H x xs v us Q I rx rv ⟨ds, ads, M, m, q, h⟩
  unfold dExtend at h
  split at h
  · rename_i a b
    split at h
    · rename_i ys zs ha hb
      split at h
      · rename_i hc
        simp only [Bool.and_eq_true, decide_eq_true_eq] at hc
        simp only [RepL] at q
        obtain ⟨v0, r, e0, h0, v1, r1, rfl, h1, rfl⟩ := q
        obtain ⟨rfl, rfl⟩ := List.cons.inj e0
        simp only [RepD] at h0 h1
        obtain ⟨hn, rfl⟩ := h0
        obtain ⟨_, rfl⟩ := h1
        obtain ⟨vs, hH, rl⟩ := m.at_ a _ ha
        obtain ⟨ws, hn', hB, rb⟩ := rep_own m hb
        refine mt_extend pins s σ H _ _ v us Q I rx rv ⟨_, _, vs, ws, rfl, rfl, hH, hB, ?_, h.mut m ha hn ⟨_, upd_same, ?_⟩ (by simp only [RepD])⟩
        · rw [sizeLine16, ← rl.length, ← rb.length]; exact hc.2
        · exact (rl.append (RepL.low _ _ rb hc.1)).mut m hn
      · exact h.elim
    · exact h.elim
  · exact h.elim
theorem mt_dPop : MtR X "list.pop" (rM X.K L E dPop) := by
  intro pins s σ H x xs v us Q I rx rv ⟨ds, ads, M, m, q, h⟩
  unfold dPop at h
  split at h
  · rename_i a
    split at h
    · rename_i ys ha
      split at h
      · rename_i d hd
        simp only [RepL] at q
        obtain ⟨v0, r, e0, h0, rfl⟩ := q
        obtain ⟨rfl, rfl⟩ := List.cons.inj e0
        simp only [RepD] at h0
        obtain ⟨hn, rfl⟩ := h0
        obtain ⟨vs, hH, rl⟩ := m.at_ a _ ha
        rw [List.getLast?_eq_getElem?] at hd
        obtain ⟨y, hy, ry⟩ := rl.get hd
        rw [rl.length] at hy
        exact mt_pop pins s σ H _ _ v us Q I rx rv ⟨_, vs, y, rfl, rfl, hH, hy, h.mut m ha hn ⟨_, upd_same, rl.dropLast.mut m hn⟩ ((RepD.up (Nat.le_of_lt hn) _ _ ry).mut m hn)⟩
      · exact h.elim
    · exact h.elim
  · exact h.elim
/-- o[i] = v -/
theorem keyV_of {i : D} (h : isKey i = true) : ∃ key, keyV i = some key := by
  cases i <;> simp [isKey] at h <;> exact ⟨_, rfl⟩
theorem key_eqv {y x : D} {z key : Key} (hy : keyV y = some z) (hx : keyV x = some key) : y.eqv x = decide (z = key) := by
  cases y <;> simp only [keyV] at hy <;> cases x <;> simp only [keyV] at hx <;> (try cases hy) <;> (try cases hx) <;> simp [D.eqv, Bool.beq_eq_decide_eq]
theorem paired_put {K : PySem.W.Frag} {ads : Nat → Addr} {k : Nat} {H : Hp} {x d : D} {v : V} {key : Key} (hx : keyV x = some key) (rd : RepD K L ads k H d v) {kvs : List (D × D)} {ws : List (Key × V)} (r : Paired (fun (p : D × D) (q : Key × V) => keyV p.1 = some q.1 ∧ RepD K L ads k H p.2 q.2) kvs ws) :
    Paired (fun (p : D × D) (q : Key × V) => keyV p.1 = some q.1 ∧ RepD K L ads k H p.2 q.2) (PK.putK x d kvs) (L2.putK ws key v) := by
  have hany : (kvs.any fun p => p.1.eqv x) = (ws.any fun kv => decide (kv.1 = key)) := by rw [(paired_any hx r).1, valV_any]
  unfold PK.putK L2.putK
  rw [hany]
  by_cases hc : (ws.any fun kv => decide (kv.1 = key)) = true
  · rw [if_pos hc, if_pos hc]
    clear hany hc
    induction r with
    | nil => exact .nil
    | @cons p q _ _ h t ih =>
      simp only [List.map_cons]
      refine .cons ?_ ih
      rw [key_eqv h.1 hx]
      by_cases e : q.1 = key
      · rw [if_pos (decide_eq_true e), if_pos e]
        exact ⟨by show keyV x = some q.1; rw [e]; exact hx, rd⟩
      · rw [if_neg (by simp [e]), if_neg e]
        exact h
  · rw [if_neg hc, if_neg hc]
    clear hany hc
    induction r with
    | nil => exact .cons ⟨hx, rd⟩ .nil
    | cons h t ih => exact .cons h ih
/-- the store -/
def sD (K : PySem.W.Frag) (L : Lk) : V → V → V → Hp → (Hp → Prop) → Prop := fun o i v H Q => ∃ d1 d2 d3 ads M M', RepM K L ads H M ∧ RepD K L ads M.length H d1 o ∧ RepD K L ads M.length H d2 i ∧ RepD K L ads M.length H d3 v ∧ dPut d1 d2 d3 M = some M' ∧
  ∀ H', After ads M H ads M' H' → RepM K L ads H' M' → Q H'
theorem set_d (hu : X.A.units + 200 < cLine) : PSet X (sD X.K L) := by
  intro pins s σ H o i v ov iv u Q I ro ri rv ⟨d1, d2, d3, ads, M, M', m, q1, q2, q3, h, q⟩
  unfold dPut at h
  split at h
  · rename_i a
    simp only [RepD] at q1
    obtain ⟨hn, rfl⟩ := q1
    split at h
    · rename_i xs ha
      split at h
      · rename_i k
        split at h
        · rename_i j hj
          split at h
          · rename_i hl
            cases h
            simp only [RepD] at q2
            subst q2
            obtain ⟨vs, hH, rl⟩ := m.at_ a _ ha
            refine set_list pins s σ H _ _ v ov iv u Q I ro ri rv ⟨_, vs, k, j, rfl, rfl, hH, by rw [← rl.length]; exact hj, q _ (After.mut m ha rfl hn) (m.mut hn ⟨_, upd_same, ?_⟩)⟩
            exact (rl.set (RepD.low _ _ q3 hl)).mut m hn
          · cases h
        · cases h
      · cases h
    · rename_i kvs ha
      split at h
      · rename_i hl
        simp only [Bool.and_eq_true, decide_eq_true_eq] at hl
        cases h
        obtain ⟨key, hk⟩ := keyV_of hl.1.1
        obtain ⟨ws, hH, rp⟩ := m.at_ a _ ha
        cases (show ov = Value.ref _ from ro)
        have e1 : i = kV key := keyV_rep hk q2
        subst e1
        have hz : ws.length < sizeLine := by
          have := Paired.length rp
          rw [sizeLine16]; omega
        refine d_setItem (by omega) I (.k (k := key) hH hz) ri rv fun s' I' => ⟨_, I', q _ (After.mut m ha rfl hn) (m.mut hn ⟨_, upd_same, ?_⟩)⟩
        exact Paired.mono' (paired_put hk (RepD.low _ _ q3 hl.1.2) rp) fun p q' _ z => ⟨z.1, z.2.mut m hn⟩
      · cases h
    · cases h
  · cases h
end
end PK
end

section
set_option Elab.async false
set_option linter.all false
set_option maxHeartbeats 4000000
set_option maxRecDepth 100000
/-! PKe: expressions: what one answers is what the machine does. -/
namespace PK
open PySem L2 PySem.Spec PyProof.Rows

/-- what a def promises: the defaults d0 fill up -/
def spD (K : PySem.W.Frag) (L : Lk) (κ : Ctx) (d0 : List D) (f : Nat) : Sp := fun vs H Q E => ∃ ds ads M, RepM K L ads H M ∧ RepL K L ads M.length H ds vs ∧ OutP K L ads M H (κ.call f (ds ++ d0) M) Q E
/-- an own exception class without own __init__ -/
structure RaiO (K : PySem.W.Frag) (mg : Str → Option Value) (C : Addr) : Prop where
  ex : PySem.W.excIn K C [.type "ValueError", .type "Exception", .type "BaseException", .type "object"] "ValueError.__new__" = true
  kp : PySem.W.keepIn K (.ref C) = true
  sub : PySem.W.subIn K (.ref C) (.type "BaseException") = some true
  ty : PySem.W.typeIn K (.ref C) = some (.type "type")
/-- what stands around, however deep: the constant dicts, the text's own defs, the own exceptions -/
structure Wrld (P : Program) (w : World) (K : PySem.W.Frag) (mg : Str → Option Value) (base : Heap) (L : Lk) (T : Tb) (κ : Ctx) : Prop where
  kd : KdOk P w K L T
  call : ∀ f j, FnR P w K mg base (L2.CX P w) κ.lev (L.fa f) (spD K L κ ((L.df f).drop j) f)
structure Sit (X : Cx) (L : Lk) (T : Tb) (κ : Ctx) (W : WX) : Prop where
  tk : Takes X W
  room : Room κ.lev X.A
  calm : X.calm = true
  nd : X.N.Nodup
  wl : Wrld X.prog X.w X.K X.mg X.base L T κ
theorem Sit.kd {X : Cx} {L : Lk} {T : Tb} {κ : Ctx} {W : WX} (S : Sit X L T κ W) : KdOk X.prog X.w X.K L T := S.wl.kd
theorem Sit.call {X : Cx} {L : Lk} {T : Tb} {κ : Ctx} {W : WX} (S : Sit X L T κ W) : ∀ f j, FnR X.prog X.w X.K X.mg X.base (L2.CX X.prog X.w) κ.lev (L.fa f) (spD X.K L κ ((L.df f).drop j) f) := S.wl.call
theorem Sit.units {X : Cx} {L : Lk} {T : Tb} {κ : Ctx} {W : WX} (S : Sit X L T κ W) : X.A.units + 200 < cLine := by have := S.room.un; omega
def tD (K : PySem.W.Frag) (L : Lk) (κ : Ctx) (W : WX) (g : SE) : TE := fun σ H Q => ∃ ρ ads M, RepE K L ads M.length H ρ σ ∧ RepM K L ads H M ∧ OutP K L ads M H (g κ ρ M) Q (fun c d H' => W c d σ H')
/-- a row of values -/
def OutA (K : PySem.W.Frag) (L : Lk) (ads : Nat → Addr) (M : Mem) (H : Hp) (o : Out) (Q : List V → Hp → Prop) (E : XK) : Prop :=
  match o with
  | .ok (.tup ds) M' => ∀ ads' H' vs, After ads M H ads' M' H' → RepM K L ads' H' M' → RepL K L ads' M'.length H' ds vs → Q vs H'
  | .ok _ _ => False
  | .exc x M' => ∀ ads' H' c dx, After ads M H ads' M' H' → RepM K L ads' H' M' → RepX K L H' x c dx → E c dx H'
  | .bad => False
def tDA (K : PySem.W.Frag) (L : Lk) (κ : Ctx) (W : WX) (g : SE) : TA := fun σ H Q => ∃ ρ ads M, RepE K L ads M.length H ρ σ ∧ RepM K L ads H M ∧ OutA K L ads M H (g κ ρ M) Q (fun c d H' => W c d σ H')
/-- the judgements -/
abbrev DE (X : Cx) (L : Lk) (κ : Ctx) (W : WX) (e : Expr) (g : SE) : Prop := PE X e (tD X.K L κ W g)
abbrev DA (X : Cx) (L : Lk) (κ : Ctx) (W : WX) (es : List Expr) (g : SE) : Prop := PA X es (tDA X.K L κ W g)
abbrev DT (X : Cx) (L : Lk) (κ : Ctx) (W : WX) (e : Expr) (g : SE) : Prop := PT X e (tB (tD X.K L κ W g))
abbrev DW (X : Cx) (L : Lk) (κ : Ctx) (W : WX) (e : Expr) (g : SE) : Prop := PW X e (tB (tD X.K L κ W g))
theorem _root_.L2.PE.imp {X : Cx} {e : Expr} {t t' : TE} (h : PE X e t) (i : ∀ σ H Q, t' σ H Q → t σ H Q) : PE X e t' := ⟨fun pins s σ H Q I q => h.run pins s σ H Q I (i σ H Q q)⟩
theorem _root_.L2.PA.imp {X : Cx} {e : List Expr} {t t' : TA} (h : PA X e t) (i : ∀ σ H Q, t' σ H Q → t σ H Q) : PA X e t' := ⟨fun pos pins s σ H Q I q => h.run pos pins s σ H Q I (i σ H Q q)⟩
theorem _root_.L2.PT.imp {X : Cx} {e : Expr} {t t' : TT} (h : PT X e t) (i : ∀ σ H Q, t' σ H Q → t σ H Q) : PT X e t' := ⟨fun pins s σ H Q I q => h.run pins s σ H Q I (i σ H Q q)⟩
theorem _root_.L2.PW.imp {X : Cx} {e : Expr} {t t' : TT} (h : PW X e t) (i : ∀ σ H Q, t' σ H Q → t σ H Q) : PW X e t' := ⟨fun wh pins s σ H Q I q => h.run wh pins s σ H Q I (i σ H Q q)⟩
theorem _root_.L2.PSs.imp {X : Cx} {e : List Stmt} {t t' : TS} (h : PSs X e t) (i : ∀ D σ H, t' D σ H → t D σ H) : PSs X e t' := ⟨fun pins s σ H D I q => h.run pins s σ H D I (i D σ H q)⟩
theorem _root_.L2.PS.imp {X : Cx} {e : Stmt} {t t' : TS} (h : PS X e t) (i : ∀ D σ H, t' D σ H → t D σ H) : PS X e t' := ⟨fun pins s σ H D I q => h.run pins s σ H D I (i D σ H q)⟩

section
variable {K : PySem.W.Frag} {L : Lk} {κ : Ctx} {W : WX} {ga gb gc : SE} {σ : L2.St} {H : Hp} {ads : Nat → Addr} {M : Mem} {ρ : Env} {Q : VK} {E : XK}
/-- one, then another -/
theorem tD.bind {f : D → Mem → Out} (re : RepE K L ads M.length H ρ σ) (rm : RepM K L ads H M) (h : OutP K L ads M H ((ga κ ρ M).bind f) Q (fun c d H' => W c d σ H')) :
    tD K L κ W ga σ H fun v H1 => ∃ d ads1 M1, After ads M H ads1 M1 H1 ∧ RepM K L ads1 H1 M1 ∧ RepE K L ads1 M1.length H1 ρ σ ∧ RepD K L ads1 M1.length H1 d v ∧ OutP K L ads1 M1 H1 (f d M1) Q (fun c d H' => W c d σ H') := by
  refine ⟨ρ, ads, M, re, rm, (OutP.bind h).mono fun v H1 ⟨d, ads1, M1, A, m1, r, _, q⟩ => ⟨d, ads1, M1, A, m1, re.on rm A, r, q⟩⟩
theorem tD.row {f : List D → Mem → Out} (re : RepE K L ads M.length H ρ σ) (rm : RepM K L ads H M) (h : OutP K L ads M H ((ga κ ρ M).bind (rowD f)) Q (fun c d H' => W c d σ H')) :
    tDA K L κ W ga σ H fun vs H1 => ∃ ds ads1 M1, After ads M H ads1 M1 H1 ∧ RepM K L ads1 H1 M1 ∧ RepE K L ads1 M1.length H1 ρ σ ∧ RepL K L ads1 M1.length H1 ds vs ∧ OutP K L ads1 M1 H1 (f ds M1) Q (fun c d H' => W c d σ H') := by
  refine ⟨ρ, ads, M, re, rm, ?_⟩
  cases e : ga κ ρ M with
  | bad => rw [e] at h; exact h
  | exc x M' => rw [e] at h; exact h
  | ok d M' =>
    rw [e] at h
    cases d with
    | tup ds => exact fun ads1 H1 vs A m1 r => ⟨ds, ads1, M', A, m1, re.on rm A, r, OutP.after h A m1⟩
    | _ => exact h.elim
end
section
variable {X : Cx} {L : Lk} {T : Tb} {κ : Ctx} {W : WX} {ga gb gc : SE} {e a b c : Expr} {es : List Expr} {pos : Pos}
theorem da_nil : DA X L κ W [] sNil := pa_nil.imp fun σ H Q ⟨ρ, ads, M, re, rm, h⟩ => h ads H [] After.refl rm (by simp only [RepL])
theorem da_cons (ha : DE X L κ W e ga) (hr : DA X L κ W es gb) (hs : starEach (e :: es) X.env = (false, eval e X.env) :: starEach es X.env) : DA X L κ W (e :: es) (sCons ga gb) := by
  refine (pa_cons ha hr hs).imp fun σ H Q ⟨ρ, ads, M, re, rm, h⟩ => ?_
  unfold sCons at h
  refine ⟨ρ, ads, M, re, rm, ?_⟩
  cases e1 : ga κ ρ M with
  | bad => rw [e1] at h; exact h
  | exc x M' => rw [e1] at h; exact h
  | ok d M1 =>
    rw [e1] at h
    intro ads1 H1 v A1 m1 r1
    refine ⟨ρ, ads1, M1, re.on rm A1, m1, ?_⟩
    simp only [Out.bind] at h
    cases e2 : gb κ ρ M1 with
    | bad => rw [e2] at h; exact h
    | exc x M' => rw [e2] at h; exact fun ads2 H2 c dx A2 m2 rx => h ads2 H2 c dx (A1.trans m1 A2) m2 rx
    | ok d2 M2 =>
      rw [e2] at h
      cases d2 with
      | tup ds => exact fun ads2 H2 vs A2 m2 r2 => h ads2 H2 (v :: vs) (A1.trans m1 A2) m2 ((r1.on m1 A2 |> fun z => RepL.cons z r2))
      | _ => exact h.elim
theorem de_var {i : Nat} {x : Str} (hN : X.N[i]? = some x) (hv : Vis X.env.scope x) (hd : (x == ("__debug__" : Str)) = false) (hcd : (x == ("__classdict__" : Str)) = false) : DE X L κ W (.Name x pos) (sVar i) := by
  refine (pe_var hN hv hd hcd).imp fun σ H Q ⟨ρ, ads, M, re, rm, h⟩ => ?_
  unfold sVar at h
  split at h
  · rename_i d e1
    obtain ⟨v, e2, r⟩ := re.2 i d e1
    exact ⟨v, e2, h.now rm r⟩
  · exact h.elim
/-- a value that is always the same -/
theorem de_const {v : V} {d : D} (h : PE X e (tC v)) (r : ∀ ads k H, RepD X.K L ads k H d v) : DE X L κ W e (sC d) :=
  h.imp fun σ H Q ⟨ρ, ads, M, re, rm, q⟩ => q.now rm (r _ _ _)
theorem de_int {i : Int} {j : Nat} : DE X L κ W (.Constant (.int i) j pos) (sC (.int i)) := de_const pe_int fun _ _ _ => by simp only [RepD]
theorem de_bl {b : Bool} {j : Nat} : DE X L κ W (.Constant (.bool b) j pos) (sC (.bl b)) := de_const pe_bl fun _ _ _ => by simp only [RepD]
theorem de_non {j : Nat} : DE X L κ W (.Constant .none j pos) (sC .non) := de_const pe_non fun _ _ _ => by simp only [RepD]
theorem de_str {x : Str} {j : Nat} : DE X L κ W (.Constant (.str x) j pos) (sC (.str x.cps.toList)) := de_const pe_str fun _ _ _ => by simp only [RepD, Array.toArray_toList]
theorem de_tup {k : Nat} (h : DA X L κ W es ga) : DE X L κ W (.Tuple es k pos) (sTup ga) := by
  refine (pe_tup h).imp fun σ H Q ⟨ρ, ads, M, re, rm, q⟩ => ?_
  obtain ⟨ρ', ads', M', re', rm', w⟩ := tD.row re rm q
  refine ⟨ρ', ads', M', re', rm', ?_⟩
  revert w
  unfold OutA
  split
  · intro w ads2 H2 vs A m2 r
    obtain ⟨ds, ads1, M1, A1, m1, re1, r1, q1⟩ := w ads2 H2 vs A m2 r
    split at q1
    · rename_i hz
      refine ⟨by rw [sizeLine16, ← r1.length]; exact hz, fun p hp => q1.new m1 hp ?_⟩
      simp only [RepD]
      exact ⟨p, vs, rfl, .of upd_same, r1.new hp⟩
    · exact q1.elim
  · exact fun w => w
  · exact fun w => w
  · exact fun w => w
theorem OutA.mono {K : PySem.W.Frag} {ads : Nat → Addr} {M : Mem} {H : Hp} {o : Out} {Q Q' : List V → Hp → Prop} {E : XK} (h : OutA K L ads M H o Q E) (q : ∀ vs H, Q vs H → Q' vs H) : OutA K L ads M H o Q' E := by
  revert h
  unfold OutA
  split
  · exact fun h ads' H' vs A m r => q _ _ (h ads' H' vs A m r)
  · exact fun h => h
  · exact fun h => h
  · exact fun h => h
theorem tDA.mono {σ : L2.St} {H : Hp} {Q Q' : List V → Hp → Prop} (h : tDA X.K L κ W ga σ H Q) (q : ∀ vs H, Q vs H → Q' vs H) : tDA X.K L κ W ga σ H Q' := by
  obtain ⟨ρ, ads, M, re, rm, w⟩ := h
  exact ⟨ρ, ads, M, re, rm, w.mono q⟩
theorem tD.mono {σ : L2.St} {H : Hp} {Q Q' : VK} (h : tD X.K L κ W ga σ H Q) (q : ∀ v H, Q v H → Q' v H) : tD X.K L κ W ga σ H Q' := by
  obtain ⟨ρ, ads, M, re, rm, w⟩ := h
  exact ⟨ρ, ads, M, re, rm, w.mono q⟩
theorem de_lst (h : DA X L κ W es ga) : DE X L κ W (.List es pos) (sLst ga) := by
  refine (pe_lst h).imp fun σ H Q ⟨ρ, ads, M, re, rm, q⟩ => (tD.row re rm q).mono fun vs H1 ⟨ds, ads1, M1, A1, m1, re1, r1, q1⟩ => ?_
  split at q1
  · rename_i hz
    exact ⟨by rw [sizeLine16, ← r1.length]; exact hz, fun p hp => q1.alloc m1 hp ⟨vs, upd_same, r1.new hp⟩⟩
  · exact q1.elim
/-- a op b -/
theorem de_bin {op : Operator} {f : D → D → Mem → Out} (ha : DE X L κ W a ga) (hb : DE X L κ W b gb) (ho : ∀ E, OpR X (binaryOp op) (r2 X.K L E f)) : DE X L κ W (.BinOp a op b pos) (sBin f ga gb) := by
  refine ⟨fun pins s σ H Q I ⟨ρ, ads, M, re, rm, q⟩ => ?_⟩
  refine wpAny_BinOp (binT (R := fun x y H2 => r2 X.K L (fun c d H' => W c d σ H') f x y H2 Q) ha hb I ((tD.bind re rm q).mono fun x H1 ⟨d1, ads1, M1, A1, m1, re1, r1, q1⟩ => (tD.bind re1 m1 q1).mono fun y H2 ⟨d2, ads2, M2, A2, m2, re2, r2', q2⟩ => ?_) fun v u s2 x y H2 I2 rx ry q => ho _ pins s2 σ H2 x y v u Q I2 rx ry q)
  exact ⟨d1, d2, ads2, M2, m2, r1.on m1 A2, r2', q2⟩
theorem de_un {op : UnaryOp} {f : D → Mem → Out} (ha : DE X L κ W a ga) (ho : ∀ E, UnR X (unaryOp op) (r1 X.K L E f)) : DE X L κ W (.UnaryOp op a pos) (sUn f ga) := by
  refine ⟨fun pins s σ H Q I ⟨ρ, ads, M, re, rm, q⟩ => ?_⟩
  refine UnaryOp_ (thn (ha.run pins s σ H _ I (tD.bind re rm q)) fun v s1 ⟨x, H1, I1, rx, d1, ads1, M1, A1, m1, re1, r1, q1⟩ => ho _ pins s1 σ H1 x v Q I1 rx ⟨d1, ads1, M1, m1, r1, q1⟩)
/-- a comparison -/
theorem cmp_run {op : CmpOp} {f : D → D → Mem → Out} {pins : List (Addr × Obj)} {s : Shared} {σ : L2.St} {H : Hp} {Q : VK} {ρ : Env} {ads : Nat → Addr} {M : Mem} (ha : DE X L κ W a ga) (hb : DE X L κ W b gb) (ho : ∀ E, OpR X (compareOp op) (r2 X.K L E f)) (I : Inv X pins σ H s) (re : RepE X.K L ads M.length H ρ σ) (rm : RepM X.K L ads H M) (q : OutP X.K L ads M H (sBin f ga gb κ ρ M) Q (fun c d H' => W c d σ H')) :
    wpAny (model X.prog X.w) X.A (eval a X.env) (fun v s₁ => wpAny (model X.prog X.w) X.A (eval b X.env) (fun u s₂ => wpAny (model X.prog X.w) X.A (compareOp op v u) (EP X pins σ Q) X.xe s₂) X.xe s₁) X.xe s := by
  refine binT (R := fun x y H2 => r2 X.K L (fun c d H' => W c d σ H') f x y H2 Q) ha hb I ((tD.bind re rm q).mono fun x H1 ⟨d1, ads1, M1, A1, m1, re1, r1, q1⟩ => (tD.bind re1 m1 q1).mono fun y H2 ⟨d2, ads2, M2, A2, m2, re2, r2', q2⟩ => ?_) fun v u s2 x y H2 I2 rx ry q => ho _ pins s2 σ H2 x y v u Q I2 rx ry q
  exact ⟨d1, d2, ads2, M2, m2, r1.on m1 A2, r2', q2⟩
theorem pc_d {op : CmpOp} {f : D → D → Mem → Out} (ha : DE X L κ W a ga) (hb : DE X L κ W b gb) (ho : ∀ E, OpR X (compareOp op) (r2 X.K L E f)) : PC X op a b (tD X.K L κ W (sBin f ga gb)) :=
  ⟨fun pins s σ H Q I ⟨ρ, ads, M, re, rm, q⟩ => cmp_run ha hb ho I re rm q⟩
theorem de_cmp {op : CmpOp} {f : D → D → Mem → Out} (ha : DE X L κ W a ga) (hb : DE X L κ W b gb) (ho : ∀ E, OpR X (compareOp op) (r2 X.K L E f)) (h1 : behindInMarks op b = false) : DE X L κ W (.Compare a [op] [b] pos) (sBin f ga gb) := pe_cmp (pc_d ha hb ho) h1
theorem dt_cmp {op : CmpOp} {f : D → D → Mem → Out} (ha : DE X L κ W a ga) (hb : DE X L κ W b gb) (ho : ∀ E, OpR X (compareOp op) (r2 X.K L E f)) (h1 : behindInMarks op b = false) : DT X L κ W (.Compare a [op] [b] pos) (sBin f ga gb) := pt_cmp (pc_d ha hb ho) h1
/-- of a test: the truth value -/
theorem tB_bl {σ : L2.St} {H : Hp} {Q : Bool → Hp → Prop} (h : tB (tD X.K L κ W ga) σ H Q) : ∃ ρ ads M, RepE X.K L ads M.length H ρ σ ∧ RepM X.K L ads H M ∧ match ga κ ρ M with
    | .ok d M' => ∀ ads' H' v, After ads M H ads' M' H' → RepM X.K L ads' H' M' → RepD X.K L ads' M'.length H' d v → ∃ c, v = .bl c ∧ Q c H'
    | .exc x M' => ∀ ads' H' c dx, After ads M H ads' M' H' → RepM X.K L ads' H' M' → RepX X.K L H' x c dx → W c dx σ H'
    | .bad => False := by
  obtain ⟨ρ, ads, M, re, rm, q⟩ := h
  refine ⟨ρ, ads, M, re, rm, ?_⟩
  cases e : ga κ ρ M <;> rw [e] at q <;> exact q
theorem RepD.bl_iff {K : PySem.W.Frag} {ads : Nat → Addr} {k : Nat} {H : Hp} {d : D} {c : Bool} (h : RepD K L ads k H d (.bl c)) : d = .bl c := by
  cases d <;> simp only [RepD] at h
  · cases h
  · cases h; rfl
  · cases h
  · cases h
  · obtain ⟨_, _, h, _⟩ := h; cases h
  · cases h.2
  · cases h
  · cases h
  · obtain ⟨_, h, _⟩ := h; cases h
/-- a if t else b -/
theorem de_if (hc : DT X L κ W c gc) (ha : DE X L κ W a ga) (hb : DE X L κ W b gb) : DE X L κ W (.IfExp c a b pos) (sIf gc ga gb) := by
  refine (pe_ifExp hc ha hb).imp fun σ H Q ⟨ρ, ads, M, re, rm, h⟩ => ?_
  refine (tD.bind (ga := gc) re rm h).mono fun v H1 ⟨d, ads1, M1, A1, m1, re1, r1, q1⟩ => ?_
  split at q1
  · simp only [RepD] at r1
    exact ⟨true, r1, by (try dsimp only); rw [if_pos rfl]; exact ⟨ρ, ads1, M1, re1, m1, q1⟩⟩
  · simp only [RepD] at r1
    exact ⟨false, r1, by (try dsimp only); rw [if_neg Bool.false_ne_true]; exact ⟨ρ, ads1, M1, re1, m1, q1⟩⟩
  · exact q1.elim
theorem de_one {op : BoolOp} (h : DE X L κ W a ga) : DE X L κ W (.BoolOp op [a] pos) ga := pe_one h
theorem de_and (ha : DE X L κ W a ga) (hb : DE X L κ W (.BoolOp .And (b :: es) pos) gb) : DE X L κ W (.BoolOp .And (a :: b :: es) pos) (sAnd ga gb) := by
  refine (pe_and ha hb).imp fun σ H Q ⟨ρ, ads, M, re, rm, h⟩ => ?_
  refine (tD.bind (ga := ga) re rm h).mono fun v H1 ⟨d, ads1, M1, A1, m1, re1, r1, q1⟩ => ?_
  split at q1
  · simp only [RepD] at r1
    exact ⟨true, r1, by (try dsimp only); rw [if_pos rfl]; exact ⟨ρ, ads1, M1, re1, m1, q1⟩⟩
  · simp only [RepD] at r1
    exact ⟨false, r1, by (try dsimp only); rw [if_neg Bool.false_ne_true]; exact q1.now m1 (by simp only [RepD])⟩
  · exact q1.elim
theorem de_or (ha : DE X L κ W a ga) (hb : DE X L κ W (.BoolOp .Or (b :: es) pos) gb) : DE X L κ W (.BoolOp .Or (a :: b :: es) pos) (sOr ga gb) := by
  refine (pe_or ha hb).imp fun σ H Q ⟨ρ, ads, M, re, rm, h⟩ => ?_
  refine (tD.bind (ga := ga) re rm h).mono fun v H1 ⟨d, ads1, M1, A1, m1, re1, r1, q1⟩ => ?_
  split at q1
  · simp only [RepD] at r1
    exact ⟨true, r1, by (try dsimp only); rw [if_pos rfl]; exact q1.now m1 (by simp only [RepD])⟩
  · simp only [RepD] at r1
    exact ⟨false, r1, by (try dsimp only); rw [if_neg Bool.false_ne_true]; exact ⟨ρ, ads1, M1, re1, m1, q1⟩⟩
  · exact q1.elim
theorem dw_one_and (h : DT X L κ W a ga) : DW X L κ W (.BoolOp .And [a] pos) ga := pw_and1 h
theorem dw_one_or (h : DT X L κ W a ga) : DW X L κ W (.BoolOp .Or [a] pos) ga := pw_or1 h
theorem dw_and (ha : DT X L κ W a ga) (hb : DW X L κ W (.BoolOp .And (b :: es) pos) gb) : DW X L κ W (.BoolOp .And (a :: b :: es) pos) (sAnd ga gb) := by
  refine (pw_and ha hb).imp fun σ H Q ⟨ρ, ads, M, re, rm, h⟩ => ?_
  refine (tD.bind (ga := ga) re rm h).mono fun v H1 ⟨d, ads1, M1, A1, m1, re1, r1, q1⟩ => ?_
  split at q1
  · simp only [RepD] at r1
    exact ⟨true, r1, by (try dsimp only); rw [if_pos rfl]; exact ⟨ρ, ads1, M1, re1, m1, q1⟩⟩
  · simp only [RepD] at r1
    obtain ⟨c, e, q⟩ := q1.now m1 (v := .bl false) (by simp only [RepD])
    cases e
    exact ⟨false, r1, by (try dsimp only); rw [if_neg Bool.false_ne_true]; exact q⟩
  · exact q1.elim
theorem dw_or (ha : DT X L κ W a ga) (hb : DW X L κ W (.BoolOp .Or (b :: es) pos) gb) : DW X L κ W (.BoolOp .Or (a :: b :: es) pos) (sOr ga gb) := by
  refine (pw_or ha hb).imp fun σ H Q ⟨ρ, ads, M, re, rm, h⟩ => ?_
  refine (tD.bind (ga := ga) re rm h).mono fun v H1 ⟨d, ads1, M1, A1, m1, re1, r1, q1⟩ => ?_
  split at q1
  · simp only [RepD] at r1
    obtain ⟨c, e, q⟩ := q1.now m1 (v := .bl true) (by simp only [RepD])
    cases e
    exact ⟨true, r1, by (try dsimp only); rw [if_pos rfl]; exact q⟩
  · simp only [RepD] at r1
    exact ⟨false, r1, by (try dsimp only); rw [if_neg Bool.false_ne_true]; exact ⟨ρ, ads1, M1, re1, m1, q1⟩⟩
  · exact q1.elim
theorem dt_not (ha : DT X L κ W a ga) : DT X L κ W (.UnaryOp .Not a pos) (sUn dNot ga) := by
  refine (pt_not ha).imp fun σ H Q ⟨ρ, ads, M, re, rm, h⟩ => ?_
  refine (tD.bind (ga := ga) re rm h).mono fun v H1 ⟨d, ads1, M1, A1, m1, re1, r1, q1⟩ => ?_
  unfold dNot at q1
  split at q1
  · simp only [RepD] at r1
    obtain ⟨c, e, q⟩ := q1.now m1 (v := .bl _) (by simp only [RepD]; rfl)
    cases e
    exact ⟨_, r1, q⟩
  · exact q1.elim
theorem de_not (ha : DE X L κ W a ga) : DE X L κ W (.UnaryOp .Not a pos) (sUn dNot ga) := by
  refine (pe_not ha).imp fun σ H Q ⟨ρ, ads, M, re, rm, h⟩ => ?_
  refine (tD.bind (ga := ga) re rm h).mono fun v H1 ⟨d, ads1, M1, A1, m1, re1, r1, q1⟩ => ?_
  unfold dNot at q1
  split at q1
  · simp only [RepD] at r1
    exact ⟨_, r1, q1.now m1 (by simp only [RepD])⟩
  · exact q1.elim
/-- any other expression as a test -/
theorem dt_val (h : DE X L κ W e ga) (he : ∀ whole, isTrue e X.env whole = (do let v ← whole; standAt e.pos; holding [v] (truthy v))) : DT X L κ W e ga := pt_val h he
/-- o[i] -/
theorem de_ix (S : Sit X L T κ W) (ha : DE X L κ W a ga) (hb : DE X L κ W b gb) (hs : PlainIx b) : DE X L κ W (.Subscript a b pos) (sBin (dIx T) ga gb) := by
  refine ⟨fun pins s σ H Q I ⟨ρ, ads, M, re, rm, q⟩ => ?_⟩
  refine Subscript_ (binT (R := fun x y H2 => r2 X.K L (fun c d H' => W c d σ H') (dIx T) x y H2 Q) ha hb I ((tD.bind re rm q).mono fun x H1 ⟨d1, ads1, M1, A1, m1, re1, r1, q1⟩ => (tD.bind re1 m1 q1).mono fun y H2 ⟨d2, ads2, M2, A2, m2, re2, r2', q2⟩ => ?_) fun v u s2 x y H2 I2 rx ry q => ix_d S.kd S.units I2 rx ry q (hs _ _))
  exact ⟨d1, d2, ads2, M2, m2, r1.on m1 A2, r2', q2⟩
/-- f(e, ..), f a built-in -/
theorem de_callB {x : Str} {p : Pos} {id : String} {f : List D → Mem → Out} (ho : ∀ E, CallR X (.builtin id) (rN X.K L E f)) (hg : Gl X x) (hm : X.mg x = none) (hv : bootBuiltins x = some (.builtin id)) (ha : DA X L κ W (e :: es) ga) (hn : x ≠ "__name__") (hdb : (x == ("__debug__" : Str)) = false)
    (he : starEach (e :: es) X.env = (false, eval e X.env) :: starEach es X.env) (hpl : (backTo pos (starEach es X.env)).any (·.1) = false) : DE X L κ W (.Call (.Name x p) (e :: es) [] pos) (sRow f ga) := by
  refine ⟨fun pins s σ H Q I ⟨ρ, ads, M, re, rm, q⟩ => ?_⟩
  refine wpAny_Call_Name_kw (ld_blt I hg hm hv ?_ hn hdb)
  exact PyProof.Rows.callWith_builtin1 (thn (ha.run pos pins s σ H _ I (tD.row re rm q)) fun us s1 ⟨vs, H1, I1, r1, ds, ads1, M1, A1, m1, re1, rl, q1⟩ => ho _ pins s1 σ H1 vs us Q I1 r1 ⟨ds, ads1, M1, m1, rl, q1⟩) he hpl
theorem de_callTy {x : Str} {p : Pos} {id : String} {f : List D → Mem → Out} (ho : ∀ E, CallR X (.type id) (rN X.K L E f)) (hg : Gl X x) (hm : X.mg x = none) (hv : bootBuiltins x = some (.type id)) (ha : DA X L κ W (e :: es) ga) (hn : x ≠ "__name__") (hdb : (x == ("__debug__" : Str)) = false)
    (he : starEach (e :: es) X.env = (false, eval e X.env) :: starEach es X.env) (hpl : (backTo pos (starEach es X.env)).any (·.1) = false) : DE X L κ W (.Call (.Name x p) (e :: es) [] pos) (sRow f ga) := by
  refine ⟨fun pins s σ H Q I ⟨ρ, ads, M, re, rm, q⟩ => ?_⟩
  refine wpAny_Call_Name_kw (ld_blt I hg hm hv ?_ hn hdb)
  exact PyProof.Rows.callWith_type1 (thn (ha.run pos pins s σ H _ I (tD.row re rm q)) fun us s1 ⟨vs, H1, I1, r1, ds, ads1, M1, A1, m1, re1, rl, q1⟩ => ho _ pins s1 σ H1 vs us Q I1 r1 ⟨ds, ads1, M1, m1, rl, q1⟩) he hpl
/-- isinstance(e, T) -/
theorem de_isi {t : Ty} {p p2 : Pos} {x : Str} (ht : ∀ c, t ≠ .own c) (hg : Gl X "isinstance") (hm : X.mg "isinstance" = none) (hg2 : Gl X x) (hm2 : X.mg x = none) (hv2 : bootBuiltins x = some (.type t.nm)) (hn2 : x ≠ "__name__") (hd2 : (x == ("__debug__" : Str)) = false) (ha : DE X L κ W e ga)
    (he : starEach [e, .Name x p2] X.env = (false, eval e X.env) :: starEach [.Name x p2] X.env) (hpl : (backTo pos (starEach [.Name x p2] X.env)).any (·.1) = false) (he2 : starEach [.Name x p2] X.env = [(false, eval (.Name x p2) X.env)]) : DE X L κ W (.Call (.Name "isinstance" p) [e, .Name x p2] [] pos) (sUn (dIsi t) ga) := by
  refine ⟨fun pins s σ H Q I ⟨ρ, ads, M, re, rm, q⟩ => ?_⟩
  have h2 : PE X (.Name x p2) (tC (.ty t.nm)) := pe_bltn hg2 hm2 hv2 rfl hn2 hd2
  have hA : PA X [e, .Name x p2] (tCons (tD X.K L κ W ga) (tCons (tC (.ty t.nm)) tNil)) := pa_cons ha (pa_cons h2 pa_nil he2) he
  refine wpAny_Call_Name_kw (ld_blt I hg hm boot_isinstance ?_ (by decide) (by decide))
  refine PyProof.Rows.callWith_builtin1 (thn (hA.run pos pins s σ H (fun vs H1 => ∃ x d ads M, vs = [x, .ty t.nm] ∧ RepM X.K L ads H1 M ∧ RepD X.K L ads M.length H1 d x ∧ OutP X.K L ads M H1 (dIsi t d M) Q (fun c d H' => W c d σ H')) I ?_) fun us s1 ⟨vs, H1, I1, r1, q1⟩ => call_dIsi ht pins s1 σ H1 vs us Q I1 r1 q1) he hpl
  exact (tD.bind re rm q).mono fun v H1 ⟨d, ads1, M1, A1, m1, re1, r1, q1⟩ => ⟨v, d, ads1, M1, rfl, m1, r1, q1⟩
/-- o.m(..), a method of a list -/
theorem lst_ty {K : PySem.W.Frag} {ads : Nat → Addr} {M : Mem} {H : Hp} {n : Nat} {xs : List D} (m : RepM K L ads H M) (h : rdL M n = some xs) : tyV K "list" (.ref (ads n)) H := by
  obtain ⟨vs, _, h1, _⟩ := rep_rd m h
  exact .inl ⟨rfl, vs, h1⟩
theorem de_meth {o : Expr} {name : Str} {id : String} {apos : Pos} {f : List D → Mem → Out} (hm : ∀ E, MtR X id (rM X.K L E f)) (slot : Slot "list" name id) (hty : typeOf (.builtin id) = pure (.type "method_descriptor")) (ho : DE X L κ W o ga) (ha : DA X L κ W (e :: es) gb)
    (hbase : attributeBase o name X.env (eval o X.env) = eval o X.env)
    (hfew : ((backTo pos (starEach (e :: es) X.env)).all (fun x => !x.1) && (backToKw pos (keywordEach [] X.env)).all (fun x => x.1.isSome) && decide ((e :: es).length + ([] : List Keyword).length + (if ([] : List Keyword).isEmpty then 0 else 1) < 30)) = true)
    (hline : (apos.endLine == pos.line) = true) (hs : starEach (e :: es) X.env = (false, eval e X.env) :: starEach es X.env) (hplain : (backTo pos (starEach es X.env)).any (·.1) = false) :
    DE X L κ W (.Call (.Attribute o name apos) (e :: es) [] pos) (sMeth f ga gb) := by
  refine ⟨fun pins s σ H Q I ⟨ρ, ads, M, re, rm, q⟩ => ?_⟩
  refine (pe_bm PySem.F.plainAttrs_list slot hty (hm (fun c d H' => W c d σ H')) ho ha hbase hfew hline hs hplain).run pins s σ H Q I ?_
  refine (tD.bind (ga := ga) re rm q).mono fun v H1 ⟨d, ads1, M1, A1, m1, re1, r1, q1⟩ => ?_
  split at q1
  · rename_i hd
    cases d with
    | loc n =>
      obtain ⟨xs, hx⟩ := Option.isSome_iff_exists.mp hd
      have r1' := r1
      simp only [RepD] at r1'
      obtain ⟨hn, rfl⟩ := r1'
      refine ⟨lst_ty m1 hx, (tD.row re1 m1 q1).mono fun vs H2 ⟨ds, ads2, M2, A2, m2, re2, rl, q2⟩ => ?_⟩
      exact ⟨_, ads2, M2, m2, RepL.cons (r1.on m1 A2) rl, q2⟩
    | _ => exact absurd hd (by simp [isLst])
  · exact q1.elim
theorem de_meth0 {o : Expr} {name : Str} {id : String} {apos : Pos} {f : List D → Mem → Out} (hm : ∀ E, MtR X id (rM X.K L E f)) (slot : Slot "list" name id) (hty : typeOf (.builtin id) = pure (.type "method_descriptor")) (ho : DE X L κ W o ga)
    (hbase : attributeBase o name X.env (eval o X.env) = eval o X.env) (hline : (apos.endLine == pos.line) = true) : DE X L κ W (.Call (.Attribute o name apos) [] [] pos) (sMeth f ga sNil) := by
  refine ⟨fun pins s σ H Q I ⟨ρ, ads, M, re, rm, q⟩ => ?_⟩
  refine (pe_bm0 PySem.F.plainAttrs_list slot hty (hm (fun c d H' => W c d σ H')) ho hbase hline).run pins s σ H Q I ?_
  refine (tD.bind (ga := ga) re rm q).mono fun v H1 ⟨d, ads1, M1, A1, m1, re1, r1, q1⟩ => ?_
  split at q1
  · rename_i hd
    cases d with
    | loc n =>
      obtain ⟨xs, hx⟩ := Option.isSome_iff_exists.mp hd
      have r1' := r1
      simp only [RepD] at r1'
      obtain ⟨hn, rfl⟩ := r1'
      exact ⟨lst_ty m1 hx, _, ads1, M1, m1, RepL.one r1, q1⟩
    | _ => exact absurd hd (by simp [isLst])
  · exact q1.elim
/-! ### calls of the text's own defs -/
theorem call_own (S : Sit X L T κ W) {pins : List (Addr × Obj)} {s : Shared} {σ : L2.St} {H : Hp} {Q : VK} {f j : Nat} {ds : List D} {vs : List V} {us : List Value} {ads : Nat → Addr} {M : Mem} (I : L2.Inv X pins σ H s) (rm : RepM X.K L ads H M) (rl : RepL X.K L ads M.length H ds vs) (rv : Vals vs us)
    (q : OutP X.K L ads M H (κ.call f (ds ++ (L.df f).drop j) M) Q (fun c d H' => W c d σ H')) : wpAny (model X.prog X.w) X.A (call (.ref (L.fa f)) us) (EP X pins σ Q) X.xe s := by
  refine wpAny_call (codeAny_mono (S.call f j X.A X.stack s H us vs Q (fun c d H' => W c d σ H') S.room I.env0 rv ⟨ds, ads, M, rm, rl, q⟩) fun r s' hq => ?_)
  cases r with
  | error e => exact passAt S.tk σ pins H s e s' I hq
  | ok fl =>
    cases fl with
    | ret u => exact I.after hq
    | next => exact False.elim hq
    | brk => exact False.elim hq
    | cont => exact False.elim hq
theorem de_call (S : Sit X L T κ W) {x : Str} {p : Pos} {f j : Nat} (hg : Gl X x) (hm : X.mg x = some (.ref (L.fa f))) (hk : PySem.W.keepIn X.K (.ref (L.fa f)) = true) (ha : DA X L κ W (e :: es) ga) (hdb : (x == ("__debug__" : Str)) = false)
    (he : starEach (e :: es) X.env = (false, eval e X.env) :: starEach es X.env) (hpl : (backTo pos (starEach es X.env)).any (·.1) = false) : DE X L κ W (.Call (.Name x p) (e :: es) [] pos) (sCall f ((L.df f).drop j) ga) := by
  refine ⟨fun pins s σ H Q I ⟨ρ, ads, M, re, rm, q⟩ => ?_⟩
  refine wpAny_Call_Name_kw (ld_glob I hg hm ?_ hdb)
  refine PySem.W.callWith_K (h₀ := X.base) I.ok.mod.kin hk (thn (ha.run pos pins s σ H _ I (tD.row re rm q)) fun us s1 ⟨vs, H1, I1, r, ds, ads1, M1, A1, m1, re1, rl, q1⟩ => ⟨I1.kIn, ?_⟩) he hpl
  exact call_own S I1 m1 rl r q1
theorem de_call0 (S : Sit X L T κ W) {x : Str} {p : Pos} {f j : Nat} (hg : Gl X x) (hm : X.mg x = some (.ref (L.fa f))) (hk : PySem.W.keepIn X.K (.ref (L.fa f)) = true) (hdb : (x == ("__debug__" : Str)) = false) : DE X L κ W (.Call (.Name x p) [] [] pos) (sCall f ((L.df f).drop j) sNil) := by
  refine ⟨fun pins s σ H Q I ⟨ρ, ads, M, re, rm, q⟩ => ?_⟩
  refine wpAny_Call_Name_kw (ld_glob I hg hm ?_ hdb)
  refine PySem.W.callWith_K0 I.kIn hk ?_
  exact call_own (us := []) (vs := []) (ds := []) S I rm (by simp only [RepL]) .nil q
/-- a local that holds a def -/
theorem de_callV (S : Sit X L T κ W) {i : Nat} {x : Str} {p : Pos} (hN : X.N[i]? = some x) (hv : Vis X.env.scope x) (hk : ∀ f, PySem.W.keepIn X.K (.ref (L.fa f)) = true) (ha : DA X L κ W (e :: es) ga) (hdb : (x == ("__debug__" : Str)) = false) (hcd : (x == ("__classdict__" : Str)) = false)
    (he : starEach (e :: es) X.env = (false, eval e X.env) :: starEach es X.env) (hpl : (backTo pos (starEach es X.env)).any (·.1) = false) : DE X L κ W (.Call (.Name x p) (e :: es) [] pos) (sCallV i ga) := by
  refine ⟨fun pins s σ H Q I ⟨ρ, ads, M, re, rm, q⟩ => ?_⟩
  unfold sCallV at q
  split at q
  · rename_i f e1
    obtain ⟨v, hs, rv⟩ := re.2 i _ e1
    simp only [RepD] at rv
    subst rv
    refine wpAny_Call_Name_kw (thn ((pe_var (pos := p) hN hv hdb hcd).run pins s σ H (fun v H1 => v = .ref (L.fa f) ∧ H1 = H) I ⟨_, hs, rfl, rfl⟩) fun u s1 ⟨v, H1, I1, r1, q1⟩ => ?_)
    obtain ⟨rfl, rfl⟩ := q1
    cases r1
    refine PySem.W.callWith_K (h₀ := X.base) I.ok.mod.kin (hk f) (thn (ha.run pos pins s1 σ _ _ I1 (tD.row re rm q)) fun us s2 ⟨vs, H2, I2, r, ds, ads1, M1, A1, m1, re1, rl, q1⟩ => ⟨I2.kIn, ?_⟩) he hpl
    refine call_own (j := (L.df f).length) S I2 m1 rl r ?_
    rw [List.drop_length, List.append_nil]
    exact q1
  · exact q.elim
/-- a slice -/
theorem de_slice {lo hi : Option Expr} {p2 : Pos} {gl gh : Option SE} (ha : DE X L κ W a ga) (hl : match lo, gl with | none, none => True | some l, some g => DE X L κ W l g | _, _ => False) (hh : match hi, gh with | none, none => True | some l, some g => DE X L κ W l g | _, _ => False) :
    DE X L κ W (.Subscript a (.Slice lo hi none p2) pos) (sSlice ga gl gh) := by
  refine ⟨fun pins s σ H Q I ⟨ρ, ads, M, re, rm, q⟩ => ?_⟩
  have fin : ∀ {d : D} {ads1 : Nat → Addr} {M1 : Mem} {H1 : Hp} {v : V} {lo hi : Option Int}, RepM X.K L ads1 H1 M1 → RepD X.K L ads1 M1.length H1 d v → OutP X.K L ads1 M1 H1 (dCut lo hi d M1) Q (fun c d H' => W c d σ H') → rCutD X.K L (fun c d H' => W c d σ H') v lo hi H1 Q := fun m r q => ⟨_, _, _, m, r, q⟩
  cases lo with
  | none =>
    cases gl with
    | some _ => exact hl.elim
    | none =>
      cases hi with
      | none =>
        cases gh with
        | some _ => exact hh.elim
        | none =>
          exact (pe_slice (sl_d (L := L) (E := fun c d H' => W c d σ H')) ha po_none po_none).run pins s σ H Q I ((tD.bind (ga := ga) re rm q).mono fun v H1 ⟨d, ads1, M1, A1, m1, re1, r1, q1⟩ => fin m1 r1 q1)
      | some h =>
        cases gh with
        | none => exact hh.elim
        | some g =>
          refine (pe_slice (sl_d (L := L) (E := fun c d H' => W c d σ H')) ha po_none (po_some hh)).run pins s σ H Q I ((tD.bind (ga := ga) re rm q).mono fun v H1 ⟨d, ads1, M1, A1, m1, re1, r1, q1⟩ => (tD.bind (ga := g) re1 m1 q1).mono fun w H2 ⟨d2, ads2, M2, A2, m2, re2, r2, q2⟩ => ?_)
          split at q2
          · simp only [RepD] at r2
            exact ⟨_, r2, fin m2 (r1.on m1 A2) q2⟩
          · exact q2.elim
  | some l =>
    cases gl with
    | none => exact hl.elim
    | some g0 =>
      cases hi with
      | none =>
        cases gh with
        | some _ => exact hh.elim
        | none =>
          refine (pe_slice (sl_d (L := L) (E := fun c d H' => W c d σ H')) ha (po_some hl) po_none).run pins s σ H Q I ((tD.bind (ga := ga) re rm q).mono fun v H1 ⟨d, ads1, M1, A1, m1, re1, r1, q1⟩ => (tD.bind (ga := g0) re1 m1 q1).mono fun w H2 ⟨d2, ads2, M2, A2, m2, re2, r2, q2⟩ => ?_)
          split at q2
          · simp only [RepD] at r2
            exact ⟨_, r2, fin m2 (r1.on m1 A2) q2⟩
          · exact q2.elim
      | some h =>
        cases gh with
        | none => exact hh.elim
        | some g =>
          refine (pe_slice (sl_d (L := L) (E := fun c d H' => W c d σ H')) ha (po_some hl) (po_some hh)).run pins s σ H Q I ((tD.bind (ga := ga) re rm q).mono fun v H1 ⟨d, ads1, M1, A1, m1, re1, r1, q1⟩ => (tD.bind (ga := g0) re1 m1 q1).mono fun w H2 ⟨d2, ads2, M2, A2, m2, re2, r2, q2⟩ => ?_)
          split at q2
          · simp only [RepD] at r2
            refine ⟨_, r2, (tD.bind (ga := g) re2 m2 q2).mono fun w3 H3 ⟨d3, ads3, M3, A3, m3, re3, r3, q3⟩ => ?_⟩
            split at q3
            · simp only [RepD] at r3
              exact ⟨_, r3, fin m3 ((r1.on m1 A2).on m2 A3) q3⟩
            · exact q3.elim
          · exact q2.elim
end
end PK
end

section
set_option Elab.async false
set_option linter.all false
set_option maxHeartbeats 4000000
set_option maxRecDepth 100000
/-! PKf: walks, targets, comprehensions. -/
namespace PK
open PySem L2 PySem.Spec PyProof.Rows

section
variable {K : PySem.W.Frag} {L : Lk} {ads ads1 ads2 : Nat → Addr} {H H1 H2 H' : Hp} {M M1 M2 M' : Mem} {a : Nat} {xs : List D} {vs : List V} {d : D} {v : V} {J : It}
/-! ### locked lists -/
theorem After.lock (A : After ads M H ads1 M1 H1) (ha : M1[a]? = some (.lst xs)) : After ads M H ads1 (M1.set a (.lck xs)) H1 where
  ext := A.ext
  agr := A.agr
  len := by simp [A.len]
  fresh := fun n h1 h2 => A.fresh n h1 (by simpa using h2)
  fixd := fun n o h f => by
    obtain ⟨h1, e⟩ := A.fixd n o h f
    have hn : a ≠ n := fun z => by
      subst z
      rw [ha] at h1; cases h1; cases f
    exact ⟨by rw [List.getElem?_set_ne hn]; exact h1, e⟩
theorem After.unlock (A : After ads M H ads1 M1 H1) (ha : M1[a]? = some (.lck xs)) (hs : ∀ o, M[a]? = some o → o.fix = false) : After ads M H ads1 (M1.set a (.lst xs)) H1 where
  ext := A.ext
  agr := A.agr
  len := by simp [A.len]
  fresh := fun n h1 h2 => A.fresh n h1 (by simpa using h2)
  fixd := fun n o h f => by
    obtain ⟨h1, e⟩ := A.fixd n o h f
    have hn : a ≠ n := fun z => by
      subst z
      rw [hs o h] at f; cases f
    exact ⟨by rw [List.getElem?_set_ne hn]; exact h1, e⟩
theorem RepM.lock (m : RepM K L ads H M) (ha : M[a]? = some (.lst xs)) : RepM K L ads H (M.set a (.lck xs)) where
  at_ := fun n o e => by
    by_cases hn : a = n
    · subst hn
      rw [List.getElem?_set_self (List.getElem?_eq_some_iff.mp ha).1] at e
      cases e
      obtain ⟨vs, h1, h2⟩ := m.at_ a _ ha
      exact ⟨vs, h1, h2⟩
    · rw [List.getElem?_set_ne hn] at e
      exact m.at_ n o e
  inj := fun i j hi hj e => m.inj i j (by simpa using hi) (by simpa using hj) e
theorem RepM.unlock (m : RepM K L ads H M) (ha : M[a]? = some (.lck xs)) : RepM K L ads H (M.set a (.lst xs)) where
  at_ := fun n o e => by
    by_cases hn : a = n
    · subst hn
      rw [List.getElem?_set_self (List.getElem?_eq_some_iff.mp ha).1] at e
      cases e
      obtain ⟨vs, h1, h2⟩ := m.at_ a _ ha
      exact ⟨vs, h1, h2⟩
    · rw [List.getElem?_set_ne hn] at e
      exact m.at_ n o e
  inj := fun i j hi hj e => m.inj i j (by simpa using hi) (by simpa using hj) e
def SrcOk (M : Mem) (src : Option Nat) : Prop := ∀ a, src = some a → ∀ o, M[a]? = some o → o.fix = false
/-- behind the walk -/
theorem unlock_ok {src : Option Nat} {M3 : Mem} (A : After ads M H ads2 M2 H2) (m : RepM K L ads2 H2 M2) (so : SrcOk M src) (e : unlock src M2 = some M3) : After ads M H ads2 M3 H2 ∧ RepM K L ads2 H2 M3 ∧ M3.length = M2.length := by
  unfold PK.unlock at e
  cases src with
  | none => cases e; exact ⟨A, m, rfl⟩
  | some a =>
    simp only at e
    split at e
    · rename_i xs ha
      cases e
      exact ⟨A.unlock ha (so a rfl), m.unlock ha, by simp⟩
    · cases e
/-- a list that is walked: it stands fixed in the memory, or it is no part of it -/
theorem lockD_ok {k : Nat} (A : After ads M H ads1 M1 H1) (m : RepM K L ads1 H1 M1) (d : D) :
    After ads M H ads1 (lockD k M1 d).2 H1 ∧ RepM K L ads1 H1 (lockD k M1 d).2 ∧ SrcOk M (lockD k M1 d).1 ∧ (lockD k M1 d).2.length = M1.length ∧ ∀ a xs, d = .loc a → a < k → rdL M1 a = some xs → ∃ o, (lockD k M1 d).2[a]? = some o ∧ o.fix = true := by
  unfold lockD
  cases d with
  | loc a =>
    simp only
    split
    · rename_i hk
      unfold lockAt
      cases e : M1[a]? with
      | none => exact ⟨A, m, fun _ z => (by cases z), rfl, fun a' xs z _ w => (by cases z; rw [rdL, e] at w; cases w)⟩
      | some o =>
        cases o with
        | lst xs =>
          refine ⟨A.lock e, m.lock e, fun a' z o ho => ?_, by simp, fun a' ys z _ w => ?_⟩
          · cases z
            cases f : o.fix with
            | false => rfl
            | true =>
              have := (A.fixd a o ho f).1
              rw [e] at this; cases this; cases f
          · cases z
            exact ⟨_, List.getElem?_set_self (List.getElem?_eq_some_iff.mp e).1, rfl⟩
        | lck xs => exact ⟨A, m, fun _ z => (by cases z), rfl, fun a' ys z _ w => (by cases z; exact ⟨_, e, rfl⟩)⟩
        | dic ys => exact ⟨A, m, fun _ z => (by cases z), rfl, fun a' ys z _ w => (by cases z; rw [rdL, e] at w; cases w)⟩
        | ins c ys => exact ⟨A, m, fun _ z => (by cases z), rfl, fun a' ys z _ w => (by cases z; rw [rdL, e] at w; cases w)⟩
    · exact ⟨A, m, fun _ z => (by cases z), rfl, fun a' xs z h _ => (by cases z; exact absurd h (by assumption))⟩
  | _ => exact ⟨A, m, fun _ z => (by cases z), rfl, fun a' xs z => (by cases z)⟩

/-! ### walks -/
/-- J gives xs, whatever is run meanwhile -/
def WalkD (K : PySem.W.Frag) (L : Lk) (ads1 : Nat → Addr) (M1 : Mem) (H1 : Hp) (xs : List D) (J : It) : Prop :=
  ∃ G : Hp → Prop, (∀ ads2 M2 H2, After ads1 M1 H1 ads2 M2 H2 → RepM K L ads2 H2 M2 → G H2) ∧
    Walk J xs.length G (fun i H x H' => ∀ ads2 M2, After ads1 M1 H1 ads2 M2 H → RepM K L ads2 H M2 → After ads2 M2 H ads2 M2 H' ∧ RepM K L ads2 H' M2 ∧ ∃ d, xs[i]? = some d ∧ RepD K L ads2 M2.length H' d x)
theorem walkD_at {G : Hp → Prop} (m1 : RepM K L ads1 H1 M1) (rl : RepL K L ads1 M1.length H1 xs vs) (hG : ∀ ads2 M2 H2, After ads1 M1 H1 ads2 M2 H2 → RepM K L ads2 H2 M2 → G H2) (w : Walk J vs.length G (YAt vs)) : WalkD K L ads1 M1 H1 xs J := by
  refine ⟨G, hG, ?_⟩
  rw [rl.length]
  refine w.mono (fun _ h => h) fun i H x H' hi _ y ads2 M2 A2 m2 => ?_
  obtain ⟨e, hx⟩ := y
  subst e
  refine ⟨After.refl, m2, ?_⟩
  have hi' : i < xs.length := by rw [rl.length]; exact hi
  obtain ⟨v, hv, r⟩ := (rl.on m1 A2).get (i := i) (d := xs[i]) (by simp [hi'])
  rw [hx] at hv; cases hv
  exact ⟨_, by simp [hi'], r⟩
/-- what a walk's answer asks -/
def IOutP (K : PySem.W.Frag) (L : Lk) (ads : Nat → Addr) (M : Mem) (H : Hp) (o : IOut) (R : It → Hp → Prop) (E : XK) : Prop :=
  match o with
  | .ok xs src M1 => ∀ J ads1 H1, After ads M H ads1 M1 H1 → RepM K L ads1 H1 M1 → SrcOk M src → WalkD K L ads1 M1 H1 xs J → R J H1
  | .exc x M' => ∀ ads' H' c dx, After ads M H ads' M' H' → RepM K L ads' H' M' → RepX K L H' x c dx → E c dx H'
  | .bad => False
def tDI (K : PySem.W.Frag) (L : Lk) (κ : Ctx) (W : WX) (gi : SI) : TI := fun σ H R => ∃ ρ ads M, RepE K L ads M.length H ρ σ ∧ RepM K L ads H M ∧ IOutP K L ads M H (gi κ ρ M) R (fun c d H' => W c d σ H')
abbrev DI (X : Cx) (L : Lk) (κ : Ctx) (W : WX) (tg it : Expr) (gi : SI) : Prop := PI X tg it (tDI X.K L κ W gi)
theorem rep_rd' {n : Nat} (m : RepM K L ads H M) (h : rdL M n = some xs) : ∃ vs u, n < M.length ∧ H (ads n) = some u ∧ (u = .lst vs ∨ ∃ ob, u = .frz ob (.lst vs)) ∧ RepL K L ads n H xs vs := by
  cases e : M[n]? with
  | none => rw [rdL, e] at h; cases h
  | some o =>
    have hn := (List.getElem?_eq_some_iff.mp e).1
    rw [rdL, e] at h
    have ro := m.at_ n o e
    cases o with
    | lst ys => cases h; obtain ⟨vs, h1, h2⟩ := ro; exact ⟨vs, _, hn, h1, .inl rfl, h2⟩
    | lck ys => cases h; obtain ⟨vs, h1, h2⟩ := ro; exact ⟨vs, _, hn, h1, .inl rfl, h2⟩
    | dic ys => cases h
    | ins c ys => cases h
theorem sqL_of {p : Addr} {u : HO} (h : H p = some u) (e : u = .lst vs ∨ ∃ ob, u = .frz ob (.lst vs)) : SqL K H p vs := by
  rcases e with rfl | ⟨ob, rfl⟩
  · exact .inl (.inl h)
  · exact .inl (.inr ⟨ob, h⟩)
end
section
variable {X : Cx} {L : Lk} {T : Tb} {κ : Ctx} {W : WX} {ga gb : SE} {tg a b c : Expr} {pos : Pos}
theorem di_of (ha : DE X L κ W a ga) : DI X L κ W tg a (iOf ga) := by
  refine ⟨fun pins s σ H R I ⟨ρ, ads, M, re, rm, h⟩ => ?_⟩
  unfold iOf iGo at h
  cases e : ga κ ρ M with
  | bad => rw [e] at h; exact h.elim
  | exc x M' =>
    rw [e] at h
    exact (pi_tup (tg := tg) ha).run pins s σ H R I ⟨ρ, ads, M, re, rm, by rw [e]; exact h⟩
  | ok d M' =>
    rw [e] at h
    simp only at h
    unfold ofF at h
    cases hx : d.items M' with
    | none => rw [hx] at h; exact h.elim
    | some xs =>
      rw [hx] at h
      simp only at h
      -- what the walk is over, once it is known
      have fin : ∀ {J : It} {ads1 : Nat → Addr} {H1 : Hp}, After ads M H ads1 M' H1 → RepM X.K L ads1 H1 M' →
          (∀ (k : Nat) (M1 : Mem), k ≤ M'.length → (∀ o, RepO X.K L ads1 k H1 0 o → True) → After ads M H ads1 (lockD k M1 d).2 H1 → RepM X.K L ads1 H1 (lockD k M1 d).2 → (lockD k M1 d).2.length = k → D.ltL k xs = true → (∀ n, M1[n]? = if n < k then M'[n]? else none) → (∀ a xs, d = .loc a → a < k → rdL M1 a = some xs → ∃ o, (lockD k M1 d).2[a]? = some o ∧ o.fix = true) →
            WalkD X.K L ads1 (lockD k M1 d).2 H1 xs J) → (D.ltL M'.length xs = true) → R J H1 := fun {J ads1 H1} A m w lt => by
        split at h
        · rename_i hl
          have hlen : (M'.take M.length).length = M.length := by rw [List.length_take]; exact Nat.min_eq_left A.len
          obtain ⟨A2, m2, so, ln, fx⟩ := lockD_ok (k := M.length) A.take (m.take M.length) d
          refine h J ads1 H1 A2 m2 so (w _ _ A.len (fun _ _ => trivial) A2 m2 (by rw [ln, hlen]) hl (fun n => ?_) fx)
          split
          · rename_i hn; rw [List.getElem?_take_of_lt hn]
          · rename_i hn; rw [List.getElem?_take_eq_none (by omega)]
        · obtain ⟨A2, m2, so, ln, fx⟩ := lockD_ok (k := M'.length) A m d
          refine h J ads1 H1 A2 m2 so (w _ _ (Nat.le_refl _) (fun _ _ => trivial) A2 m2 ln lt (fun n => ?_) fx)
          split
          · rfl
          · rename_i hn; rw [List.getElem?_eq_none (by omega)]
      cases d with
      | tup ys =>
        simp only [D.items] at hx
        cases hx
        refine (pi_tup (tg := tg) ha).run pins s σ H R I ⟨ρ, ads, M, re, rm, ?_⟩
        rw [e]
        intro ads1 H1 v A m r
        simp only [RepD] at r
        obtain ⟨p, vs, rfl, hq, rl⟩ := r
        refine ⟨p, rfl, ⟨vs, hq⟩, fin A m (fun k M1 _ _ A2 m2 ln hl _ _ => ?_) (RepL.isLt _ _ rl)⟩
        refine walkD_at (G := fun H => SqT X.K H p vs) m2 (by rw [ln]; exact RepL.low _ _ rl hl) (fun ads2 M2 H2 A3 m3 => SqT.tin (A3.tin m2) hq) walk_tup
      | str z =>
        simp only [D.items] at hx
        cases hx
        refine (pi_str (tg := tg) ha).run pins s σ H R I ⟨ρ, ads, M, re, rm, ?_⟩
        rw [e]
        intro ads1 H1 v A m r
        simp only [RepD] at r
        subst r
        have rl : ∀ k, RepL X.K L ads1 k H1 (z.map fun c => D.str [c]) (z.map fun c => V.str ⟨#[c]⟩) := fun k => RepL.map_of (fun c => by simp only [RepD]) z
        refine ⟨_, rfl, fin A m (fun k M1 _ _ A2 m2 ln hl _ _ => ?_) (RepL.isLt _ _ (rl _))⟩
        refine walkD_at (G := fun _ => True) m2 (rl _) (fun _ _ _ _ _ => trivial) ?_
        have w := walk_str (z := ⟨z.toArray⟩)
        have hl : (⟨z.toArray⟩ : Str).cps.size = (z.map fun c => V.str ⟨#[c]⟩).length := by simp
        rw [hl] at w
        refine w.mono (fun _ h => h) fun i H x H' hi _ y => ?_
        obtain ⟨e1, c, hc, rfl⟩ := y
        refine ⟨e1, ?_⟩
        have hc' : z[i]? = some c := by simpa using hc
        simp [hc']
      | loc n =>
        simp only [D.items] at hx
        refine (pi_list (tg := tg) ha).run pins s σ H R I ⟨ρ, ads, M, re, rm, ?_⟩
        rw [e]
        intro ads1 H1 v A m r
        simp only [RepD] at r
        obtain ⟨hn, rfl⟩ := r
        obtain ⟨vs, u, _, hu, he, rl⟩ := rep_rd' m hx
        refine ⟨_, rfl, ⟨vs, sqL_of hu he⟩, fin A m (fun k M1 hk _ A2 m2 ln hl gt fx => ?_) (RepL.isLt _ _ (rl.up' hn))⟩
        refine walkD_at (G := fun H => SqL X.K H (ads1 n) vs) m2 (by rw [ln]; exact RepL.low _ _ rl hl) (fun ads2 M2 H2 A3 m3 => ?_) walk_list
        by_cases hnk : n < k
        · obtain ⟨o, ho, hf⟩ := fx n xs rfl hnk (by rw [rdL, gt, if_pos hnk]; exact hx)
          have := (A3.fixd n o ho hf).2
          exact sqL_of (by rw [this]; exact hu) he
        · refine sqL_of (A3.ext _ _ hu fun j hj ej => ?_) he
          rw [ln] at hj
          have := m.inj j n (by omega) hn ej
          omega
      | _ => simp [D.items] at hx
/-! range -/
theorem walk_rngD {K : PySem.W.Frag} {ads1 : Nat → Addr} {M1 : Mem} {H1 : Hp} {lo c : Int} {n : Nat} {J : It} (m1 : RepM K L ads1 H1 M1) (w : Walk J n (fun _ => True) (YFn fun i => .int (lo + (i : Nat) * c))) : WalkD K L ads1 M1 H1 (rangeD lo c n) J := by
  have rl : RepL K L ads1 M1.length H1 (rangeD lo c n) ((List.range n).map fun i : Nat => V.int (lo + (i : Int) * c)) := RepL.map_of (fun i => by simp only [RepD]) _
  refine walkD_at (G := fun _ => True) m1 rl (fun _ _ _ _ _ => trivial) ?_
  have hl : ((List.range n).map fun i : Nat => V.int (lo + (i : Int) * c)).length = n := by simp
  rw [hl]
  refine w.mono (fun _ h => h) fun i H x H' hi _ y => ?_
  obtain ⟨e1, rfl⟩ := y
  exact ⟨e1, by simp [hi]⟩
theorem repl_ints1 {K : PySem.W.Frag} {ads : Nat → Addr} {k : Nat} {H : Hp} {j : Int} {vs : List V} (h : RepL K L ads k H [.int j] vs) : vs = [.int j] := by
  simp only [RepL, RepD] at h
  obtain ⟨v, r, rfl, rfl, rfl⟩ := h
  rfl
theorem repl_ints2 {K : PySem.W.Frag} {ads : Nat → Addr} {k : Nat} {H : Hp} {i j : Int} {vs : List V} (h : RepL K L ads k H [.int i, .int j] vs) : vs = [.int i, .int j] := by
  simp only [RepL, RepD] at h
  obtain ⟨v, r, rfl, rfl, v2, r2, rfl, rfl, rfl⟩ := h
  rfl
theorem repl_ints3 {K : PySem.W.Frag} {ads : Nat → Addr} {k : Nat} {H : Hp} {i j c : Int} {vs : List V} (h : RepL K L ads k H [.int i, .int j, .int c] vs) : vs = [.int i, .int j, .int c] := by
  simp only [RepL, RepD] at h
  obtain ⟨v, r, rfl, rfl, v2, r2, rfl, rfl, v3, r3, rfl, rfl, rfl⟩ := h
  rfl
theorem srcNone {M : Mem} : SrcOk M none := fun _ z => by cases z
theorem di_r1 (hg : Gl X "range") (hm : X.mg "range" = none) (ha : DA X L κ W [a] ga) {p : Pos} (hs : starEach [a] X.env = [(false, eval a X.env)]) : DI X L κ W tg (.Call (.Name "range" p) [a] [] pos) (iR1 ga) := by
  refine ⟨fun pins s σ H R I ⟨ρ, ads, M, re, rm, h⟩ => (pi_range1 (tg := tg) (p := p) (pos := pos) hg hm ha hs).run pins s σ H R I ⟨ρ, ads, M, re, rm, ?_⟩⟩
  unfold iR1 iGo at h
  cases e : ga κ ρ M with
  | bad => rw [e] at h; exact h.elim
  | exc x M' => rw [e] at h; exact h
  | ok d M' =>
    rw [e] at h
    simp only at h
    unfold r1F at h
    split at h
    · rename_i j
      split at h
      · rename_i hj
        intro ads' H' vs A m r
        refine ⟨j, repl_ints1 r, hj.1, hj.2, ?_⟩
        have w := walk_range (lo := 0) (n := j.toNat)
        refine h _ ads' H' A.take (m.take _) srcNone (walk_rngD (m.take _) (w.mono (fun _ h => h) fun i H x H' _ _ y => ?_))
        exact ⟨y.1, by rw [y.2]; simp⟩
      · exact h.elim
    · exact h.elim
theorem di_r2 (hg : Gl X "range") (hm : X.mg "range" = none) (ha : DA X L κ W [a, b] ga) {p : Pos} (hs : starEach [a, b] X.env = [(false, eval a X.env), (false, eval b X.env)]) (hs2 : starEach [b] X.env = [(false, eval b X.env)]) : DI X L κ W tg (.Call (.Name "range" p) [a, b] [] pos) (iR2 ga) := by
  refine ⟨fun pins s σ H R I ⟨ρ, ads, M, re, rm, h⟩ => (pi_range2 (tg := tg) (p := p) (pos := pos) hg hm ha hs hs2).run pins s σ H R I ⟨ρ, ads, M, re, rm, ?_⟩⟩
  unfold iR2 iGo at h
  cases e : ga κ ρ M with
  | bad => rw [e] at h; exact h.elim
  | exc x M' => rw [e] at h; exact h
  | ok d M' =>
    rw [e] at h
    simp only at h
    unfold r2F at h
    split at h
    · rename_i i j
      split at h
      · rename_i hj
        intro ads' H' vs A m r
        refine ⟨i, j, repl_ints2 r, hj, ?_⟩
        have w := walk_range (lo := i) (n := (j - i).toNat)
        refine h _ ads' H' A.take (m.take _) srcNone (walk_rngD (m.take _) (w.mono (fun _ h => h) fun i H x H' _ _ y => ?_))
        exact ⟨y.1, by rw [y.2]; simp⟩
      · exact h.elim
    · exact h.elim
theorem di_r3 (hg : Gl X "range") (hm : X.mg "range" = none) (ha : DA X L κ W [a, b, c] ga) {p : Pos} (hs : starEach [a, b, c] X.env = (false, eval a X.env) :: starEach [b, c] X.env) (hpl : (backTo pos (starEach [b, c] X.env)).any (·.1) = false) : DI X L κ W tg (.Call (.Name "range" p) [a, b, c] [] pos) (iR3 ga) := by
  refine ⟨fun pins s σ H R I ⟨ρ, ads, M, re, rm, h⟩ => (pi_range3 (tg := tg) (p := p) (pos := pos) hg hm ha hs hpl).run pins s σ H R I ⟨ρ, ads, M, re, rm, ?_⟩⟩
  unfold iR3 iGo at h
  cases e : ga κ ρ M with
  | bad => rw [e] at h; exact h.elim
  | exc x M' => rw [e] at h; exact h
  | ok d M' =>
    rw [e] at h
    simp only at h
    unfold r3F at h
    split at h
    · rename_i i j c
      split at h
      · rename_i hj
        intro ads' H' vs A m r
        obtain ⟨rfl, h1, h2, h3, h4⟩ := hj
        exact ⟨i, j, -1, (i - j).toNat, repl_ints3 r, RgC.neg (by omega) (by omega) (by omega) (by omega), h _ ads' H' A.take (m.take _) srcNone (walk_rngD (m.take _) walk_rangeC)⟩
      · exact h.elim
    · exact h.elim
/-! zip -/
theorem walk_zipT {K : PySem.W.Frag} {a b : Addr} {xs ys : List V} {n : Nat} (hn : n = min xs.length ys.length) : Walk (RZ.ItzT K a b) n (fun H => SqT K H a xs ∧ SqT K H b ys) (YPair (fun i => xs[i]?) (fun i => ys[i]?)) := by
  subst hn
  refine ⟨fun i _ hi q => ?_, fun _ q => ⟨xs, ys, q.1, q.2, by omega⟩, fun i H v H' _ q y => ?_⟩
  · have h1 : i < xs.length := by omega
    have h2 : i < ys.length := by omega
    exact ⟨xs, ys, xs[i], ys[i], q.1, q.2, by simp [h1], by simp [h2]⟩
  · obtain ⟨T, x, z, h1, h2, h3, h4, h5⟩ := y
    exact ⟨T, x, z, h1, h2, h3, h4 xs q.1, h5 ys q.2⟩
theorem zipD_length : ∀ (xs ys : List D), (zipD xs ys).length = min xs.length ys.length
  | [], ys => by simp [zipD]
  | x :: xs, [] => by simp [zipD]
  | x :: xs, y :: ys => by simp [zipD, zipD_length xs ys]
theorem zipD_get : ∀ {xs ys : List D} {i : Nat} {x y : D}, xs[i]? = some x → ys[i]? = some y → (zipD xs ys)[i]? = some (.tup [x, y])
  | [], _, _, _, _, h, _ => by simp at h
  | _ :: _, [], _, _, _, _, h => by simp at h
  | x :: xs, y :: ys, 0, _, _, h1, h2 => by
    simp at h1 h2
    subst h1 h2
    simp [zipD]
  | x :: xs, y :: ys, i + 1, _, _, h1, h2 => by
    simp only [List.getElem?_cons_succ] at h1 h2
    simp only [zipD, List.getElem?_cons_succ]
    exact zipD_get h1 h2
theorem walkD_zip {K : PySem.W.Frag} {ads1 : Nat → Addr} {M1 : Mem} {H1 : Hp} {xs ys : List D} {vs ws : List V} {J : It} {G : Hp → Prop} (m1 : RepM K L ads1 H1 M1) (r1 : RepL K L ads1 M1.length H1 xs vs) (r2 : RepL K L ads1 M1.length H1 ys ws)
    (hG : ∀ ads2 M2 H2, After ads1 M1 H1 ads2 M2 H2 → RepM K L ads2 H2 M2 → G H2) (w : Walk J (min vs.length ws.length) G (YPair (fun i => vs[i]?) (fun i => ws[i]?))) : WalkD K L ads1 M1 H1 (zipD xs ys) J := by
  refine ⟨G, hG, ?_⟩
  rw [zipD_length, r1.length, r2.length]
  refine w.mono (fun _ h => h) fun i H x H' hi _ y ads2 M2 A2 m2 => ?_
  obtain ⟨t, x1, y1, rfl, ht, rfl, hx, hy⟩ := y
  refine ⟨After.new m2 ht, m2.new ht, ?_⟩
  have hi1 : i < xs.length := by rw [r1.length]; omega
  have hi2 : i < ys.length := by rw [r2.length]; omega
  obtain ⟨v, hv, q1⟩ := (r1.on m1 A2).get (i := i) (d := xs[i]) (by simp [hi1])
  obtain ⟨w, hw, q2⟩ := (r2.on m1 A2).get (i := i) (d := ys[i]) (by simp [hi2])
  have hx : vs[i]? = some x1 := hx
  have hy : ws[i]? = some y1 := hy
  rw [hx] at hv; cases hv
  rw [hy] at hw; cases hw
  refine ⟨_, zipD_get (x := xs[i]) (y := ys[i]) (by simp [hi1]) (by simp [hi2]), ?_⟩
  simp only [RepD]
  exact ⟨t, [x1, y1], rfl, .of upd_same, RepL.cons (q1.new ht) (RepL.one (q2.new ht))⟩
theorem di_zip {elts : List Expr} {kk : Nat} {tpos p : Pos} (hg : Gl X "zip") (hm : X.mg "zip" = none) (ha : DA X L κ W [a, b] ga) (hs : starEach [a, b] X.env = (false, eval a X.env) :: starEach [b] X.env) (hpl : (backTo pos (starEach [b] X.env)).any (·.1) = false) :
    DI X L κ W (.Tuple elts kk tpos) (.Call (.Name "zip" p) [a, b] [] pos) (iZip ga) := by
  refine ⟨fun pins s σ H R I ⟨ρ, ads, M, re, rm, h⟩ => (RZ.pi_zipA (p := p) (pos := pos) (elts := elts) (kk := kk) (tpos := tpos) hg hm ha hs hpl).run pins s σ H R I ⟨ρ, ads, M, re, rm, ?_⟩⟩
  unfold iZip iGo at h
  cases e : ga κ ρ M with
  | bad => rw [e] at h; exact h.elim
  | exc x M' => rw [e] at h; exact h
  | ok d M' =>
    rw [e] at h
    simp only at h
    unfold zipF at h
    split at h
    · rename_i xs ys
      split at h
      · rename_i hl
        simp only [Bool.and_eq_true] at hl
        intro ads' H' vs A m r
        simp only [RepL, RepD] at r
        obtain ⟨v, r, rfl, ⟨p1, vs1, rfl, q1, rl1⟩, v2, r2, rfl, ⟨p2, vs2, rfl, q2, rl2⟩, rfl⟩ := r
        refine ⟨p1, p2, vs1, vs2, rfl, .inr ⟨q1, q2, ?_⟩⟩
        have hlen : (M'.take M.length).length = M.length := by rw [List.length_take]; exact Nat.min_eq_left A.len
        refine h _ ads' H' A.take (m.take _) srcNone (walkD_zip (G := fun H => SqT X.K H p1 vs1 ∧ SqT X.K H p2 vs2) (m.take _) (by rw [hlen]; exact RepL.low _ _ rl1 hl.1) (by rw [hlen]; exact RepL.low _ _ rl2 hl.2) (fun ads2 M2 H2 A3 m3 => ?_) (walk_zipT rfl))
        exact ⟨SqT.tin (A3.tin (m.take _)) q1, SqT.tin (A3.tin (m.take _)) q2⟩
      · exact h.elim
    · rename_i n1 n2
      split at h
      · rename_i xs ys h1 h2
        split at h
        · rename_i hl
          simp only [Bool.and_eq_true, decide_eq_true_eq] at hl
          obtain ⟨⟨⟨l1, l2⟩, l3⟩, l4⟩ := hl
          intro ads' H' vs A m r
          simp only [RepL, RepD] at r
          obtain ⟨v, r, rfl, ⟨hn1, rfl⟩, v2, r2, rfl, ⟨hn2, rfl⟩, rfl⟩ := r
          obtain ⟨vs1, u1, _, hu1, he1, rl1⟩ := rep_rd' m h1
          obtain ⟨vs2, u2, _, hu2, he2, rl2⟩ := rep_rd' m h2
          refine ⟨_, _, vs1, vs2, rfl, .inl ⟨sqL_of hu1 he1, sqL_of hu2 he2, ?_⟩⟩
          have hlen : (M'.take M.length).length = M.length := by rw [List.length_take]; exact Nat.min_eq_left A.len
          refine h _ ads' H' A.take (m.take _) srcNone (walkD_zip (G := fun H => SqL X.K H (ads' n1) vs1 ∧ SqL X.K H (ads' n2) vs2) (m.take _) (by rw [hlen]; exact RepL.low _ _ rl1 l1) (by rw [hlen]; exact RepL.low _ _ rl2 l2) (fun ads2 M2 H2 A3 m3 => ?_) (walk_zip rfl))
          have out : ∀ n, M.length ≤ n → n < M'.length → ∀ j, j < (M'.take M.length).length → ads' j ≠ ads' n := fun n h1 h2 j hj ej => by
            rw [hlen] at hj
            have := m.inj j n (by omega) h2 ej
            omega
          exact ⟨sqL_of (A3.ext _ _ hu1 (out n1 l3 hn1)) he1, sqL_of (A3.ext _ _ hu2 (out n2 l4 hn2)) he2⟩
        · exact h.elim
      · exact h.elim
    · exact h.elim
end
end PK
end

section
set_option Elab.async false
set_option linter.all false
set_option maxHeartbeats 4000000
set_option maxRecDepth 100000
/-! PKg: targets, comprehensions, statements. -/
namespace PK
open PySem L2 PySem.Spec PyProof.Rows

/-! ### targets -/
def gAll : List Nat → TGs
  | [] => gNil
  | i :: is => gCons (gName i) (gAll is)
def gOf (K : PySem.W.Frag) : Tg → TG
  | .name i => gName i
  | .tup is => gTup K is.length (gAll is)
def Tg.ix : Tg → List Nat
  | .name i => [i]
  | .tup is => is
section
variable {K : PySem.W.Frag} {L : Lk} {ads : Nat → Addr} {k : Nat} {H : Hp} {ρ ρ' : Env} {σ : L2.St} {d : D} {v : V} {Q : L2.St → Hp → Prop}
theorem wipe_set {σ : L2.St} {i : Nat} {x : Option V} : ∀ {vs : List Nat}, i ∈ vs → wipe (σ.set i x) vs = wipe σ vs
  | v :: vs, h => by
    unfold wipe
    by_cases hv : i ∈ vs
    · rw [wipe_set hv]
    · have e : v = i := by
        rcases List.mem_cons.mp h with e | e
        · exact e.symm
        · exact absurd e hv
      subst e
      have go : ∀ {σ : L2.St} {vs : List Nat}, v ∉ vs → wipe (σ.set v x) vs = (wipe σ vs).set v x := fun {σ vs} hn => by
        induction vs with
        | nil => rfl
        | cons w ws ih =>
          unfold wipe
          rw [ih (fun z => hn (List.mem_cons_of_mem _ z)), List.set_comm _ _ (fun z => hn (by rw [z]; exact List.mem_cons_self))]
      rw [go hv, List.set_set]
theorem wipe_wipe {σ : L2.St} {vs : List Nat} : ∀ {us : List Nat}, (∀ i ∈ us, i ∈ vs) → wipe (wipe σ us) vs = wipe σ vs
  | [], _ => rfl
  | u :: us, h => by
    show wipe ((wipe σ us).set u none) vs = _
    rw [wipe_set (h u List.mem_cons_self), wipe_wipe fun i hi => h i (List.mem_cons_of_mem _ hi)]
theorem gAll_run : ∀ {is : List Nat} {ds : List D} {vs : List V} {ρ ρ' : Env} {σ : L2.St} {own : List Nat}, RepE K L ads k H ρ σ → RepL K L ads k H ds vs → setAll is ds ρ = some ρ' → (∀ σ', RepE K L ads k H ρ' σ' → ((∀ i ∈ is, i ∈ own) → wipe σ' own = wipe σ own) → Q σ' H) → gAll is vs σ H Q
  | [], [], vs, ρ, ρ', σ, own, re, rl, e, q => by
    simp only [RepL] at rl
    subst rl
    simp only [setAll] at e
    cases e
    exact ⟨rfl, q σ re fun _ => rfl⟩
  | [], _ :: _, _, _, _, _, _, _, _, e, _ => by simp [setAll] at e
  | _ :: _, [], _, _, _, _, _, _, _, e, _ => by simp [setAll] at e
  | i :: is, d :: ds, vs, ρ, ρ', σ, own, re, rl, e, q => by
    simp only [RepL] at rl
    obtain ⟨v, r, rfl, rd, rr⟩ := rl
    simp only [setAll] at e
    refine ⟨v, r, rfl, gAll_run (own := own) (re.set rd) rr e fun σ' re' w => q σ' re' fun hi => ?_⟩
    rw [w (fun j hj => hi j (List.mem_cons_of_mem _ hj)), wipe_set (hi i List.mem_cons_self)]
theorem gOf_run {t : Tg} {own : List Nat} (re : RepE K L ads k H ρ σ) (rd : RepD K L ads k H d v) (e : t.set d ρ = some ρ') (q : ∀ σ', RepE K L ads k H ρ' σ' → ((∀ i ∈ t.ix, i ∈ own) → wipe σ' own = wipe σ own) → Q σ' H) : gOf K t v σ H Q := by
  cases t with
  | name i =>
    simp only [Tg.set] at e
    cases e
    exact q _ (re.set rd) fun h => wipe_set (h i (by simp [Tg.ix]))
  | tup is =>
    simp only [Tg.set] at e
    cases d with
    | tup ds =>
      simp only [RepD] at rd
      obtain ⟨a, vs, rfl, hq, rl⟩ := rd
      have hl : ∀ {is : List Nat} {ds : List D} {ρ ρ' : Env}, setAll is ds ρ = some ρ' → ds.length = is.length := by
        intro is
        induction is with
        | nil => intro ds ρ ρ' e; cases ds with
          | nil => rfl
          | cons _ _ => simp [setAll] at e
        | cons i is ih => intro ds ρ ρ' e; cases ds with
          | nil => simp [setAll] at e
          | cons d ds => simp only [setAll] at e; simp [ih e]
      exact ⟨a, vs, rfl, hq, by rw [← rl.length]; exact hl e, gAll_run (own := own) re rl e q⟩
    | _ => simp at e
end
section
variable {X : Cx}
theorem pgs_all : ∀ {is : List Nat} {es : List Expr}, PGs X es (gAll is) → True := fun _ => trivial
end

/-! ### comprehensions -/
section
variable {K : PySem.W.Frag} {L : Lk} {ads ads' ads1 ads2 : Nat → Addr} {H H1 H2 H' : Hp} {M M1 M2 M' : Mem} {p : Addr} {u : HO} {acc : List V}
theorem After.priv (m : RepM K L ads H M) (A : After ads M H ads' M' H') (hp : H p = none) : After ads M H ads' M' (upd H' p u) where
  ext := fun a o h hl => by rw [upd_ne (ne_of_none h hp)]; exact A.ext a o h hl
  agr := A.agr
  len := A.len
  fresh := A.fresh
  fixd := fun n o h f => by
    obtain ⟨h1, e⟩ := A.fixd n o h f
    obtain ⟨w, hw, _⟩ := m.there (List.getElem?_eq_some_iff.mp h).1
    exact ⟨h1, by rw [upd_ne (ne_of_none hw hp)]; exact e⟩
theorem tups_priv (hp : H p = some (.lst acc)) : TupsIn H (upd H p u) := TupsIn.mut hp fun z => by cases z
theorem RepM.priv (m : RepM K L ads H M) (hp : H p = some (.lst acc)) (hn : ∀ n, n < M.length → ads n ≠ p) : RepM K L ads (upd H p u) M where
  at_ := fun n o e => (m.at_ n o e).tin (tups_priv hp) (fun w hw => by rw [upd_ne (hn n (List.getElem?_eq_some_iff.mp e).1)]; exact hw) fun _ _ => rfl
  inj := m.inj
theorem After.allocAt {o : MO} (A : After ads M H ads' M' H') (hp : H p = none) : After ads M H (adsN ads' M'.length p) (M' ++ [o]) H' where
  ext := A.ext
  agr := fun n hn => by rw [adsN_lt (Nat.lt_of_lt_of_le hn A.len)]; exact A.agr n hn
  len := by have := A.len; simp; omega
  fresh := fun n h1 h2 => by
    by_cases h : n < M'.length
    · rw [adsN_lt h]; exact A.fresh n h1 h
    · have : n = M'.length := by simp at h2; omega
      subst this
      rw [adsN_at]; exact hp
  fixd := fun n o h f => by
    obtain ⟨h1, e⟩ := A.fixd n o h f
    exact ⟨by rw [List.getElem?_append_left (List.getElem?_eq_some_iff.mp h1).1]; exact h1, e⟩
/-- what no place of the memory points to stays so -/
theorem After.out (A : After ads M H ads' M' H') (hp : H p ≠ none) (hn : ∀ n, n < M.length → ads n ≠ p) : ∀ n, n < M'.length → ads' n ≠ p := fun n h e => by
  by_cases hl : n < M.length
  · exact hn n hl (by rw [← A.agr n hl]; exact e)
  · exact hp (by rw [← e]; exact A.fresh n (by omega) h)
end
abbrev noW : WX := fun _ _ _ _ => False
def tCond (K : PySem.W.Frag) (L : Lk) (κ : Ctx) (cond : Option SE) : TT := match cond with
  | none => tYes
  | some g => tB (tD K L κ noW g)
section
variable {X : Cx} {L : Lk} {T : Tb} {κ : Ctx} {W : WX} {gi : SI} {t : Tg} {cond : Option SE} {ge : SE} {elt tg iter : Expr} {ifs : List Expr} {scope : Scope} {own : List (Str × Nat)} {pos : Pos}
theorem lc_law {σ : L2.St} {H : Hp} {Q : VK} (hix : ∀ i ∈ t.ix, i ∈ own.map (·.2)) (h : tD X.K L κ W (sComp (own.map (·.2)) t gi cond ge) σ H Q) :
    tLc (tDI X.K L κ W gi) (gOf X.K t) (tCond X.K L κ cond) (tD X.K L κ noW ge) (own.map (·.2)) σ H Q := by
  obtain ⟨ρ, ads, M, re, rm, h⟩ := h
  unfold sComp at h
  refine ⟨ρ, ads, M, re, rm, ?_⟩
  cases e : gi κ ρ M with
  | bad => rw [e] at h; exact h
  | exc x M' => rw [e] at h; exact h
  | ok xs src M1 =>
    rw [e] at h
    simp only at h
    intro J ads1 H1 A1 m1 so ⟨G, hG, wk⟩ D hD
    generalize hvs : own.map (·.2) = vs at h hix ⊢
    have hD0 : H D = none := by
      cases q : H D with
      | none => rfl
      | some o =>
        obtain ⟨u, hu⟩ := A1.tracked m1 q
        rw [hD] at hu; cases hu
    refine lc_it wk (fun i H' => ∃ ads2 M2 acc ws, After ads1 M1 H1 ads2 M2 H' ∧ RepM X.K L ads2 H' M2 ∧ H' D = some (.lst ws) ∧ RepL X.K L ads2 M2.length H' acc ws ∧ (∀ n, n < M2.length → ads2 n ≠ D) ∧ compGo κ (wipeE ρ vs) t cond ge xs [] M1 = compGo κ (wipeE ρ vs) t cond ge (xs.drop i) acc M2) ?_ ?_ ?_ ?_
    · exact ⟨ads1, M1, [], [], After.new m1 hD, m1.new hD, upd_same, by simp only [RepL], m1.live hD, by rw [List.drop_zero]⟩
    · exact fun i H' _ ⟨ads2, M2, acc, ws, A2, m2, _⟩ => hG _ _ _ A2 m2
    · intro i x H2 H2' hi ⟨ads2, M2, acc, ws, A2, m2, hDl, rl, nd, eq⟩ y
      obtain ⟨Ay, my, d, hd, rd⟩ := y ads2 M2 A2 m2
      have hdr : xs.drop i = d :: xs.drop (i + 1) := by
        have hlt := (List.getElem?_eq_some_iff.mp hd)
        obtain ⟨hl, he⟩ := hlt
        rw [List.drop_eq_getElem_cons hl, he]
      rw [eq, hdr] at h
      rw [hdr] at eq
      rw [compGo] at h eq
      have reW : RepE X.K L ads2 M2.length H2' (wipeE ρ vs) (wipe σ vs) := RepE.wipe (((re.on rm A1).on m1 (A2.trans m2 Ay))) vs
      cases hset : t.set d (wipeE ρ vs) with
      | none => rw [hset] at h; exact h.elim
      | some ρ' =>
        rw [hset] at h eq
        simp only at h eq
        refine gOf_run (own := vs) reW rd hset fun σ' re' hw => ⟨(hw hix).trans (wipe_wipe fun _ z => z), ?_⟩
        have hD2 : H2' D = some (.lst ws) := Ay.ext D _ hDl nd
        -- the element
        have elts : ∀ (ads3 : Nat → Addr) (M3 : Mem) (H3 : Hp), After ads2 M2 H2' ads3 M3 H3 → RepM X.K L ads3 H3 M3 → M3.length = M2.length →
            (∀ r, (match (ge κ ρ' M3) with
              | .ok d M2' => if acc.length < 16777216 then compGo κ (wipeE ρ vs) t cond ge (xs.drop (i + 1)) (acc ++ [(gcM M2.length d M2').1]) (gcM M2.length d M2').2 else .bad
              | _ => .bad) = r → compGo κ (wipeE ρ vs) t cond ge xs [] M1 = r ∧ OutP X.K L ads M H (match r with
                | .ok ds M2 => match unlock src M2 with
                  | some M3 => alloc (.lst ds) M3
                  | none => .bad
                | .bad => .bad) Q (fun c d H' => W c d σ H')) →
            tD X.K L κ noW ge σ' H3 fun y H4 => ∃ ac, H4 D = some (.lst ac) ∧ ac.length < sizeLine ∧ ∃ ads2 M2 acc ws, After ads1 M1 H1 ads2 M2 (upd H4 D (.lst (ac ++ [y]))) ∧ RepM X.K L ads2 (upd H4 D (.lst (ac ++ [y]))) M2 ∧ (upd H4 D (.lst (ac ++ [y]))) D = some (.lst ws) ∧ RepL X.K L ads2 M2.length (upd H4 D (.lst (ac ++ [y]))) acc ws ∧ (∀ n, n < M2.length → ads2 n ≠ D) ∧ compGo κ (wipeE ρ vs) t cond ge xs [] M1 = compGo κ (wipeE ρ vs) t cond ge (xs.drop (i + 1)) acc M2 := by
          intro ads3 M3 H3 A3 m3 hl3 hr
          obtain ⟨eqr, hq⟩ := hr _ rfl
          refine ⟨ρ', ads3, M3, by rw [hl3]; exact (by have := re'.on my A3; rw [hl3] at this; exact this), m3, ?_⟩
          have hD3 : H3 D = some (.lst ws) := A3.ext D _ hD2 nd
          have nd3 := A3.out (by rw [hD2]; simp) nd
          cases eg : ge κ ρ' M3 with
          | bad => rw [eg] at hq; exact hq.elim
          | exc x M4 => rw [eg] at hq; exact hq.elim
          | ok d4 M4 =>
            rw [eg] at hq eqr
            simp only at hq eqr
            intro ads4 H4 v A4 m4 r4
            obtain ⟨ads5, A5, m5, r5⟩ := gc_ok A4 m4 r4
            rw [hl3] at A5 m5 r5
            have hD4 : H4 D = some (.lst ws) := A4.ext D _ hD3 nd3
            have nd5 := A5.out (by rw [hD3]; simp) nd3
            split at eqr
            · rename_i hz
              refine ⟨ws, hD4, by rw [sizeLine16, ← rl.length]; exact hz, ads5, _, acc ++ [(gcM M2.length d4 M4).1], ws ++ [v], ?_, m5.priv hD4 nd5, upd_same, ?_, nd5, eqr⟩
              · exact After.priv m1 ((((A2.trans m2 Ay).trans my A3)).trans m3 A5) hD
              · have rl5 := ((rl.on m2 Ay).on my A3).on m3 A5
                exact RepL.tin (tups_priv hD4) (fun _ _ => rfl) _ _ (RepL.append rl5 (RepL.one r5))
            · rename_i hz
              rw [if_neg hz] at hq; exact hq.elim
        cases cond with
        | none =>
          simp only [condOk] at h eq
          refine (show ∀ {Q : Bool → Hp → Prop}, Q true H2' → tCond X.K L κ none σ' H2' Q from fun h => h) ?_
          (try dsimp only)
          rw [if_pos rfl]
          have hM : M2.take M2.length = M2 := List.take_length
          rw [hM] at h eq
          exact elts ads2 M2 H2' After.refl my rfl fun r hr => by rw [← hr]; exact ⟨eq, h⟩
        | some gc =>
          simp only [condOk] at h eq
          refine ⟨ρ', ads2, M2, re', my, ?_⟩
          cases ec : gc κ ρ' M2 with
          | bad => rw [ec] at h; exact h.elim
          | exc x M3 => rw [ec] at h; exact h.elim
          | ok dc M3 =>
            rw [ec] at h eq
            intro ads3 H3 v A3 m3 r3
            have hl3 : (M3.take M2.length).length = M2.length := by rw [List.length_take]; exact Nat.min_eq_left A3.len
            cases dc with
            | bl b =>
              simp only [RepD] at r3
              subst r3
              refine ⟨b, rfl, ?_⟩
              cases b with
              | true =>
                rw [if_pos rfl]
                exact elts ads3 _ H3 A3.take (m3.take _) hl3 fun r hr => by rw [← hr]; exact ⟨eq, h⟩
              | false =>
                rw [if_neg Bool.false_ne_true]
                have hD3 : H3 D = some (.lst ws) := A3.ext D _ hD2 nd
                refine ⟨ads3, _, acc, ws, (A2.trans m2 Ay).trans my A3.take, m3.take _, hD3, (rl.on m2 Ay).on my A3.take, A3.take.out (by rw [hD2]; simp) nd, eq⟩
            | _ => exact h.elim
    · intro H' ⟨ads2, M2, acc, ws, A2, m2, hDl, rl, nd, eq⟩
      rw [List.drop_length] at eq
      rw [eq] at h
      unfold compGo at h
      simp only at h
      cases eu : unlock src M2 with
      | none => rw [eu] at h; exact h.elim
      | some M3 =>
        rw [eu] at h
        simp only at h
        obtain ⟨A3, m3, hl⟩ := unlock_ok (A1.trans m1 A2) m2 so eu
        refine h (adsN ads2 M3.length D) H' (.ref D) (A3.allocAt hD0) (m3.alloc (by rw [hl]; exact nd) ⟨ws, hDl, by rw [hl]; exact rl⟩) ?_
        simp only [RepD]
        exact ⟨by simp, by rw [adsN_at]⟩
theorem de_lc (S : Sit X L T κ W) (hi : DI X L κ W tg iter gi) (ok : BlkOk X.N X.env.scope scope own) (hix : ∀ i ∈ t.ix, i ∈ own.map (·.2))
    (hg : ∀ (s : Shared) (H : Hp) (C : Addr) (cl : List (Str × Addr)) (fp : List Addr), PG (X.blk s H scope (compEnvC scope cl C X.env) fp) tg (gOf X.K t))
    (ht : ∀ (s : Shared) (H : Hp) (C : Addr) (cl : List (Str × Addr)) (fp : List Addr), PTs (X.blk s H scope (compEnvC scope cl C X.env) fp) ifs (tCond X.K L κ cond))
    (he : ∀ (s : Shared) (H : Hp) (C : Addr) (cl : List (Str × Addr)) (fp : List Addr), PE (X.blk s H scope (compEnvC scope cl C X.env) fp) elt (tD X.K L κ noW ge)) (hs : ∀ x, foldedSetIterable iter X.env x = pure x) :
    DE X L κ W (.ListComp elt [⟨tg, iter, ifs, 0⟩] scope pos) (sComp (own.map (·.2)) t gi cond ge) :=
  (pe_lc S.calm S.nd hi ok hg ht he hs).imp fun σ H Q h => lc_law hix h
end
end PK
end

section
set_option Elab.async false
set_option linter.all false
set_option maxHeartbeats 4000000
set_option maxRecDepth 100000
/-! PKh: statements. -/
namespace PK
open PySem L2 PySem.Spec PyProof.Rows

def OutS (K : PySem.W.Frag) (L : Lk) (W : WX) (ads : Nat → Addr) (M : Mem) (H : Hp) (o : SOut) (Z : Ends) : Prop :=
  match o with
  | .nx ρ' M' => ∀ ads' H' σ', After ads M H ads' M' H' → RepM K L ads' H' M' → RepE K L ads' M'.length H' ρ' σ' → Z.nx σ' H'
  | .rt d M' => ∀ ads' H' v, After ads M H ads' M' H' → RepM K L ads' H' M' → RepD K L ads' M'.length H' d v → Z.rt v H'
  | .bk ρ' M' => ∀ ads' H' σ', After ads M H ads' M' H' → RepM K L ads' H' M' → RepE K L ads' M'.length H' ρ' σ' → Z.bk σ' H'
  | .ct ρ' M' => ∀ ads' H' σ', After ads M H ads' M' H' → RepM K L ads' H' M' → RepE K L ads' M'.length H' ρ' σ' → Z.ct σ' H'
  | .exc x ρ' M' => ∀ ads' H' c dx σ', After ads M H ads' M' H' → RepM K L ads' H' M' → RepE K L ads' M'.length H' ρ' σ' → RepX K L H' x c dx → W c dx σ' H'
  | .bad => False
def tDS (K : PySem.W.Frag) (L : Lk) (κ : Ctx) (W : WX) (g : SS) : TS := fun Z σ H => ∃ ρ ads M, RepE K L ads M.length H ρ σ ∧ RepM K L ads H M ∧ OutS K L W ads M H (g κ ρ M) Z
abbrev DS (X : Cx) (L : Lk) (κ : Ctx) (W : WX) (st : Stmt) (g : SS) : Prop := PS X st (tDS X.K L κ W g)
abbrev DB (X : Cx) (L : Lk) (κ : Ctx) (W : WX) (sts : List Stmt) (g : SS) : Prop := PSs X sts (tDS X.K L κ W g)
section
variable {K : PySem.W.Frag} {L : Lk} {κ : Ctx} {W : WX} {ga : SE} {σ : L2.St} {H H1 : Hp} {ads ads1 : Nat → Addr} {M M1 : Mem} {ρ : Env} {Z : Ends} {o : SOut}
theorem OutS.after (h : OutS K L W ads M H o Z) (A : After ads M H ads1 M1 H1) (m : RepM K L ads1 H1 M1) : OutS K L W ads1 M1 H1 o Z := by
  cases o with
  | nx ρ' M' => exact fun ads' H' σ' B m' r => h ads' H' σ' (A.trans m B) m' r
  | rt d M' => exact fun ads' H' v B m' r => h ads' H' v (A.trans m B) m' r
  | bk ρ' M' => exact fun ads' H' σ' B m' r => h ads' H' σ' (A.trans m B) m' r
  | ct ρ' M' => exact fun ads' H' σ' B m' r => h ads' H' σ' (A.trans m B) m' r
  | exc x ρ' M' => exact fun ads' H' c dx σ' B m' r rx => h ads' H' c dx σ' (A.trans m B) m' r rx
  | bad => exact h
theorem tS.bind {f : D → Mem → SOut} (re : RepE K L ads M.length H ρ σ) (rm : RepM K L ads H M) (h : OutS K L W ads M H (ofOut ρ (ga κ ρ M) f) Z) :
    tD K L κ W ga σ H fun v H1 => ∃ d ads1 M1, After ads M H ads1 M1 H1 ∧ RepM K L ads1 H1 M1 ∧ RepE K L ads1 M1.length H1 ρ σ ∧ RepD K L ads1 M1.length H1 d v ∧ OutS K L W ads M H (f d M1) Z ∧ ga κ ρ M = .ok d M1 := by
  refine ⟨ρ, ads, M, re, rm, ?_⟩
  cases e : ga κ ρ M with
  | ok d M' =>
    rw [e] at h
    exact fun ads' H' v A m r => ⟨d, ads', M', A, m, re.on rm A, r, h, rfl⟩
  | exc x M' =>
    rw [e] at h
    exact fun ads' H' c dx A m rx => h ads' H' c dx σ A m (re.on rm A) rx
  | bad => rw [e] at h; exact h
end
section
variable {X : Cx} {L : Lk} {T : Tb} {κ : Ctx} {W : WX} {ga gb gc go gi : SE} {sa sb : SS} {e a b c o i : Expr} {st : Stmt} {sts body orelse : List Stmt} {pos : Pos}
theorem db_nil : DB X L κ W [] pNil := pss_nil.imp fun Z σ H ⟨ρ, ads, M, re, rm, h⟩ => h ads H σ After.refl rm re
theorem db_cons (h1 : DS X L κ W st sa) (h2 : DB X L κ W sts sb) : DB X L κ W (st :: sts) (pSeq sa sb) := by
  refine (pss_cons h1 h2).imp fun Z σ H ⟨ρ, ads, M, re, rm, h⟩ => ⟨ρ, ads, M, re, rm, ?_⟩
  unfold pSeq at h
  cases e1 : sa κ ρ M with
  | nx ρ' M' =>
    rw [e1] at h
    exact fun ads' H' σ' A m r => ⟨ρ', ads', M', r, m, h.after A m⟩
  | _ => rw [e1] at h; exact h
theorem ds_pass : DS X L κ W (.Pass pos) pNil := ps_pass.imp fun Z σ H ⟨ρ, ads, M, re, rm, h⟩ => h ads H σ After.refl rm re
theorem ds_break : DS X L κ W (.Break pos) pBk := ps_break.imp fun Z σ H ⟨ρ, ads, M, re, rm, h⟩ => h ads H σ After.refl rm re
theorem ds_continue : DS X L κ W (.Continue pos) pCt := ps_continue.imp fun Z σ H ⟨ρ, ads, M, re, rm, h⟩ => h ads H σ After.refl rm re
theorem ds_ret (h : DE X L κ W e ga) : DS X L κ W (.Return (some e) pos) (pRet ga) := by
  refine (ps_ret h).imp fun Z σ H ⟨ρ, ads, M, re, rm, h⟩ => ?_
  exact (tS.bind (ga := ga) re rm h).mono fun v H1 ⟨d, ads1, M1, A1, m1, re1, r1, q, ea⟩ => q ads1 H1 v A1 m1 r1
def pRetN : SS := fun _ _ M => .rt .non M
theorem ds_retN : DS X L κ W (.Return none pos) pRetN := ps_retN.imp fun Z σ H ⟨ρ, ads, M, re, rm, h⟩ => h ads H .non After.refl rm (by simp only [RepD])
theorem ds_expr (h : DE X L κ W e ga) (hs : swapsWith e none pos.line X.env = pure false) : DS X L κ W (.Expr e pos) (pDrop ga) := by
  refine (ps_expr h hs).imp fun Z σ H ⟨ρ, ads, M, re, rm, h⟩ => ?_
  refine (tS.bind (ga := ga) re rm h).mono fun v H1 ⟨d, ads1, M1, A1, m1, re1, r1, q, ea⟩ => ?_
  have hl : (M1.take M.length).length = M.length := by rw [List.length_take]; exact Nat.min_eq_left A1.len
  refine q ads1 H1 σ A1.take (m1.take _) ?_
  rw [hl]
  have := re.on rm A1.take
  rw [hl] at this; exact this
theorem ds_if (hc : DT X L κ W c gc) (ha : DB X L κ W body sa) (hb : DB X L κ W orelse sb) : DS X L κ W (.If c body orelse pos) (pIf gc sa sb) := by
  refine (ps_if hc ha hb).imp fun Z σ H ⟨ρ, ads, M, re, rm, h⟩ => ?_
  refine (tS.bind (ga := gc) re rm h).mono fun v H1 ⟨d, ads1, M1, A1, m1, re1, r1, q, ea⟩ => ?_
  have re2 := re.on rm A1.take
  split at q
  · simp only [RepD] at r1
    exact ⟨true, r1, by (try dsimp only); rw [if_pos rfl]; exact ⟨ρ, ads1, _, re2, m1.take _, q.after A1.take (m1.take _)⟩⟩
  · simp only [RepD] at r1
    exact ⟨false, r1, by (try dsimp only); rw [if_neg Bool.false_ne_true]; exact ⟨ρ, ads1, _, re2, m1.take _, q.after A1.take (m1.take _)⟩⟩
  · exact q.elim
/-- the value stored -/
theorem set_law {Z : Ends} {σ : L2.St} {H : Hp} {j : Nat} (h : tDS X.K L κ W (pSet j ga) Z σ H) : tAsg (tD X.K L κ W ga) (gName j) Z σ H := by
  obtain ⟨ρ, ads, M, re, rm, h⟩ := h
  refine (tS.bind (ga := ga) re rm h).mono fun v H1 ⟨d, ads1, M1, A1, m1, re1, r1, q, ea⟩ => ?_
  obtain ⟨ads2, A2, m2, r2⟩ := gc_ok A1 m1 r1
  exact q ads2 H1 _ A2 m2 ((re.on rm A2).set r2)
theorem ds_set {j : Nat} {x : Str} {pos' : Pos} (hN : X.N.Nodup) (hi : X.N[j]? = some x) (hx : Loc X.env.scope x) (he : DE X L κ W e ga) (hs : swapsWith e (some (.Name x pos')) pos.line X.env = pure false) (hf : X.fn x = true ∨ X.env.scope.names.lookup x = some .local) :
    DS X L κ W (.Assign [.Name x pos'] e pos) (pSet j ga) := (ps_set hN hi hx he hs hf).imp fun Z σ H h => set_law h
theorem ds_asg {t : Tg} {tg : Expr} {is : List Nat} (ht : t = .tup is) (he : DE X L κ W e ga) (hg : PG X tg (gOf X.K t)) (hs : swapsWithSole [tg] e pos.line X.env = pure false) (hw : swappedStores [tg] e X.env = pure none) (h1 : (assignEach [tg] X.env).map (·.2) = [assign tg X.env]) :
    DS X L κ W (.Assign [tg] e pos) (pTup is ga) := by
  subst ht
  refine (ps_asg he hg hs hw h1).imp fun Z σ H ⟨ρ, ads, M, re, rm, h⟩ => ?_
  refine (tS.bind (ga := ga) re rm h).mono fun v H1 ⟨d, ads1, M1, A1, m1, re1, r1, q, ea⟩ => ?_
  obtain ⟨ads2, A2, m2, r2⟩ := gc_ok A1 m1 r1
  split at q
  · rename_i ρ' hset
    exact gOf_run (own := []) (re.on rm A2) r2 hset fun σ' re' _ => q ads2 H1 σ' A2 m2 re'
  · exact q.elim
theorem gcM_tup {k : Nat} {xs : List D} {M : Mem} : (gcM k (.tup xs) M).1 = .tup xs := by
  unfold gcM
  split <;> rfl
theorem par_law {Z : Ends} {σ : L2.St} {H : Hp} {i j : Nat} (h : tDS X.K L κ W (pTup [i, j] (sTup ga)) Z σ H) : tPar i j (tDA X.K L κ W ga) Z σ H := by
  obtain ⟨ρ, ads, M, re, rm, h⟩ := h
  refine ⟨ρ, ads, M, re, rm, ?_⟩
  unfold pTup sTup sRow at h
  cases e : ga κ ρ M with
  | bad => rw [e] at h; exact h
  | exc x M' =>
    rw [e] at h
    exact fun ads' H' c dx A m rx => h ads' H' c dx σ A m (re.on rm A) rx
  | ok d M1 =>
    rw [e] at h
    cases d with
    | tup ds =>
      simp only [Out.bind, rowD] at h
      split at h
      · simp only [ofOut, gcM_tup] at h
        intro ads1 H1 vs A1 m1 r1
        split at h
        · rename_i ρ' hset
          simp only [Tg.set] at hset
          match ds, vs, r1, hset with
          | [d1, d2], vs, r1, hset =>
            simp only [setAll, Option.some.injEq] at hset
            subst hset
            have rt : RepD X.K L ads1 M1.length (upd H1 0 (.lst [])) (.int 0) (.int 0) := by simp only [RepD]
            simp only [RepL] at r1
            obtain ⟨v, r, rfl, rv, w, r', rfl, rw', rfl⟩ := r1
            refine ⟨v, w, rfl, ?_⟩
            -- what is stored stands in the memory that is left
            unfold gcM at h
            split at h
            · rename_i hl
              simp only [D.lt, D.ltL, Bool.and_eq_true] at hl
              have hlen : (M1.take M.length).length = M.length := by rw [List.length_take]; exact Nat.min_eq_left A1.len
              exact h ads1 H1 _ A1.take (m1.take _) (((re.on rm A1.take).set (by rw [hlen]; exact RepD.low _ _ rv hl.1)).set (by rw [hlen]; exact RepD.low _ _ rw' hl.2.1))
            · exact h ads1 H1 _ A1 m1 (((re.on rm A1).set rv).set rw')
          | [], _, _, hset => simp [setAll] at hset
          | [_], _, _, hset => simp [setAll] at hset
          | _ :: _ :: _ :: _, _, _, hset => simp [setAll] at hset
        · exact h.elim
      · exact h.elim
    | _ => exact h.elim
theorem ds_par {i j : Nat} {x y : Str} {px py pt : Pos} {kt k2 pt2} (hc : X.calm = true) (hN : X.N.Nodup) (hi : X.N[i]? = some x) (hj : X.N[j]? = some y) (hij : i ≠ j)
    (hx : X.env.scope.names.lookup x = some .local) (hy : X.env.scope.names.lookup y = some .local) (ha : DA X L κ W [a, b] ga)
    (hw : swappedStores [.Tuple [.Name x px, .Name y py] kt pt] (.Tuple [a, b] k2 pt2) X.env = pure (some [x, y]))
    (hs : swapsWithSole [.Tuple [.Name x px, .Name y py] kt pt] (.Tuple [a, b] k2 pt2) pos.line X.env = pure false) :
    DS X L κ W (.Assign [.Tuple [.Name x px, .Name y py] kt pt] (.Tuple [a, b] k2 pt2) pos) (pTup [i, j] (sTup ga)) :=
  (ps_par hc hN hi hj hij hx hy ha hw hs).imp fun Z σ H h => par_law h
/-- o[i] = e -/
theorem ds_put (S : Sit X L T κ W) {p : Pos} (ho : DE X L κ W o go) (hi : DE X L κ W i gi) (he : DE X L κ W e ga)
    (ha : ∀ v, assign (.Subscript o i p) X.env v = (do
      let ov ← holding [v] (eval o X.env)
      let iv ← holding [v, ov] (eval i X.env)
      standAt p
      holding [v, ov, iv] (setItem ov iv v)
      release [v, ov, iv] [])) (hs : swapsWithSole [.Subscript o i p] e pos.line X.env = pure false) (hw : swappedStores [.Subscript o i p] e X.env = pure none) (h1 : (assignEach [.Subscript o i p] X.env).map (·.2) = [assign (.Subscript o i p) X.env]) :
    DS X L κ W (.Assign [.Subscript o i p] e pos) (pPut go gi ga) := by
  refine (ps_asg he (pg_sub ho hi (set_d (L := L) S.units) ha) hs hw h1).imp fun Z σ H ⟨ρ, ads, M, re, rm, h⟩ => ?_
  refine (tS.bind (ga := ga) re rm h).mono fun v H1 ⟨d, ads1, M1, A1, m1, re1, r1, q, ea⟩ => ?_
  refine (tS.bind (ga := go) re1 m1 (q.after A1 m1)).mono fun x H2 ⟨d2, ads2, M2, A2, m2, re2, r2, q2, eo⟩ => ?_
  refine (tS.bind (ga := gi) re2 m2 (q2.after A2 m2)).mono fun y H3 ⟨d3, ads3, M3, A3, m3, re3, r3, q3, ei⟩ => ?_
  have q3 := q3.after A3 m3
  split at q3
  · rename_i M4 hp
    refine ⟨d2, d3, d, ads3, M3, M4, m3, r2.on m2 A3, r3, (r1.on m1 A2).on m2 A3, hp, fun H4 A4 m4 => ?_⟩
    have A5 : After ads M H ads3 M4 H4 := ((A1.trans m1 A2).trans m2 A3).trans m3 A4
    have A04 : After ads M H ads3 (M4.take M.length) H4 := A5.take
    have hl : (M4.take M.length).length = M.length := by rw [List.length_take]; exact Nat.min_eq_left A5.len
    unfold pPut at h
    rw [ea] at h
    simp only [ofOut] at h
    rw [eo] at h
    simp only at h
    rw [ei] at h
    simp only at h
    rw [hp] at h
    exact h ads3 H4 σ A04 (m4.take _) (by have := re.on rm A04; exact this)
  · exact q3.elim
end
end PK
end

section
set_option Elab.async false
set_option linter.all false
set_option maxHeartbeats 4000000
set_option maxRecDepth 100000
/-! PKi: loops; the store of a comprehension; +=. -/
namespace PK
open PySem L2 PySem.Spec PyProof.Rows
section
variable {X : Cx} {L : Lk} {T : Tb} {κ : Ctx} {W : WX} {ga gb gc go : SE} {gi : SI} {sa sb : SS} {e a b c o i tg iter elt : Expr} {st : Stmt} {sts body orelse : List Stmt} {pos : Pos} {t : Tg}
theorem ds_setLc (S : Sit X L T κ W) {j : Nat} {y : Str} {py pos spos : Pos} {ifs : List Expr} {scope : Scope} {own : List (Str × Nat)} {cond : Option SE} {ge : SE} (hy : X.N[j]? = some y) (hyl : X.env.scope.names.lookup y = some .local)
    (hsw : swapsWith (.ListComp elt [⟨tg, iter, ifs, 0⟩] scope pos) (some (.Name y py)) spos.line X.env = pure true) (hi : DI X L κ W tg iter gi) (ok : BlkOk X.N X.env.scope scope own) (hix : ∀ i ∈ t.ix, i ∈ own.map (·.2))
    (hg : ∀ (s : Shared) (H : Hp) (C : Addr) (cl : List (Str × Addr)) (fp : List Addr), PG (X.blk s H scope (compEnvC scope cl C X.env) fp) tg (gOf X.K t))
    (ht : ∀ (s : Shared) (H : Hp) (C : Addr) (cl : List (Str × Addr)) (fp : List Addr), PTs (X.blk s H scope (compEnvC scope cl C X.env) fp) ifs (tCond X.K L κ cond))
    (he : ∀ (s : Shared) (H : Hp) (C : Addr) (cl : List (Str × Addr)) (fp : List Addr), PE (X.blk s H scope (compEnvC scope cl C X.env) fp) elt (tD X.K L κ noW ge)) (hs : ∀ x, foldedSetIterable iter X.env x = pure x) :
    DS X L κ W (.Assign [.Name y py] (.ListComp elt [⟨tg, iter, ifs, 0⟩] scope pos) spos) (pSet j (sComp (own.map (·.2)) t gi cond ge)) := by
  refine (ps_setLc S.calm S.nd hy hyl hsw hi ok hg ht he hs).imp fun Z σ H ⟨ρ, ads, M, re, rm, h⟩ => ?_
  refine lc_law hix ?_
  refine (tS.bind (ga := sComp (own.map (·.2)) t gi cond ge) re rm h).mono fun v H1 ⟨d, ads1, M1, A1, m1, re1, r1, q, _⟩ => ?_
  obtain ⟨ads2, A2, m2, r2⟩ := gc_ok A1 m1 r1
  exact q ads2 H1 _ A2 m2 ((re.on rm A2).set r2)
theorem ds_for (S : Sit X L T κ W) (hp : PassesOwn (model X.prog X.w) X.A X.env X.xe) (hi : DI X L κ W tg iter gi) (hg : PG X tg (gOf X.K t)) (hb : DB X L κ W body sb) (hs : ∀ x, foldedSetIterable iter X.env x = pure x) :
    DS X L κ W (.For tg iter body [] pos) (pFor t gi sb) := by
  refine (ps_for hp S.calm hi hg hb hs).imp fun Z σ H ⟨ρ, ads, M, re, rm, h⟩ => ?_
  unfold pFor at h
  refine ⟨ρ, ads, M, re, rm, ?_⟩
  cases e : gi κ ρ M with
  | bad => rw [e] at h; exact h
  | exc x M' =>
    rw [e] at h
    exact fun ads' H' c dx A m rx => h ads' H' c dx σ A m (re.on rm A) rx
  | ok xs src M1 =>
    rw [e] at h
    simp only at h
    intro J ads1 H1 A1 m1 so ⟨G, hG, wk⟩
    refine for_it wk (fun i σ' H' => ∃ ρ' ads2 M2, After ads1 M1 H1 ads2 M2 H' ∧ RepM X.K L ads2 H' M2 ∧ RepE X.K L ads2 M2.length H' ρ' σ' ∧ forGo κ t sb xs ρ M1 = forGo κ t sb (xs.drop i) ρ' M2) ?_ ?_ ?_ ?_
    · exact ⟨ρ, ads1, M1, After.refl, m1, re.on rm A1, by rw [List.drop_zero]⟩
    · exact fun i σ' H' _ ⟨ρ', ads2, M2, A2, m2, _⟩ => hG _ _ _ A2 m2
    · intro i x σ2 H2 H2' hi ⟨ρ', ads2, M2, A2, m2, re2, eq⟩ y
      obtain ⟨Ay, my, d, hd, rd⟩ := y ads2 M2 A2 m2
      have hdr : xs.drop i = d :: xs.drop (i + 1) := by
        obtain ⟨hl, he⟩ := List.getElem?_eq_some_iff.mp hd
        rw [List.drop_eq_getElem_cons hl, he]
      rw [eq, hdr] at h
      rw [hdr] at eq
      rw [forGo] at h eq
      have A3 := A2.trans m2 Ay
      cases hset : t.set d ρ' with
      | none => rw [hset] at h; exact h.elim
      | some ρ1 =>
        rw [hset] at h eq
        simp only at h eq
        refine gOf_run (own := []) (re2.on m2 Ay) rd hset fun σ3 re3 _ => ⟨ρ1, ads2, M2, re3, my, ?_⟩
        cases eb : sb κ ρ1 M2 with
        | bad => rw [eb] at h; exact h
        | nx ρ2 M3 =>
          rw [eb] at eq
          exact fun ads3 H3 σ4 A4 m4 re4 => ⟨ρ2, ads3, M3, A3.trans my A4, m4, re4, eq⟩
        | ct ρ2 M3 =>
          rw [eb] at eq
          exact fun ads3 H3 σ4 A4 m4 re4 => ⟨ρ2, ads3, M3, A3.trans my A4, m4, re4, eq⟩
        | bk ρ2 M3 =>
          rw [eb] at h
          simp only [unlockS] at h
          intro ads3 H3 σ4 A4 m4 re4
          cases eu : unlock src M3 with
          | none => rw [eu] at h; exact h.elim
          | some M4 =>
            rw [eu] at h
            obtain ⟨A5, m5, hl⟩ := unlock_ok (A1.trans m1 (A3.trans my A4)) m4 so eu
            exact h ads3 H3 σ4 A5 m5 (by rw [hl]; exact re4)
        | rt d2 M3 =>
          rw [eb] at h
          simp only [unlockS] at h
          intro ads3 H3 v A4 m4 r4
          cases eu : unlock src M3 with
          | none => rw [eu] at h; exact h.elim
          | some M4 =>
            rw [eu] at h
            obtain ⟨A5, m5, hl⟩ := unlock_ok (A1.trans m1 (A3.trans my A4)) m4 so eu
            exact h ads3 H3 v A5 m5 (by rw [hl]; exact r4)
        | exc x ρ2 M3 =>
          rw [eb] at h
          simp only [unlockS] at h
          intro ads3 H3 c dx σ4 A4 m4 re4 rx
          cases eu : unlock src M3 with
          | none => rw [eu] at h; exact h.elim
          | some M4 =>
            rw [eu] at h
            obtain ⟨A5, m5, hl⟩ := unlock_ok (A1.trans m1 (A3.trans my A4)) m4 so eu
            exact h ads3 H3 c dx σ4 A5 m5 (by rw [hl]; exact re4) rx
    · intro σ2 H2 ⟨ρ', ads2, M2, A2, m2, re2, eq⟩
      rw [List.drop_length] at eq
      rw [eq, forGo] at h
      simp only [unlockS] at h
      cases eu : unlock src M2 with
      | none => rw [eu] at h; exact h.elim
      | some M4 =>
        rw [eu] at h
        obtain ⟨A5, m5, hl⟩ := unlock_ok (A1.trans m1 A2) m2 so eu
        exact h ads2 H2 σ2 A5 m5 (by rw [hl]; exact re2)
theorem ds_while (hp : PassesOwn (model X.prog X.w) X.A X.env X.xe) (hc : DT X L κ W c gc) (hb : DB X L κ W body sb) : DS X L κ W (.While c body [] pos) (pWhile gc sb) := by
  refine (ps_while hp hc hb).imp fun Z σ H ⟨ρ, ads, M, re, rm, h⟩ => ?_
  unfold pWhile at h
  refine ⟨fun m σ' H' => ∃ ρ' ads2 M2, After ads M H ads2 M2 H' ∧ RepM X.K L ads2 H' M2 ∧ RepE X.K L ads2 M2.length H' ρ' σ' ∧ whileGo κ gc sb κ.wf ρ M = whileGo κ gc sb m ρ' M2, ⟨κ.wf, ρ, ads, M, After.refl, rm, re, rfl⟩, ?_⟩
  intro m σ2 H2 ⟨ρ', ads2, M2, A2, m2, re2, eq⟩
  rw [eq] at h
  have h := h.after A2 m2
  cases m with
  | zero => exact h.elim
  | succ m =>
    rw [whileGo] at h eq
    refine (tS.bind (ga := gc) re2 m2 h).mono fun v H3 ⟨d, ads3, M3, A3, m3, re3, r3, q, ec⟩ => ?_
    rw [ec] at eq
    simp only [ofOut] at eq
    have hl : (M3.take M2.length).length = M2.length := by rw [List.length_take]; exact Nat.min_eq_left A3.len
    have re4 := re2.on m2 A3.take
    split at q
    · simp only [RepD] at r3
      simp only at eq
      refine ⟨true, r3, ?_⟩
      (try dsimp only)
      rw [if_pos rfl]
      refine ⟨fun σ' H' => ∃ ρ' ads2 M2, After ads M H ads2 M2 H' ∧ RepM X.K L ads2 H' M2 ∧ RepE X.K L ads2 M2.length H' ρ' σ' ∧ whileGo κ gc sb κ.wf ρ M = whileGo κ gc sb m ρ' M2, fun σ' H' hw => ⟨m, Nat.lt_succ_self m, hw⟩, ρ', ads3, _, re4, m3.take _, ?_⟩
      have q := q.after A3.take (m3.take _)
      cases eb : sb κ ρ' (M3.take M2.length) with
      | bad => rw [eb] at q; exact q
      | nx ρ2 M5 =>
        rw [eb] at eq
        exact fun ads5 H5 σ5 A5 m5 re5 => ⟨ρ2, ads5, M5, (A2.trans m2 A3.take).trans (m3.take _) A5, m5, re5, eq⟩
      | ct ρ2 M5 =>
        rw [eb] at eq
        exact fun ads5 H5 σ5 A5 m5 re5 => ⟨ρ2, ads5, M5, (A2.trans m2 A3.take).trans (m3.take _) A5, m5, re5, eq⟩
      | bk ρ2 M5 => rw [eb] at q; exact q
      | rt d2 M5 => rw [eb] at q; exact q
      | exc x ρ2 M5 => rw [eb] at q; exact q
    · simp only [RepD] at r3
      refine ⟨false, r3, ?_⟩
      (try dsimp only)
      rw [if_neg Bool.false_ne_true]
      exact q ads3 H3 σ2 A3.take (m3.take _) re4
    · exact q.elim
/-- name += e: numbers, texts, tuples -/
def dAug : D → D → Mem → Out
  | .int i, .int j, M => .ok (.int (i + j)) M
  | _, _, _ => .bad
def dAugS : D → D → Mem → Out
  | .int i, .int j, M => .ok (.int (i - j)) M
  | _, _, _ => .bad
theorem aug_add {E : XK} : PIp X .Add (r2 X.K L E dAug) := by
  intro pins s σ H x y v u Q I rx ry ⟨d1, d2, ads, M, m, q1, q2, h⟩
  unfold dAug at h
  split at h
  · simp only [RepD] at q1 q2
    subst q1 q2
    exact ip_add pins s σ H _ _ v u Q I rx ry ⟨_, _, rfl, rfl, h.now m (by simp only [RepD])⟩
  · exact h.elim
theorem aug_sub {E : XK} : PIp X .Sub (r2 X.K L E dAugS) := by
  intro pins s σ H x y v u Q I rx ry ⟨d1, d2, ads, M, m, q1, q2, h⟩
  unfold dAugS at h
  split at h
  · simp only [RepD] at q1 q2
    subst q1 q2
    exact ip_sub pins s σ H _ _ v u Q I rx ry ⟨_, _, rfl, rfl, h.now m (by simp only [RepD])⟩
  · exact h.elim
theorem ds_aug {j : Nat} {x : Str} {op : Operator} {f : D → D → Mem → Out} {pos' : Pos} (hN : X.N.Nodup) (hi : X.N[j]? = some x) (hx : Loc X.env.scope x) (he : DE X L κ W e ga) (ho : ∀ E, PIp X op (r2 X.K L E f)) (hf : X.fn x = true ∨ X.env.scope.names.lookup x = some .local) :
    DS X L κ W (.AugAssign (.Name x pos') op e pos) (pAug f j ga) := by
  refine ⟨fun pins s σ H Z I ⟨ρ, ads, M, re, rm, h⟩ => ?_⟩
  refine (ps_aug hN hi hx he (ho (fun c d H' => W c d σ H')) hf).run pins s σ H Z I ?_
  unfold pAug at h
  split at h
  · rename_i x0 e0
    obtain ⟨v0, hv0, rv0⟩ := re.2 j x0 e0
    refine ⟨v0, hv0, ?_⟩
    refine (tS.bind (ga := ga) re rm h).mono fun v H1 ⟨d, ads1, M1, A1, m1, re1, r1, q, _⟩ => ?_
    refine ⟨x0, d, ads1, M1, m1, rv0.on rm A1, r1, ?_⟩
    cases ef : f x0 d M1 with
    | bad => rw [ef] at q; exact q
    | exc x M' =>
      rw [ef] at q
      exact fun ads' H' c dx A m rx => q ads' H' c dx σ (A1.trans m1 A) m (re1.on m1 A) rx
    | ok d2 M2 =>
      rw [ef] at q
      simp only [ofOut] at q
      intro ads2 H2 v2 A2 m2 r2
      obtain ⟨ads3, A3, m3, r3⟩ := gc_ok (A1.trans m1 A2) m2 r2
      exact q ads3 H2 _ A3 m3 ((re.on rm A3).set r3)
  · exact h.elim
end
end PK
end

section
set_option Elab.async false
set_option linter.all false
set_option maxHeartbeats 4000000
set_option maxRecDepth 100000
/-! PKj: own exceptions: the classes' own __init__, raise. -/
namespace PK
open PySem L2 PySem.Spec PyProof.Rows

/-- attributes of the own class B are read as usual, its __init__ is the built-in's -/
structure InB (K : PySem.W.Frag) (B : Addr) : Prop where
  hg : PySem.W.specialIn K (.ref B) "__getattribute__" = some (some (.builtin "type.__getattribute__"))
  ty : PySem.W.typeIn K (.ref B) = some (.type "type")
  rd : PySem.W.readsIn K B (.type "type") = true
  at_ : PySem.W.findCls K (.ref B) (.type "type") "__init__" = some (.val (.builtin "ValueError.__init__"))
section
variable {X : Cx} {e : Expr} {es : List Expr} {ta : TA} {p1 p2 pos : Pos} {x : Str} {B : Addr}
/-- B.__init__(self, ..), B an own class without __init__ over ValueError -/
theorem pe_binit {pl : Sem Bool} (I0 : InB X.K B) (hg : Gl X x) (hm : X.mg x = some (.ref B)) (ha : PA X (e :: es) ta) (hdb : (x == ("__debug__" : Str)) = false)
    (hc : eval (.Call (.Attribute (.Name x p1) "__init__" p2) (e :: es) [] pos) X.env = (do
      let ov ← eval (.Name x p1) X.env
      standAt p2.atName
      let (f, first) ← holding [ov] (getMethod ov "__init__" pl)
      callWith pos f first (backTo pos (starEach (e :: es) X.env)) (backToKw pos (keywordEach [] X.env))))
    (he : starEach (e :: es) X.env = (false, eval e X.env) :: starEach es X.env) (hpl : (backTo pos (starEach es X.env)).any (·.1) = false) :
    PE X (.Call (.Attribute (.Name x p1) "__init__" p2) (e :: es) [] pos) (tVeI X.K ta) := by
  refine ⟨fun pins s σ H Q I h => ?_⟩
  refine PySem.W.methodCall_KW (ld_glob I hg hm ?_ hdb) hc
  obtain ⟨m, fr⟩ := I.fr
  refine PySem.W.method_of_cls fr I.ok.mod.kin I0.hg (PySem.W.cls_val fr I.ok.mod.kin I0.ty I0.rd I0.at_ (by rfl) ?_)
  show wpAny _ _ (callWith pos (Value.builtin "ValueError.__init__") [] (backTo pos (starEach (e :: es) X.env)) []) _ _ _
  refine PyProof.Rows.callWith_method1 (thn (ha.run pos pins _ σ H _ (I.tok _) h) fun us s1 ⟨vs, H1, I1, r1, a, C, ws, ev, hl, T, ea, q⟩ => ?_) he hpl
  subst ev
  cases r1 with
  | @cons _ u0 _ ur ra rw' =>
    obtain rfl : u0 = Value.ref a := ra
    have hlen : ur.length ≤ sizeLine := by
      rw [← Paired.length rw', sizeLine_eq]
      omega
    exact oinit_ok T I1 ea hlen fun s' J => ⟨.non, H1, J, rfl, q⟩
end
/-- what an own __init__ leaves behind -/
def spI (C : Addr) (fs : List Str) : Sp := fun vs H Q _ => ∃ (a : Addr) (ws : List V), vs = .ref a :: ws ∧ ws.length = fs.length ∧ H a = some (exo a C none) ∧
  ∀ (d : Addr) (l : List (Str × V)) (H' : Hp), H d = none → d ≠ a → (∀ b, b ≠ a → b ≠ d → H' b = H b) → H' a = some (exo a C (some d)) → H' d = some (exd d l) → (∀ f v, (f, v) ∈ fs.zip ws → l.lookup f = some v) → Q .non H'
section
variable {P : Program} {w : World} {K : PySem.W.Frag} {mg : Str → Option Value} {base : Heap} {CX : CXT} {qual n1 n2 B : Str} {params : Arguments} {scope : Scope} {dvs : List V} {kws : List (Str × V)} {f C FB : Addr} {fd : FuncData}
  {p1 p2 p3 p4 p5 p6 a1 a2 a3 a4 b1 b2 b3 b4 : Pos} {m : Str} {j : Nat}
theorem ok_init2 (F : FunD K "__init__" qual params [.Expr (.Call (.Attribute (.Name B p1) "__init__" p2) [.Name "self" p3, .Name n1 p4] [] p5) p6, .Assign [.Attribute (.Name "self" a1) n1 a2] (.Name n1 a3) a4, .Assign [.Attribute (.Name "self" b1) n2 b2] (.Name n2 b3) b4] scope dvs kws f fd)
    (S : FnScope ["self", n1, n2] ["self", n1, n2] scope) (l0 : scope.names.lookup ("self" : Str) = some .local) (l1 : scope.names.lookup n1 = some .local) (l2 : scope.names.lookup n2 = some .local)
    (hgB : scope.names.lookup B = some .globalImplicit) (T : OexC K C) (f1 : PySem.W.findIn K (.ref C) n1 = some none) (f2 : PySem.W.findIn K (.ref C) n2 = some none) (I0 : InB K FB) (hm : mg B = some (.ref FB))
    (d0 : (B == ("__debug__" : Str)) = false) (d1 : (n1 == ("__debug__" : Str)) = false) (c1 : (n1 == ("__classdict__" : Str)) = false) (d2 : (n2 == ("__debug__" : Str)) = false) (c2 : (n2 == ("__classdict__" : Str)) = false) (n12 : n2 ≠ n1)
    (hc : ∀ env : PySem.Env, eval (.Call (.Attribute (.Name B p1) "__init__" p2) [.Name "self" p3, .Name n1 p4] [] p5) env = (do
      let ov ← eval (.Name B p1) env
      standAt p2.atName
      let (f, first) ← holding [ov] (getMethod ov "__init__" (do return (← importBound (.Name B p1) env).getD true))
      callWith p5 f first (backTo p5 (starEach [.Name "self" p3, .Name n1 p4] env)) (backToKw p5 (keywordEach [] env)))) :
    FnOk P w K mg base CX 1 f fd ["self", n1, n2] (spI C [n1, n2]) := by
  refine F.ok S (fun vs H Q E h => ?_) (fun cdv A outer s H vs Q E hr h => ?_)
  · obtain ⟨a, ws, rfl, hl, _⟩ := h
    simp at hl ⊢; omega
  obtain ⟨a, ws, rfl, hl, ha, q⟩ := h
  match ws, hl with
  | [r, p], _ =>
    generalize hX : cxOf CX P w K mg base [("self" : Str), n1, n2] qual scope f cdv A outer s H E = X
    have eK : X.K = K := by rw [← hX]; rfl
    have eN : X.N = [("self" : Str), n1, n2] := by rw [← hX]; rfl
    have eM : X.mg = mg := by rw [← hX]; rfl
    have eS : X.env.scope = scope := by rw [← hX]; rfl
    subst eK
    subst eM
    subst eS
    have s0 : ∀ {p : Pos}, PE X (.Name "self" p) (tVar 0) := fun {p} => pe_var (by rw [eN]; rfl) (.inl l0) (by decide) (by decide)
    have s1 : ∀ {p : Pos}, PE X (.Name n1 p) (tVar 1) := fun {p} => pe_var (by rw [eN]; rfl) (.inl l1) d1 c1
    have s2 : ∀ {p : Pos}, PE X (.Name n2 p) (tVar 2) := fun {p} => pe_var (by rw [eN]; rfl) (.inl l2) d2 c2
    refine ⟨_, pss_cons (ps_expr (pe_binit I0 hgB hm (pa_cons s0 (pa_cons s1 pa_nil)) d0 (hc _) (by rfl) (by rfl))) (pss_cons (ps_ost s0 s1) (pss_one (ps_ost s0 s2))), ?_⟩
    refine ⟨_, rfl, _, rfl, a, C, [r], rfl, by simp, T, ha, ?_⟩
    refine ⟨_, rfl, _, rfl, a, C, rfl, T, f1, .inl ⟨ha, fun dx hd hda => ?_⟩⟩
    refine ⟨_, rfl, _, rfl, a, C, rfl, T, f2, .inr ⟨dx, _, upd_same, by rw [upd_ne hda]; exact upd_same, by simp, ?_⟩⟩
    refine q dx [(n2, p), (n1, r)] _ hd hda (fun b hb1 hb2 => by rw [upd_ne hb2, upd_ne hb1, upd_ne hb2]) (by rw [upd_ne (Ne.symm hda)]; exact upd_same) upd_same fun g v hgv => ?_
    simp only [List.zip_cons_cons, List.zip_nil_right, List.mem_cons, List.not_mem_nil, or_false, Prod.mk.injEq] at hgv
    rcases hgv with ⟨rfl, rfl⟩ | ⟨rfl, rfl⟩
    · rw [lookup_put, if_neg (Ne.symm n12), lookup_put, if_pos rfl]
    · rw [lookup_put, if_pos rfl]
theorem ok_init1 (F : FunD K "__init__" qual params [.Expr (.Call (.Attribute (.Name B p1) "__init__" p2) [.Name "self" p3, .Constant (.str m) j p4] [] p5) p6, .Assign [.Attribute (.Name "self" a1) n1 a2] (.Name n1 a3) a4] scope dvs kws f fd)
    (S : FnScope ["self", n1] ["self", n1] scope) (l0 : scope.names.lookup ("self" : Str) = some .local) (l1 : scope.names.lookup n1 = some .local)
    (hgB : scope.names.lookup B = some .globalImplicit) (T : OexC K C) (f1 : PySem.W.findIn K (.ref C) n1 = some none) (I0 : InB K FB) (hm : mg B = some (.ref FB))
    (d0 : (B == ("__debug__" : Str)) = false) (d1 : (n1 == ("__debug__" : Str)) = false) (c1 : (n1 == ("__classdict__" : Str)) = false)
    (hc : ∀ env : PySem.Env, eval (.Call (.Attribute (.Name B p1) "__init__" p2) [.Name "self" p3, .Constant (.str m) j p4] [] p5) env = (do
      let ov ← eval (.Name B p1) env
      standAt p2.atName
      let (f, first) ← holding [ov] (getMethod ov "__init__" (do return (← importBound (.Name B p1) env).getD true))
      callWith p5 f first (backTo p5 (starEach [.Name "self" p3, .Constant (.str m) j p4] env)) (backToKw p5 (keywordEach [] env)))) :
    FnOk P w K mg base CX 1 f fd ["self", n1] (spI C [n1]) := by
  refine F.ok S (fun vs H Q E h => ?_) (fun cdv A outer s H vs Q E hr h => ?_)
  · obtain ⟨a, ws, rfl, hl, _⟩ := h
    simp at hl ⊢; omega
  obtain ⟨a, ws, rfl, hl, ha, q⟩ := h
  match ws, hl with
  | [r], _ =>
    generalize hX : cxOf CX P w K mg base [("self" : Str), n1] qual scope f cdv A outer s H E = X
    have eK : X.K = K := by rw [← hX]; rfl
    have eN : X.N = [("self" : Str), n1] := by rw [← hX]; rfl
    have eM : X.mg = mg := by rw [← hX]; rfl
    have eS : X.env.scope = scope := by rw [← hX]; rfl
    subst eK
    subst eM
    subst eS
    have s0 : ∀ {p : Pos}, PE X (.Name "self" p) (tVar 0) := fun {p} => pe_var (by rw [eN]; rfl) (.inl l0) (by decide) (by decide)
    have s1 : ∀ {p : Pos}, PE X (.Name n1 p) (tVar 1) := fun {p} => pe_var (by rw [eN]; rfl) (.inl l1) d1 c1
    refine ⟨_, pss_cons (ps_expr (pe_binit I0 hgB hm (pa_cons s0 (pa_cons pe_str pa_nil)) d0 (hc _) (by rfl) (by rfl))) (pss_one (ps_ost s0 s1)), ?_⟩
    refine ⟨_, rfl, a, C, [.str m], rfl, by simp, T, ha, ?_⟩
    refine ⟨_, rfl, _, rfl, a, C, rfl, T, f1, .inl ⟨ha, fun dx hd hda => ?_⟩⟩
    refine q dx [(n1, r)] _ hd hda (fun b hb1 hb2 => by rw [upd_ne hb1, upd_ne hb2]) upd_same (by rw [upd_ne hda]; exact upd_same) fun g v hgv => ?_
    simp only [List.zip_cons_cons, List.zip_nil_right, List.mem_cons, List.not_mem_nil, or_false, Prod.mk.injEq] at hgv
    obtain ⟨rfl, rfl⟩ := hgv
    rw [lookup_put, if_pos rfl]
end
end PK
end

section
set_option Elab.async false
set_option linter.all false
set_option maxHeartbeats 4000000
set_option maxRecDepth 100000
/-! PKk: raise; try with several clauses. -/
namespace PK
open PySem L2 PySem.Spec PyProof.Rows

section
variable {K : PySem.W.Frag} {L : Lk} {ads : Nat → Addr} {H H' : Hp} {M : Mem}
theorem tups_keep (k : ∀ b o, H b = some o → H' b = some o) : TupsIn H H' := fun a u _ h => k a u h
theorem After.keep (m : RepM K L ads H M) (k : ∀ b o, H b = some o → H' b = some o) : After ads M H ads M H' :=
  ⟨fun a o h _ => k a o h, fun _ _ => rfl, Nat.le_refl _, fun n h1 h2 => absurd h2 (by omega), fun n o h _ => ⟨h, by
    obtain ⟨w, hw, _⟩ := m.there (List.getElem?_eq_some_iff.mp h).1
    rw [hw]; exact k _ _ hw⟩⟩
theorem RepM.keep (m : RepM K L ads H M) (k : ∀ b o, H b = some o → H' b = some o) : RepM K L ads H' M :=
  ⟨fun n o e => (m.at_ n o e).tin (tups_keep k) (fun w hw => k _ _ hw) fun _ _ => rfl, m.inj⟩
theorem RepE.keep {ρ : Env} {σ : L2.St} {k : Nat} (h : RepE K L ads k H ρ σ) (kp : ∀ b o, H b = some o → H' b = some o) : RepE K L ads k H' ρ σ :=
  ⟨h.1, fun i d e => let ⟨v, e1, r⟩ := h.2 i d e; ⟨v, e1, RepD.tin (tups_keep kp) (fun _ _ => rfl) _ _ r⟩⟩
end
/-- an own exception class with its own __init__: fs the fields in the parameters' order, d0 the defaults that fill up -/
structure RaiI (P : Program) (w : World) (K : PySem.W.Frag) (mg : Str → Option Value) (base : Heap) (L : Lk) (C : Addr) (fs : List Str) (d0 : List D) : Prop where
  ok : OexC K C
  ex : ∃ (fI : Addr) (fd : FuncData) (ps : List Str) (ds : List Value) (dvs : List V), PySem.W.findIn K (.ref C) "__init__" = some (some (.ref fI)) ∧ PySem.W.typeIn K (.ref fI) = some (.type "function") ∧
    FnOk P w K mg base (L2.CX P w) 1 fI fd ps (spI C fs) ∧ Binds K fd ps ds ∧ Vals dvs ds ∧ ∀ ads k H, RepL K L ads k H d0 dvs
section
variable {X : Cx} {L : Lk} {T : Tb} {κ : Ctx} {W : WX} {ga : SE} {e : Expr} {es : List Expr} {p pos pos' : Pos} {x : Str} {c : Nat}
theorem ds_raise0 {m : Str} {j : Nat} {p2 : Pos} (S : Sit X L T κ W) (R : RaiO X.K X.mg (L.ca c)) (hg : Gl X x) (hm : X.mg x = some (.ref (L.ca c))) (hdb : (x == ("__debug__" : Str)) = false) :
    DS X L κ W (.Raise (some (.Call (.Name x p) [.Constant (.str m) j p2] [] pos)) none pos') (pRaise0 c) :=
  (ps_raise S.calm S.tk (pmk_own PySem.F.excBase_ValueError R.ex hm R.kp (raises_own R.sub R.ty) hg hdb)).imp fun Z σ H ⟨ρ, ads, M, re, rm, h⟩ => h ads H _ _ σ After.refl rm re ⟨rfl, .inl ⟨rfl, rfl⟩⟩
theorem zip_mem {α β γ : Type} {f : α → γ} {F : β → V → Prop} : ∀ {as : List α} {bs : List β} {vs : List V} {q : α × β}, bs.length = vs.length → (∀ (i : Nat) (b : β), bs[i]? = some b → ∃ v, vs[i]? = some v ∧ F b v) → q ∈ as.zip bs → ∃ v, (f q.1, v) ∈ (as.map f).zip vs ∧ F q.2 v
  | [], _, _, _, _, _, h => by simp at h
  | a :: as, [], _, _, _, _, h => by simp at h
  | a :: as, b :: bs, [], _, hl, _, _ => by simp at hl
  | a :: as, b :: bs, v :: vs, q, hl, hF, h => by
    rcases List.mem_cons.mp h with rfl | h
    · obtain ⟨w, hw, r⟩ := hF 0 b rfl
      simp at hw; subst hw
      exact ⟨v, by simp, r⟩
    · obtain ⟨w, hw, r⟩ := zip_mem (f := f) (F := F) (by simpa using hl) (fun i b hb => by simpa using hF (i + 1) b (by simpa using hb)) h
      exact ⟨w, List.mem_cons_of_mem _ hw, r⟩
theorem ds_raise {fs : List Nat} {d0 : List D} (S : Sit X L T κ W) (R : RaiI X.prog X.w X.K X.mg X.base L (L.ca c) (fs.map L.fn) d0) (hg : Gl X x) (hm : X.mg x = some (.ref (L.ca c))) (hdb : (x == ("__debug__" : Str)) = false)
    (ha : DA X L κ W (e :: es) ga) (he : starEach (e :: es) X.env = (false, eval e X.env) :: starEach es X.env) (hpl : (backTo pos (starEach es X.env)).any (·.1) = false) :
    DS X L κ W (.Raise (some (.Call (.Name x p) (e :: es) [] pos)) none pos') (pRaise c fs d0 ga) := by
  refine ⟨fun pins s σ H Z I ⟨ρ, ads, M, re, rm, h⟩ => ?_⟩
  obtain ⟨fI, fd, ps, ds, dvs, iC, tI, F1, hb, hd, rd⟩ := R.ex
  unfold pRaise at h
  by_cases hlev : 2 ≤ κ.lev
  · rw [if_pos hlev] at h
    refine (ps_raise (pos := pos') S.calm S.tk (pmk_oex (p := p) (pos := pos) R.ok iC tI F1 (S.room.mono hlev) hb hd (passes_call S.tk fun _ _ _ _ z => z.elim) hg hm ha hdb he hpl)).run pins s σ H Z I ?_
    refine ⟨ρ, ads, M, re, rm, ?_⟩
    cases ea : ga κ ρ M with
    | bad => rw [ea] at h; exact h
    | exc y M' =>
      rw [ea] at h
      exact fun ads' H' c dx A m rx => h ads' H' c dx σ A m (re.on rm A) rx
    | ok d M1 =>
      rw [ea] at h
      cases d with
      | tup l =>
        simp only [ofOut] at h
        split at h
        · rename_i hc
          obtain ⟨h1, h9, h0⟩ := hc
          intro ads1 H1 vs A1 m1 rl
          have hll := rl.length
          have rl2 : RepL X.K L ads1 M1.length H1 (l ++ d0) (vs ++ dvs) := RepL.append rl (rd _ _ _)
          refine ⟨?_, fun a ha0 => ⟨a, vs ++ dvs, rfl, by rw [List.length_map, ← h1, rl2.length], upd_same, fun dd l' H' hdd hda same hat hdt hlk => ⟨rfl, dd, l', hat, hdt, by rw [upd_ne hda] at hdd; exact hdd, ?_⟩⟩⟩
          · have : l.length + d0.length = fs.length := by rw [← h1, List.length_append]
            omega
          rw [upd_ne hda] at hdd
          have kp : ∀ b o, H1 b = some o → (upd (del H' a) dd (.xd l')) b = some o := fun b o hbo => by
            have nb1 : b ≠ a := ne_of_none hbo ha0
            have nb2 : b ≠ dd := ne_of_none hbo hdd
            rw [upd_ne nb2, del_ne nb1, same b nb1 nb2, upd_ne nb1]; exact hbo
          refine h ads1 _ _ _ σ (A1.trans m1 (After.keep m1 kp)) (m1.keep kp) ((re.on rm A1).keep kp) ⟨rfl, .inr ⟨dd, l', rfl, upd_same, fun q hq => ?_⟩⟩
          have rl3 : RepL X.K L (fun _ => 0) 0 (upd (del H' a) dd (.xd l')) (l ++ d0) (vs ++ dvs) := RepL.tin (tups_keep kp) (fun n hn => absurd hn (Nat.not_lt_zero n)) _ _ (RepL.low _ _ rl2 h0)
          obtain ⟨v, hv, r⟩ := zip_mem (f := L.fn) (F := fun b v => RepD X.K L (fun _ => 0) 0 (upd (del H' a) dd (.xd l')) b v) rl2.length (fun i b hb' => rl3.get hb') hq
          exact ⟨v, hlk _ _ hv, r⟩
        · exact h.elim
      | _ => exact h.elim
  · rw [if_neg hlev] at h
    exact h.elim
end
end PK
end

section
set_option Elab.async false
set_option linter.all false
set_option maxHeartbeats 4000000
set_option maxRecDepth 100000
/-! PKl: try with several clauses, some of them with a name. -/
namespace PK
open PySem L2 PySem.Spec PyProof.Rows

/-- an exception that has been caught and lies before the clauses -/
structure Caught (X : Cx) (pins : List (Addr × Obj)) (a : Addr) (B : Heap) (cl : Value) (d : Option Addr) (σ : L2.St) (H : Hp) (s0 s : Shared) : Prop where
  inv : L2.Inv X pins σ H s0
  gnd : ∀ b o, s0.heap.get? b = some o → b ∉ frs X.stack → B.get? b = some o
  grow : s0.heap.UpToSlots s.heap
  fly : PySem.HandSPX.FlyingZ B (X.env :: X.outer) a (Zc cl d) s.heap
  no : H a = none
  os : s.os = s0.os
  bare : AllBare s.gens
/-- clauses: what they wish -/
def PCl (X : Cx) (hds : List ExceptHandler) (w : Ends → WX) : Prop := ∀ (pins : List (Addr × Obj)) (a : Addr) (B : Heap) (cl : Value) (d : Option Addr) (σ : L2.St) (H : Hp) (s0 s : Shared) (Z : Ends),
  Caught X pins a B cl d σ H s0 s → w Z cl d σ H → wpAny (model X.prog X.w) X.A (handleBy (.ref a) X.env hds) (SP X pins Z) X.xe s
section
variable {X : Cx} {pins : List (Addr × Obj)} {a : Addr} {B : Heap} {cl : Value} {d : Option Addr} {σ : L2.St} {H : Hp} {s0 s : Shared}
theorem Caught.at_ (C : Caught X pins a B cl d σ H s0 s) (hf : X.env.frame = some X.env.locals) : ∃ oe vs, s.heap.get? a = some oe ∧ Zc cl d oe ∧ oe.data = .fields vs ∧ a ≠ X.env.locals ∧ a ∉ X.fs := by
  obtain ⟨oe, vs, h1, h2, h3⟩ := C.fly.there
  have out : a ∉ frs (X.env :: X.outer) := fun hm => by
    obtain ⟨_, o, e, nf⟩ := C.fly.2.2.1.mem hm
    rw [h1] at e
    cases e
    exact nf _ h3
  refine ⟨oe, vs, h1, h2, h3, fun z => out ?_, fun hm => out ?_⟩
  · exact List.mem_filterMap.mpr ⟨X.env, List.mem_cons_self, by rw [hf, z]⟩
  · obtain ⟨en, he, q⟩ := List.mem_filterMap.mp hm
    exact List.mem_filterMap.mpr ⟨en, List.mem_cons_of_mem _ he, q⟩
theorem Caught.now (C : Caught X pins a B cl d σ H s0 s) : L2.Inv X pins σ H { s with heap := s.heap } := C.inv.landed C.gnd C.fly.1 C.grow C.os C.bare
theorem Caught.on (C : Caught X pins a B cl d σ H s0 s) {h' : Heap} (f : PySem.HandSPX.FlyingZ B (X.env :: X.outer) a (Zc cl d) h') (u : s.heap.UpToSlots h') : Caught X pins a B cl d σ H s0 { s with heap := h' } :=
  ⟨C.inv, C.gnd, C.grow.trans u, f, C.no, C.os, C.bare⟩
theorem pcl_nil {Wo : WX} (hs : X.stack = X.env :: X.outer) (hf : X.env.frame = some X.env.locals) (tk : Takes X Wo) : PCl X [] (fun _ => Wo) := by
  intro pins a B cl d σ H s0 s Z C hw
  refine wpAny_handleBy_nil ?_
  obtain ⟨_, _, _, oe, vs, T, _, _, he, _, hd, h1, _⟩ := id C.fly
  unfold PySem.passOn
  refine wpAny_bind (wpAny_field he hd h1 ?_)
  rw [if_neg (show ¬ ((Value.ref T == Value.none) = true) from by simp)]
  have up : wpAny (model X.prog X.w) X.A (setFlight (.ref a) X.env.frame) (fun _ t => wpAny (model X.prog X.w) X.A (throw (.ref a) : Sem Flow) (SP X pins Z) X.xe t) X.xe s := by
    rw [hf]
    exact PySem.HandSPX.setFlight_upZ C.fly fun h4 hh u => wpAny_throw (tk _ _ ⟨a, B, s0, pins, σ, H, cl, d, rfl, C.inv, C.gnd, C.grow.trans u, .inr (.inr (by rw [hs]; exact hh)), C.no, C.os, C.bare, hw⟩)
  first
    | exact wpAny_bind (wpAny_pure (wpAny_bind up))
    | exact wpAny_bind up
/-- the clause's test -/
theorem Caught.test (C : Caught X pins a B cl d σ H s0 s) (hf : X.env.frame = some X.env.locals) {x : Str} {c : Value} {np : Pos} (hc : Names X x c) {Q E : Value → Shared → Prop} (q : Q c s) : wpAny (model X.prog X.w) (X.A.mark (some (.ref a))) (eval (.Name x np) X.env) Q E s := by
  obtain ⟨oe, vs, h1, h2, h3, n1, n2⟩ := C.at_ hf
  have I := C.now.suite h1 h3 C.no n1 n2
  obtain ⟨hg, hdb, hm | ⟨hm, hv, hn⟩⟩ := hc
  · exact ld_glob (X := X.suite a ((a, oe) :: (X.pn ++ pins))) I hg hm q hdb
  · exact ld_blt (X := X.suite a ((a, oe) :: (X.pn ++ pins))) I hg hm hv q hn hdb
/-- a clause without a name -/
theorem pcl_cons {x : Str} {c : Value} {ts : Addr → Value → Option Addr → TS} {b0 : Stmt} {su : List Stmt} {np pos' : Pos} {hds : List ExceptHandler} {w : Ends → WX} (hf : X.env.frame = some X.env.locals) (hc : Names X x c)
    (hsu : ∀ (a : Addr) (oe : Obj) (cl : Value) (d : Option Addr) (pn : List (Addr × Obj)), Zc cl d oe → (∃ vs, oe.data = .fields vs) → PSs (X.suite a ((a, oe) :: pn)) (b0 :: su) (ts a cl d)) (hr : PCl X hds w) :
    PCl X (.ExceptHandler (some (.Name x np)) none (b0 :: su) pos' :: hds) (fun Z cl d σ H => ∃ b, PySem.W.exmOne X.K cl c = some b ∧ (b = true → ∀ a, H a = none → ts a cl d Z σ H) ∧ (b = false → w Z cl d σ H)) := by
  intro pins a B cl d σ H s0 s Z C ⟨b, hb, yes, nay⟩
  refine wpAny_handleBy_cons (codeAny_handlers_test ?_) (by intro q; cases q)
  obtain ⟨oe, vs, h1, h2, h3, n1, n2⟩ := C.at_ hf
  have LT : PySem.W.Looks (model X.prog X.w) s.heap (typeOf (.ref a)) cl := fun _ _ _ _ k q => wpAny_typeOf_ref (k _ _ h1) (by rw [h2.1]; exact q)
  refine C.test hf hc ((PySem.W.exm_one (M := model X.prog X.w) C.now.kIn LT hb).here ?_)
  cases b with
  | true =>
    refine codeAny_handlers_suite (PySem.HandSPX.lands_againZ C.fly fun h4 f4 u4 => ?_)
    have C4 := C.on f4 u4
    obtain ⟨oe4, vs4, k1, k2, k3, m1, m2⟩ := C4.at_ hf
    have ok := C.inv.ok
    refine wpAny_mono ((hsu a oe4 cl d (X.pn ++ pins) k2 ⟨_, k3⟩).run [] _ _ H _ (C4.now.suite k1 k3 C.no m1 m2) (yes rfl a C.no)) (fun f s6 hq => ?_) (fun _ _ z => False.elim z)
    cases f with
    | next => exact (let ⟨_, _, S, q⟩ := hq; ⟨_, _, S.unsuite ok, q⟩)
    | brk => exact (let ⟨_, _, S, q⟩ := hq; ⟨_, _, S.unsuite ok, q⟩)
    | cont => exact (let ⟨_, _, S, q⟩ := hq; ⟨_, _, S.unsuite ok, q⟩)
    | ret u => exact (let ⟨_, _, _, S, r, q⟩ := hq; ⟨_, _, _, S.unsuite ok, r, q⟩)
  | false => exact hr pins a B cl d σ H s0 s Z C (nay rfl)
/-- a clause with a name: slot i -/
theorem pcl_as {x n : Str} {c : Value} {i : Nat} {ts : Addr → Value → Option Addr → TS} {b0 : Stmt} {su : List Stmt} {np pos' : Pos} {hds : List ExceptHandler} {w : Ends → WX} (hf : X.env.frame = some X.env.locals) (hN : X.N.Nodup) (hi : X.N[i]? = some n) (hl : X.env.kindOf n = some .local) (hc : Names X x c)
    (hsu : ∀ (a : Addr) (oe : Obj) (cl : Value) (d : Option Addr) (pn : List (Addr × Obj)), Zc cl d oe → (∃ vs, oe.data = .fields vs) → PSs (X.suite a ((a, oe) :: pn)) (b0 :: su) (ts a cl d)) (hr : PCl X hds w) :
    PCl X (.ExceptHandler (some (.Name x np)) (some n) (b0 :: su) pos' :: hds) (fun Z cl d σ H => ∃ b, PySem.W.exmOne X.K cl c = some b ∧
      (b = true → ∀ a, H a = none → ts a cl d { nx := fun σ' H' => Z.nx (σ'.set i none) H', rt := Z.rt, bk := fun σ' H' => Z.bk (σ'.set i none) H', ct := fun σ' H' => Z.ct (σ'.set i none) H' } (σ.set i (some (.ref a))) H) ∧ (b = false → w Z cl d σ H)) := by
  intro pins a B cl d σ H s0 s Z C ⟨b, hb, yes, nay⟩
  refine wpAny_handleBy_cons (codeAny_handlers_test ?_) (by intro q; cases q)
  obtain ⟨oe, vs, h1, h2, h3, n1, n2⟩ := C.at_ hf
  have LT : PySem.W.Looks (model X.prog X.w) s.heap (typeOf (.ref a)) cl := fun _ _ _ _ k q => wpAny_typeOf_ref (k _ _ h1) (by rw [h2.1]; exact q)
  refine C.test hf hc ((PySem.W.exm_one (M := model X.prog X.w) C.now.kIn LT hb).here ?_)
  cases b with
  | true =>
    refine codeAny_handlers_suite_as (PySem.HandSPX.lands_againZ C.fly fun h4 f4 u4 => ?_)
    have C4 := C.on f4 u4
    obtain ⟨oe4, vs4, k1, k2, k3, m1, m2⟩ := C4.at_ hf
    have ok := C.inv.ok
    refine store_ok (X := X.suite a ((a, oe4) :: (X.pn ++ pins))) (v := .ref a) (C4.now.suite k1 k3 C.no m1 m2) hN hi (.inl hl) rfl (fun s5 S5 => ?_) (.inr hl)
    refine wpAny_mono ((hsu a oe4 cl d (X.pn ++ pins) k2 ⟨_, k3⟩).run [] s5 _ H _ S5 (yes rfl a C.no)) (fun f s6 hq => ?_) (fun _ _ z => False.elim z)
    cases f with
    | next => exact (let ⟨_, _, S, q⟩ := hq; gone_ok (S.unsuite ok) hN hi hl fun _ J => ⟨_, _, J, q⟩)
    | brk => exact (let ⟨_, _, S, q⟩ := hq; gone_ok (S.unsuite ok) hN hi hl fun _ J => ⟨_, _, J, q⟩)
    | cont => exact (let ⟨_, _, S, q⟩ := hq; gone_ok (S.unsuite ok) hN hi hl fun _ J => ⟨_, _, J, q⟩)
    | ret u => exact (let ⟨_, _, _, S, r, q⟩ := hq; gone_ok (S.unsuite ok) hN hi hl fun _ J => ⟨_, _, _, J, r, q⟩)
  | false => exact hr pins a B cl d σ H s0 s Z C (nay rfl)
/-- the statement -/
theorem ps_tryC {body : List Stmt} {h0 : ExceptHandler} {hds : List ExceptHandler} {w : Ends → WX} {tb : WX → TS} {pos : Pos} (hs : X.stack = X.env :: X.outer) (hf : X.env.frame = some X.env.locals)
    (hb : ∀ (W : WX) (pn : List (Addr × Obj)) (xe : Value → Shared → Prop), Takes (X.tr pn xe) W → PassesOwn (model X.prog X.w) X.A X.env xe → PSs (X.tr pn xe) body (tb W)) (hc : PCl X (h0 :: hds) w) :
    PS X (.Try body (h0 :: hds) [] [] pos) (fun Z σ H => tb (w Z) Z σ H) := by
  refine ⟨fun pins s σ H Z I h => wpAny_Try_except ?_⟩
  have ok := I.ok
  have hfr : X.A.frames = some (X.env :: X.outer) := by rw [ok.frames, hs]
  refine wpAny_mono ((hb (w Z) (X.pn ++ pins) (fun e t1 => wpAny (model X.prog X.w) X.A (noteFrame e X.env) (fun _ t2 => wpAny (model X.prog X.w) X.A (setFlight e none) (fun _ t3 =>
    wpAny (model X.prog X.w) X.A (handleBy e X.env (h0 :: hds)) (SP X pins Z) X.xe t3) X.xe t2) X.xe t1) (fun u t xx => ?_) PassesOwn.looking).run [] s σ H Z (I.toTry _) h) (fun f s1 hq => ?_) (fun _ _ z => z)
  · obtain ⟨a, B, sI, p2, σ', H', cl, d, rfl, J, nb, up, sky, na, os, ag, hw⟩ := xx
    refine Sky.land Zc.steady hfr hf (show Sky B (X.env :: X.outer) a (Zc cl d) X.env.locals t.heap by rw [← hs]; exact sky) fun h3 f3 u3 => ?_
    exact hc pins a B cl d σ' H' sI { t with heap := h3 } Z ⟨J.ofTry ok, nb, up.trans u3, f3, na, os, ag⟩ hw
  · cases f with
    | next => exact (let ⟨_, _, J, q⟩ := hq; wpAny_execs_nil ⟨_, _, J.ofTry ok, q⟩)
    | brk => exact (let ⟨_, _, J, q⟩ := hq; ⟨_, _, J.ofTry ok, q⟩)
    | cont => exact (let ⟨_, _, J, q⟩ := hq; ⟨_, _, J.ofTry ok, q⟩)
    | ret u => exact (let ⟨_, _, _, J, r, q⟩ := hq; ⟨_, _, _, J.ofTry ok, r, q⟩)
end
end PK
end

section
set_option Elab.async false
set_option linter.all false
set_option maxHeartbeats 4000000
set_option maxRecDepth 100000
/-! PKm: what the clauses of a try answer. -/
namespace PK
open PySem L2 PySem.Spec PyProof.Rows

/-- the clauses keep what tryGo says -/
def ClOk (K : PySem.W.Frag) (L : Lk) (W : WX) (hs : List Hd) (w : Ends → WX) : Prop := ∀ (ads : Nat → Addr) (M : Mem) (H : Hp) (x : Exn) (ρ : Env) (σ : L2.St) (c : Value) (d : Option Addr) (Z : Ends),
  RepE K L ads M.length H ρ σ → RepM K L ads H M → RepX K L H x c d → OutS K L W ads M H (tryGo hs x ρ M) Z → w Z c d σ H
def DCl (X : Cx) (L : Lk) (W : WX) (hds : List ExceptHandler) (hs : List Hd) : Prop := ∃ w, PCl X hds w ∧ ClOk X.K L W hs w
/-- a suite returns what g says of the exception -/
def SuOk (X : Cx) (L : Lk) (slot : Option Nat) (g : Exn → Option D) (su : List Stmt) : Prop := ∃ ts : Addr → Value → Option Addr → TS,
  (∀ (a : Addr) (oe : Obj) (cl : Value) (d : Option Addr) (pn : List (Addr × Obj)), Zc cl d oe → (∃ vs, oe.data = .fields vs) → PSs (X.suite a ((a, oe) :: pn)) su (ts a cl d)) ∧
  ∀ (x : Exn) (a : Addr) (cl : Value) (d : Option Addr) (Z : Ends) (σ : L2.St) (H : Hp) (dv : D), RepX X.K L H x cl d → g x = some dv → (∀ i, slot = some i → σ[i]? = some (some (.ref a))) →
    (∀ v H', (∀ b o, H b = some o → H' b = some o) → RepD X.K L (fun _ => 0) 0 H' dv v → Z.rt v H') → ts a cl d Z σ H
section
variable {X : Cx} {L : Lk} {T : Tb} {κ : Ctx} {W : WX}
theorem dcl_nil (hs : X.stack = X.env :: X.outer) (hf : X.env.frame = some X.env.locals) (tk : Takes X W) : DCl X L W [] [] :=
  ⟨_, pcl_nil hs hf tk, fun ads M H x ρ σ c d Z re rm rx h => h ads H c d σ After.refl rm re rx⟩
/-- the class's test comes out as the clause says -/
def ExmOk (K : PySem.W.Frag) (L : Lk) (c : Value) (h : Hd) : Prop := (∀ j ∈ h.yes, PySem.W.exmOne K (.ref (L.ca j)) c = some true) ∧ ∀ j ∈ h.no, PySem.W.exmOne K (.ref (L.ca j)) c = some false
theorem dcl_cons {x : Str} {c : Value} {b0 : Stmt} {su : List Stmt} {np pos' : Pos} {hds : List ExceptHandler} {h : Hd} {hs : List Hd} (hf : X.env.frame = some X.env.locals) (hc : Names X x c) (hsl : h.slot = none) (he : ExmOk X.K L c h) (hsu : SuOk X L none h.val (b0 :: su)) (hr : DCl X L W hds hs) :
    DCl X L W (.ExceptHandler (some (.Name x np)) none (b0 :: su) pos' :: hds) (h :: hs) := by
  obtain ⟨ts, hts, hv⟩ := hsu
  obtain ⟨w, hw, hk⟩ := hr
  refine ⟨_, pcl_cons hf hc hts hw, fun ads M H x ρ σ c' d Z re rm rx q => ?_⟩
  unfold tryGo at q
  by_cases hy : h.yes.contains x.cls
  · rw [if_pos hy, hsl] at q
    simp only [if_true] at q
    refine ⟨true, by rw [rx.1]; exact he.1 _ (by simpa using hy), fun _ a ha => ?_, fun z => (by cases z)⟩
    cases e : h.val x with
    | none => rw [e] at q; exact q.elim
    | some dv =>
      rw [e] at q
      refine hv x a c' d Z σ H dv rx e (fun i z => by cases z) fun v H' kp r => ?_
      exact q ads H' v (After.keep rm kp) (rm.keep kp) (RepD.up (Nat.zero_le _) _ _ (RepD.tin TupsIn.refl (fun n hn => absurd hn (Nat.not_lt_zero n)) _ _ r))
  · rw [if_neg hy] at q
    split at q
    · rename_i hn
      exact ⟨false, by rw [rx.1]; exact he.2 _ (by simpa using hn), fun z => (by cases z), fun _ => hk ads M H x ρ σ c' d Z re rm rx q⟩
    · exact q.elim
theorem dcl_as {x n : Str} {c : Value} {b0 : Stmt} {su : List Stmt} {np pos' : Pos} {hds : List ExceptHandler} {h : Hd} {hs : List Hd} {i : Nat} (hf : X.env.frame = some X.env.locals) (hN : X.N.Nodup) (hi : X.N[i]? = some n) (hl : X.env.kindOf n = some .local) (hc : Names X x c) (hsl : h.slot = some i) (he : ExmOk X.K L c h) (hsu : SuOk X L (some i) h.val (b0 :: su)) (hr : DCl X L W hds hs) :
    DCl X L W (.ExceptHandler (some (.Name x np)) (some n) (b0 :: su) pos' :: hds) (h :: hs) := by
  obtain ⟨ts, hts, hv⟩ := hsu
  obtain ⟨w, hw, hk⟩ := hr
  refine ⟨_, pcl_as hf hN hi hl hc hts hw, fun ads M H x ρ σ c' d Z re rm rx q => ?_⟩
  unfold tryGo at q
  by_cases hy : h.yes.contains x.cls
  · rw [if_pos hy, hsl] at q
    simp only [decide_eq_true_eq] at q
    refine ⟨true, by rw [rx.1]; exact he.1 _ (by simpa using hy), fun _ a ha => ?_, fun z => (by cases z)⟩
    split at q
    · rename_i hlt
      cases e : h.val x with
      | none => rw [e] at q; exact q.elim
      | some dv =>
        rw [e] at q
        refine hv x a c' d _ (σ.set i (some (.ref a))) H dv rx e (fun j z => ?_) fun v H' kp r => ?_
        · cases z
          exact List.getElem?_set_self (by rw [← re.1]; exact hlt)
        · exact q ads H' v (After.keep rm kp) (rm.keep kp) (RepD.up (Nat.zero_le _) _ _ (RepD.tin TupsIn.refl (fun n hn => absurd hn (Nat.not_lt_zero n)) _ _ r))
    · exact q.elim
  · rw [if_neg hy] at q
    split at q
    · rename_i hn
      exact ⟨false, by rw [rx.1]; exact he.2 _ (by simpa using hn), fun z => (by cases z), fun _ => hk ads M H x ρ σ c' d Z re rm rx q⟩
    · exact q.elim
theorem ds_try {body : List Stmt} {h0 : ExceptHandler} {hds : List ExceptHandler} {hs : List Hd} {gb : SS} {pos : Pos} (hst : X.stack = X.env :: X.outer) (hf : X.env.frame = some X.env.locals)
    (hb : ∀ (W : WX) (pn : List (Addr × Obj)) (xe : Value → Shared → Prop), Takes (X.tr pn xe) W → PassesOwn (model X.prog X.w) X.A X.env xe → DB (X.tr pn xe) L κ W body gb) (hc : DCl X L W (h0 :: hds) hs) :
    DS X L κ W (.Try body (h0 :: hds) [] [] pos) (pTry gb hs) := by
  obtain ⟨w, hw, hk⟩ := hc
  refine (ps_tryC (tb := fun W' => tDS X.K L κ W' gb) hst hf hb hw).imp fun Z σ H ⟨ρ, ads, M, re, rm, h⟩ => ⟨ρ, ads, M, re, rm, ?_⟩
  unfold pTry at h
  cases e : gb κ ρ M with
  | exc x ρ' M' =>
    rw [e] at h
    exact fun ads' H' c dx σ' A m re' rx => hk ads' M' H' x ρ' σ' c dx Z re' m rx (h.after A m)
  | _ => rw [e] at h; exact h
/-! suites -/
/-- an element of the tuple that a suite returns -/
def HvOk (X : Cx) (L : Lk) (slot : Option Nat) (e : Expr) (g : Exn → Option D) : Prop := ∀ (a : Addr) (oe : Obj) (cl : Value) (d : Option Addr) (pn : List (Addr × Obj)), Zc cl d oe → (∃ vs, oe.data = .fields vs) → PE (X.suite a ((a, oe) :: pn)) e
  (fun σ H Q => ∃ x dv, RepX X.K L H x cl d ∧ g x = some dv ∧ (∀ i, slot = some i → σ[i]? = some (some (.ref a))) ∧ ∀ v, RepD X.K L (fun _ => 0) 0 H dv v → Q v H)
def HvsOk (X : Cx) (L : Lk) (slot : Option Nat) (es : List Expr) (g : Exn → Option (List D)) : Prop := ∀ (a : Addr) (oe : Obj) (cl : Value) (d : Option Addr) (pn : List (Addr × Obj)), Zc cl d oe → (∃ vs, oe.data = .fields vs) → PA (X.suite a ((a, oe) :: pn)) es
  (fun σ H Q => ∃ x dvs, RepX X.K L H x cl d ∧ g x = some dvs ∧ (∀ i, slot = some i → σ[i]? = some (some (.ref a))) ∧ ∀ vs, RepL X.K L (fun _ => 0) 0 H dvs vs → Q vs H)
variable {slot : Option Nat} {e : Expr} {es : List Expr} {pos : Pos} {g : Exn → Option D} {gs : Exn → Option (List D)}
theorem hv_const {v : V} {d : D} (h : ∀ (a : Addr) (pn : List (Addr × Obj)), PE (X.suite a pn) e (tC v)) (r : ∀ H, RepD X.K L (fun _ => 0) 0 H d v) : HvOk X L slot e (xC d) := fun a oe cl dd pn _ _ => (h a _).imp fun σ H Q ⟨x, dv, _, e1, _, q⟩ => by
  cases e1
  exact q v (r H)
theorem hv_str {s : Str} {j : Nat} : HvOk X L slot (.Constant (.str s) j pos) (xC (.str s.cps.toList)) := hv_const (fun _ _ => pe_str) fun _ => by simp only [RepD, Array.toArray_toList]
theorem hv_non {j : Nat} : HvOk X L slot (.Constant .none j pos) (xC .non) := hv_const (fun _ _ => pe_non) fun _ => by simp only [RepD]
theorem hv_int {i : Int} {j : Nat} : HvOk X L slot (.Constant (.int i) j pos) (xC (.int i)) := hv_const (fun _ _ => pe_int) fun _ => by simp only [RepD]
theorem hv_bl {b : Bool} {j : Nat} : HvOk X L slot (.Constant (.bool b) j pos) (xC (.bl b)) := hv_const (fun _ _ => pe_bl) fun _ => by simp only [RepD]
/-- n.f -/
theorem hv_fld {n f : Str} {i c k : Nat} {p : Pos} (hslot : slot = some i) (hi : X.N[i]? = some n) (hl : X.env.kindOf n = some .local) (hd : (n == ("__debug__" : Str)) = false) (hcd : (n == ("__classdict__" : Str)) = false) (T : XfC X.K (L.ca c)) (hf : L.fn k = f) (hno : PySem.W.findIn X.K (.ref (L.ca c)) f = some none)
    (hb : attributeBase (.Name n p) f X.env (eval (.Name n p) X.env) = eval (.Name n p) X.env) : HvOk X L slot (.Attribute (.Name n p) f pos) (xGet c k) := fun a oe cl d pn hz hfs => by
  refine (pe_xf T hno hz hfs (pe_var (X := X.suite a ((a, oe) :: pn)) hi (.inl hl) hd hcd) hb).imp fun σ H Q ⟨x, dv, rx, e1, hs, q⟩ => ?_
  unfold xGet at e1
  split at e1
  · rename_i hc
    obtain ⟨ec, rf⟩ := rx
    rcases rf with ⟨h0, _⟩ | ⟨dx, ws, ed, hH, hk⟩
    · rw [h0] at e1; cases e1
    · have hm : (k, dv) ∈ x.fs := by
        have go : ∀ l : List (Nat × D), l.lookup k = some dv → (k, dv) ∈ l := by
          intro l
          induction l with
          | nil => intro z; cases z
          | cons q r ih =>
            intro z
            obtain ⟨q1, q2⟩ := q
            rw [List.lookup_cons] at z
            by_cases hq : (k == q1) = true
            · rw [hq] at z
              simp at hq z
              subst hq z
              exact List.mem_cons_self
            · simp only [hq] at z
              exact List.mem_cons_of_mem _ (ih (by simpa using z))
        exact go _ e1
      obtain ⟨v, hv, r⟩ := hk _ hm
      simp only [hf] at hv
      exact ⟨_, hs i hslot, rfl, by rw [ec, hc], dx, ws, v, ed, hH, hv, q v r⟩
  · cases e1
theorem hvs_nil : HvsOk X L slot [] xNil := fun a oe cl d pn _ _ => pa_nil.imp fun σ H Q ⟨x, dvs, _, e1, _, q⟩ => by
  cases e1
  exact q [] (by simp only [RepL])
theorem hvs_cons (h1 : HvOk X L slot e g) (h2 : HvsOk X L slot es gs) (hs : starEach (e :: es) X.env = (false, eval e X.env) :: starEach es X.env) : HvsOk X L slot (e :: es) (xCons g gs) := fun a oe cl d pn hz hf =>
  (pa_cons (h1 a oe cl d pn hz hf) (h2 a oe cl d pn hz hf) hs).imp fun σ H Q ⟨x, dvs, rx, e1, hsl, q⟩ => by
    unfold xCons at e1
    split at e1
    · rename_i d1 ds e2 e3
      cases e1
      exact ⟨x, d1, rx, e2, hsl, fun v r => ⟨x, ds, rx, e3, hsl, fun vs rs => q (v :: vs) (RepL.cons r rs)⟩⟩
    · cases e1
theorem su_ret {k : Nat} {p : Pos} (h : HvsOk X L slot es gs) : SuOk X L slot (xTup gs) [.Return (some (.Tuple es k p)) pos] := by
  refine ⟨_, fun a oe cl d pn hz hf => pss_cons (ps_ret (pe_tup (h a oe cl d pn hz hf))) pss_nil, fun x a cl d Z σ H dv rx e1 hsl q => ?_⟩
  unfold xTup at e1
  split at e1
  · rename_i ds e2
    split at e1
    · rename_i hl
      cases e1
      refine ⟨x, ds, rx, e2, hsl, fun vs r => ⟨by rw [sizeLine16, ← r.length]; omega, fun p hp => ?_⟩⟩
      refine q _ _ (fun b o hb => by rw [upd_ne (ne_of_none hb hp)]; exact hb) ?_
      simp only [RepD]
      exact ⟨p, vs, rfl, .of upd_same, r.new hp⟩
    · cases e1
  · cases e1
/-- a suite that is never run -/
theorem su_never {su : List Stmt} : SuOk X L slot (fun _ => none) su := ⟨fun _ _ _ => tNever, fun _ _ _ _ _ _ _ => pss_never, fun _ _ _ _ _ _ _ _ _ z => by cases z⟩
end
end PK
end

section
set_option Elab.async false
set_option linter.all false
set_option maxHeartbeats 4000000
set_option maxRecDepth 100000
/-! PKn: *, [::-1], chains, sorted, {}, names of the module. -/
namespace PK
open PySem L2 PySem.Spec PyProof.Rows

/-! ### tuple * int: the cases that give the tuple itself or the empty one -/
theorem tm_same (l : Addr) (its : Array Value) (n : Nat) (dd : Option Addr) (sl : Array (Option Value)) (x : Int) (u : Tok) (c0 : (decide (x < -(2 ^ 63)) || decide (x ≥ 2 ^ 63)) = false) (c1 : (its.isEmpty || x == 1) = true) :
    Meets (Builtin.«tuple.__mul__» ⟨[.ref l, .int x u], []⟩) (fun _ R s => s.heap.get? l = some { cls := .type "tuple", dict := dd, data := .seq its n, slots := sl } ∧ R (.ok (.ret (Value.ref l))) s) :=
  .of_wp fun prog w A R s h => by
    obtain ⟨hp, g, d, tk, os⟩ := s
    obtain ⟨hl, h⟩ := h
    have f1 := AutoSeq1.idx_int
    wp_walk using wpAny_loadPart' hl
    repeat (first
      | (refine wpAny_ite_false (decide_eq_false (by rw [c0]; exact Bool.false_ne_true)) ?_; wp_walk using wpAny_loadPart' hl)
      | (refine wpAny_ite_true (decide_eq_true c1) ?_; wp_walk using wpAny_loadPart' hl))
    exact ⟨_, rfl, h⟩
theorem tm_none (l : Addr) (its : Array Value) (n : Nat) (dd : Option Addr) (sl : Array (Option Value)) (x : Int) (u : Tok) (c0 : (decide (x < -(2 ^ 63)) || decide (x ≥ 2 ^ 63)) = false) (c1 : (its.isEmpty || x == 1) = false) (c2 : (decide (x ≤ 0) || its.isEmpty) = true) :
    Meets (Builtin.«tuple.__mul__» ⟨[.ref l, .int x u], []⟩) (fun _ R s => s.heap.get? l = some { cls := .type "tuple", dict := dd, data := .seq its n, slots := sl } ∧
      R (.ok (.ret (Value.ref s.heap.objs.size))) { s with heap := s.heap.push { cls := Value.type "tuple", data := Data.seq #[] }, toks := s.toks }) :=
  .of_wp fun prog w A R s h => by
    obtain ⟨hp, g, d, tk, os⟩ := s
    obtain ⟨hl, h⟩ := h
    have f1 := AutoSeq1.idx_int
    wp_walk using wpAny_loadPart' hl
    repeat (first
      | (refine wpAny_ite_false (decide_eq_false (by rw [c0]; exact Bool.false_ne_true)) ?_; wp_walk using wpAny_loadPart' hl)
      | (refine wpAny_ite_false (decide_eq_false (by rw [c1]; exact Bool.false_ne_true)) ?_; wp_walk using wpAny_loadPart' hl)
      | (refine wpAny_ite_true (decide_eq_true c2) ?_; wp_walk using wpAny_loadPart' hl))
    exact ⟨_, rfl, h⟩
section
variable {X : Cx} {L : Lk} {T : Tb} {κ : Ctx} {W : WX} {ga gb gc : SE} {e a b c : Expr} {pos : Pos} {E : XK}
theorem op_mulT : OpR X (binaryOp .Mult) (fun x y H Q => ∃ l k xs, x = .ref l ∧ y = .int k ∧ SqT X.K H l xs ∧ -(2 ^ 62) < k ∧ k < 2 ^ 62 ∧ xs.length * k.toNat ≤ sizeLine ∧
    ((xs = [] ∨ k = 1) → Q (.ref l) H) ∧ (¬ (xs = [] ∨ k = 1) → ∀ p, H p = none → Q (.ref p) (upd H p (.tup (List.replicate k.toNat xs).flatten)))) := by
  intro pins s σ H x y v u Q I rx ry h
  obtain ⟨l, k, xs, rfl, rfl, hT, k1, k2, hz, q1, q2⟩ := h
  cases rx
  obtain ⟨t, rfl⟩ := ry
  obtain ⟨its, r, ⟨⟨cls, dd, data, sl⟩, ho, hc, n, hd⟩, hs⟩ := I.tuple hT
  simp only at hc hd
  subst hc hd
  have hle : its.length = xs.length := r.length.symm
  have c0 : (decide (k < -(2 ^ 63)) || decide (k ≥ 2 ^ 63)) = false := by
    rw [decide_eq_false (by omega), decide_eq_false (by omega)] <;> rfl
  have hemp : its.toArray.isEmpty = true ↔ xs = [] := by
    constructor
    · intro z
      have : its.length = 0 := by simpa using z
      exact List.eq_nil_of_length_eq_zero (by omega)
    · intro z
      subst z
      have : its = [] := List.eq_nil_of_length_eq_zero (by simpa using hle)
      subst this; rfl
  have go : ∀ {R : Result → Shared → Prop}, True := fun {_} => trivial
  by_cases hsame : xs = [] ∨ k = 1
  · have c1 : (its.toArray.isEmpty || k == 1) = true := by
      rcases hsame with z | z
      · rw [hemp.mpr z]; rfl
      · rw [z]; simp
    exact wpAny_binaryOp_repeat_ref (T := "tuple") (U := "int") (by decide) ⟨_, ho, rfl⟩ (fun s' => typeIs_int s' k t) noFill_tuple_mul F.fills_int_mul F.slot_int_rmul repeat_tuple F.slot_int_index.lookup
      (call_meets F.slot_int_rmul (typeIs_int s k t) F.entry_int_rmul (F.args_int_rmul_2 _ _) (int_rmul_tuple k t l its.toArray n dd sl)
        ⟨ho, rfl, ⟨_, ho, rfl⟩, call_meets F.slot_tuple_mul ⟨_, ho, rfl⟩ F.entry_tuple_mul (F.args_tuple_mul_2 _ _) (tm_same l its.toArray n dd sl k t c0 c1) ⟨ho, ⟨.ref l, H, I, rfl, q1 hsame⟩⟩⟩)
  · have hne : its.toArray.isEmpty = false := by
      cases z : its.toArray.isEmpty with
      | false => rfl
      | true => exact absurd (.inl (hemp.mp z)) hsame
    have c1 : (its.toArray.isEmpty || k == 1) = false := by
      rw [hne, Bool.false_or]
      exact beq_eq_false_iff_ne.mpr fun z => hsame (.inr z)
    by_cases h0 : k ≤ 0
    · have c2 : (decide (k ≤ 0) || its.toArray.isEmpty) = true := by rw [decide_eq_true h0]; rfl
      refine wpAny_binaryOp_repeat_ref (T := "tuple") (U := "int") (by decide) ⟨_, ho, rfl⟩ (fun s' => typeIs_int s' k t) noFill_tuple_mul F.fills_int_mul F.slot_int_rmul repeat_tuple F.slot_int_index.lookup
        (call_meets F.slot_int_rmul (typeIs_int s k t) F.entry_int_rmul (F.args_int_rmul_2 _ _) (int_rmul_tuple k t l its.toArray n dd sl)
          ⟨ho, rfl, ⟨_, ho, rfl⟩, call_meets F.slot_tuple_mul ⟨_, ho, rfl⟩ F.entry_tuple_mul (F.args_tuple_mul_2 _ _) (tm_none l its.toArray n dd sl k t c0 c1 c2) ⟨ho, ?_⟩⟩)
      have e0 : (List.replicate k.toNat xs).flatten = [] := by
        have : k.toNat = 0 := by omega
        rw [this]; rfl
      have q3 := q2 hsame
      rw [e0] at q3
      refine ⟨.ref s.heap.objs.size, _, I.laid (t' := s.toks) (o := .tup []) (fun b ob q => Heap.get?_push_of_some _ q) (Nat.le_refl _) ?_, rfl, q3 _ (I.hok.fresh (Nat.le_refl _))⟩
      exact ⟨by simp, [], .nil, IsTup.new _ _⟩
    · have c2 : (decide (k ≤ 0) || its.toArray.isEmpty) = false := by
        rw [hne, Bool.or_false]; exact decide_eq_false h0
      have hsz0 : its.toArray.size = xs.length := by rw [List.size_toArray, hle]
      have hm : ((its.toArray.size : Nat) : Int) * k ≤ 16777216 := by
        have hk : k = ((k.toNat : Nat) : Int) := by omega
        rw [hsz0, hk, ← Int.natCast_mul]
        rw [sizeLine_eq] at hz
        omega
      have flen : (List.replicate k.toNat its).flatten.length ≤ sizeLine := by
        rw [PyProof.Rows.lm_len_rep_flat, hle, Nat.mul_comm]; exact hz
      have c4 : Builtin.Tuple.tupleTooMany (((its.toArray.size : Nat) : Int) * k) = false := by
        unfold Builtin.Tuple.tupleTooMany
        rw [sizeLine_eq]
        exact decide_eq_false (by omega)
      refine wpAny_binaryOp_repeat_ref (T := "tuple") (U := "int") (by decide) ⟨_, ho, rfl⟩ (fun s' => typeIs_int s' k t) noFill_tuple_mul F.fills_int_mul F.slot_int_rmul repeat_tuple F.slot_int_index.lookup
        (call_meets F.slot_int_rmul (typeIs_int s k t) F.entry_int_rmul (F.args_int_rmul_2 _ _) (int_rmul_tuple k t l its.toArray n dd sl)
          ⟨ho, rfl, ⟨_, ho, rfl⟩, call_meets F.slot_tuple_mul ⟨_, ho, rfl⟩ F.entry_tuple_mul (F.args_tuple_mul_2 _ _) (tuple_mulW l its.toArray n dd sl k t c0 c1 c2 (by omega) c4 (by rw [size_rep, List.size_toArray]; exact flen)) ⟨ho, ?_⟩⟩)
      rw [size_rep]
      refine ⟨.ref s.heap.objs.size, _, I.laid (t' := s.toks) (o := .tup (List.replicate k.toNat xs).flatten) (fun b ob q => Heap.get?_push_of_some _ q) (Nat.le_refl _) ?_, rfl, q2 hsame _ (I.hok.fresh (Nat.le_refl _))⟩
      exact ⟨by rw [PyProof.Rows.lm_len_rep_flat, Nat.mul_comm]; exact hz, _, r.rep k.toNat, IsTup.new _ _⟩
theorem RepL.rep {K : PySem.W.Frag} {ads : Nat → Addr} {k : Nat} {H : Hp} {xs : List D} {vs : List V} (r : RepL K L ads k H xs vs) : ∀ n, RepL K L ads k H (List.replicate n xs).flatten (List.replicate n vs).flatten
  | 0 => by simp [RepL]
  | n + 1 => by simp only [List.replicate_succ, List.flatten_cons]; exact RepL.append r (RepL.rep r n)
theorem strs_rep {xs : List Nat} {m : Nat} : (List.replicate m xs.toArray).foldl (· ++ ·) #[] = (List.replicate m xs).flatten.toArray := by
  have go : ∀ (m : Nat) (acc : List Nat), (List.replicate m xs.toArray).foldl (· ++ ·) acc.toArray = (acc ++ (List.replicate m xs).flatten).toArray := by
    intro m
    induction m with
    | zero => intro acc; simp
    | succ m ih =>
      intro acc
      rw [List.replicate_succ, List.foldl_cons, List.append_toArray, ih, List.replicate_succ, List.flatten_cons, List.append_assoc]
  exact go m []
theorem op_dMul : OpR X (binaryOp .Mult) (r2 X.K L E dMul) := by
  intro pins s σ H x y v u Q I rx ry ⟨d1, d2, ads, M, m, q1, q2, h⟩
  unfold dMul at h
  split at h
  · simp only [RepD] at q1 q2
    subst q1 q2
    split at h
    · rename_i hc
      exact op_mul pins s σ H _ _ v u Q I rx ry ⟨_, _, rfl, rfl, hc, h.now m (by simp only [RepD])⟩
    · exact h.elim
  · rename_i M1 xs j
    split at h
    · rename_i hc
      have q1' := q1
      simp only [RepD] at q1 q2
      obtain ⟨p, vs, rfl, hq, rl⟩ := q1
      subst q2
      refine op_mulT pins s σ H _ _ v u Q I rx ry ⟨p, j, vs, rfl, rfl, hq, hc.2.1, hc.2.2, by rw [sizeLine16, ← rl.length]; exact hc.1, fun hs => ?_, fun hs p' hp => ?_⟩
      · have ex : (List.replicate j.toNat xs).flatten = xs := by
          rcases hs with z | z
          · have : xs = [] := rl.nil_iff.mp z
            subst this
            simp
          · subst z; simp
        rw [ex] at h
        exact h.now m q1'
      · refine h.new m hp ?_
        simp only [RepD]
        exact ⟨p', _, rfl, .of upd_same, (RepL.rep rl _).new hp⟩
    · exact h.elim
  · rename_i M1 xs j
    split at h
    · rename_i hc
      simp only [RepD] at q1 q2
      subst q1 q2
      obtain ⟨t, rfl⟩ := rx
      obtain ⟨t', rfl⟩ := ry
      have hl : (⟨xs.toArray⟩ : Str).length = xs.length := by simp [Str.length]
      have fin : ∀ (tk : Tok) (s' : Shared), L2.Inv X pins σ H s' → EP X pins σ Q (.str ⟨(List.replicate j.toNat xs).flatten.toArray⟩ tk) s' := fun tk s' I' => ⟨.str ⟨(List.replicate j.toNat xs).flatten.toArray⟩, H, I', ⟨tk, rfl⟩, h.now m (by simp only [RepD])⟩
      refine PySem.P.mul_str ?_ (fun h1 h2 => ?_) (fun h1 h2 => ?_) ?_
      · rw [decide_eq_false (by omega), decide_eq_false (by omega)] <;> rfl
      · rw [hl]
        have hj1 : 1 ≤ j := by omega
        have := Int.ediv_nonneg (a := (2 ^ 63 - 1 : Int)) (b := j) (by decide) (by omega)
        have hx : (xs.length : Int) * j ≤ 16777216 := by
          have : j = ((j.toNat : Nat) : Int) := by omega
          rw [this, ← Int.natCast_mul]; omega
        have : (xs.length : Int) ≤ (2 ^ 63 - 1) / j := by
          rw [Int.le_ediv_iff_mul_le (by omega)]
          omega
        omega
      · rw [hl]
        unfold PySem.Builtin.Str.tooLong
        rw [sizeLine16]
        exact decide_eq_false (by omega)
      · by_cases h1 : j < 1
        · rw [if_pos h1]
          have e0 : j.toNat = 0 := by omega
          have f := fin s.toks { s with toks := s.toks + 1 } (I.tok _)
          rw [e0] at f
          exact ⟨by simp [Str.length, Str.empty], f⟩
        · rw [if_neg h1]
          by_cases h2 : (j == 1 || (⟨xs.toArray⟩ : Str).length == 0) = true
          · rw [if_pos h2]
            have ex : (List.replicate j.toNat xs).flatten = xs := by
              rw [hl] at h2
              simp only [Bool.or_eq_true, beq_iff_eq] at h2
              rcases h2 with z | z
              · subst z; simp
              · have : xs = [] := List.eq_nil_of_length_eq_zero z
                subst this; simp
            have f := fin t s I
            rw [ex] at f
            exact f
          · rw [if_neg h2]
            rw [strs_rep]
            exact ⟨by simp only [Str.length, List.size_toArray, sizeLine16]; rw [List.length_flatten]; simp; rw [Nat.mul_comm]; exact hc.1, fin _ _ (I.tok _)⟩
    · exact h.elim
  · rename_i M1 a j
    split at h
    · rename_i xs hx
      split at h
      · rename_i hc
        obtain ⟨vs, hn, hH, rl⟩ := rep_own m hx
        simp only [RepD] at q1 q2
        obtain ⟨_, rfl⟩ := q1
        subst q2
        refine op_rep pins s σ H _ _ v u Q I rx ry ⟨_, j, vs, rfl, rfl, hH, by omega, by omega, by rw [sizeLine16, ← rl.length]; exact hc.1, fun p hp => ?_⟩
        exact h.alloc m hp ⟨_, upd_same, (RepL.rep (rl.up' hn) _).new hp⟩
      · exact h.elim
    · exact h.elim
  · exact h.elim
end
end PK
end

section
set_option Elab.async false
set_option linter.all false
set_option maxHeartbeats 4000000
set_option maxRecDepth 100000
/-! PKo: [::-1], chains, sorted, {}, names of the module. -/
namespace PK
open PySem L2 PySem.Spec PyProof.Rows HT

section
variable {prog : Program} {w : World} {A : Around} {E : Value → Shared → Prop} {s : Shared}
theorem rev_all (xs : List Value) : ((List.range xs.length).filterMap fun (m : Nat) => xs.toArray[(((xs.length : Int) - 1) + (m : Int) * -1).toNat]?).toArray = xs.reverse.toArray := by
  congr 1
  apply List.ext_getElem?
  intro i
  have h1 : (List.range xs.length).filterMap (fun (m : Nat) => xs.toArray[(((xs.length : Int) - 1) + (m : Int) * -1).toNat]?) = (List.range xs.length).map fun m => xs.getD (xs.length - 1 - m) .none := by
    have go : ∀ l : List Nat, (∀ m ∈ l, m < xs.length) → l.filterMap (fun (m : Nat) => xs.toArray[(((xs.length : Int) - 1) + (m : Int) * -1).toNat]?) = l.map fun m => xs.getD (xs.length - 1 - m) .none := by
      intro l
      induction l with
      | nil => intro _; rfl
      | cons m r ih =>
        intro hm
        have hm' : m < xs.length := hm m List.mem_cons_self
        have e : (((xs.length : Int) - 1) + (m : Int) * -1).toNat = xs.length - 1 - m := by omega
        have hl : xs.length - 1 - m < xs.length := by omega
        have e2 : xs.toArray[xs.length - 1 - m]? = some (xs.getD (xs.length - 1 - m) .none) := by simp [hl]
        rw [List.filterMap_cons, e, e2, List.map_cons, ih fun q hq => hm q (List.mem_cons_of_mem _ hq)]
    exact go _ fun m hm => List.mem_range.mp hm
  rw [h1]
  by_cases hi : i < xs.length
  · have hl : xs.length - 1 - i < xs.length := by omega
    rw [List.getElem?_map, List.getElem?_range hi, List.getElem?_reverse hi]
    simp [hl]
  · rw [List.getElem?_eq_none (by simp; omega), List.getElem?_eq_none (by simp; omega)]
theorem places_down (n : Nat) : Builtin.Slice.slicePlaces ((n : Int) - 1) (-1) (-1) = n := by
  unfold Builtin.Slice.slicePlaces
  rw [if_neg (by decide)]
  split
  · rw [show (-(-1 : Int)) = 1 by decide, Int.ediv_one]; omega
  · omega
theorem tuple_rev {t sl : Addr} {its : List Value} {tk : Tok} {Q : Value → Shared → Prop} (ht : IsTup s.heap t its.toArray) (hs : s.heap.IsSliceOf sl .none .none (.int (-1) tk)) (hz : its.length ≤ sizeLine)
    (h : Q (.ref s.heap.objs.size) { s with heap := s.heap.push { cls := .type "tuple", data := .seq its.reverse.toArray } }) : wpAny (model prog w) A (getItem (.ref t) (.ref sl)) Q E s := by
  have hz2 : sizeOk (.seq its.reverse.toArray) := by
    show its.reverse.toArray.size ≤ sizeLine
    rw [List.size_toArray, List.length_reverse]; exact hz
  obtain ⟨so, h1, h2, h3⟩ := id hs
  have hT : s.TypeIs (.ref sl) "slice" := ⟨so, h1, h2⟩
  unfold getItem
  (try (with_reducible refine wpAny_holding ?_))
  (first | refine wpAny_bind (wpAny_pure ?_) | skip)
  refine wpAny_bind (wpAny_sequenceKey ht.typeIs (by decide) ?_)
  refine wpAny_bind (wpAny_callSpecial?_slot (name := Str.ofString "__getitem__") ht.typeIs PyProof.Rows.slot_tuple_getitem (wpAny_call_entry PyProof.Rows.slot_tuple_getitem ht.typeIs PyProof.Rows.entry_tuple_getitem ?_ (PyProof.Rows.args_tuple_getitem _ _)))
  show wpAny _ _ (Builtin.Tuple.tupleItemsOf (.ref t) >>= _) _ _ s
  refine wpAny_bind (tupleItemsOf_ ht ?_)
  refine wpAny_bind (wpAny_typeOf hT ?_)
  rw [if_pos (by decide)]
  have ap : ∀ {R : Int × Int × Nat → Shared → Prop} {E' : Value → Shared → Prop} {A' : Around}, R ((its.length : Int) - 1, -1, its.length) s → wpAny (model prog w) A' (Builtin.Slice.sliceApplied (.ref sl) (pure ((its.length : Nat) : Int))) R E' s := fun {R E' A'} q => by
    unfold Builtin.Slice.sliceApplied Builtin.Slice.sliceFields
    refine wpAny_bind (wpAny_bind (wpAny_field h1 h3 (x := .none) rfl (wpAny_bind (wpAny_field h1 h3 (x := .none) rfl (wpAny_bind (wpAny_field h1 h3 (x := .int (-1) tk) rfl (wpAny_pure ?_)))))))
    refine wpAny_bind (slicePart_int ?_)
    show wpAny _ _ (if ((-1 : Int) == 0) = true then _ else _) _ _ s
    rw [if_neg (by decide)]
    refine wpAny_bind (slicePart_none (wpAny_bind (slicePart_none (wpAny_bind (wpAny_pure ?_)))))
    show wpAny _ _ (pure (((its.length : Nat) : Int) - 1, (-1 : Int), Builtin.Slice.slicePlaces (((its.length : Nat) : Int) - 1) (-1) (-1))) _ _ s
    rw [places_down]
    exact wpAny_pure q
  have e1 : its.toArray.size = its.length := List.size_toArray
  rw [e1]
  refine wpAny_bind (ap ?_)
  have hno : ¬ ((((its.length : Int) - 1 == 0) && ((-1 : Int) == 1) && (its.length == its.length)) = true) := by
    rw [show ((-1 : Int) == 1) = false by decide, Bool.and_false, Bool.false_and]; exact Bool.false_ne_true
  show wpAny _ _ (if (((its.length : Int) - 1 == 0) && ((-1 : Int) == 1) && (its.length == its.length)) = true then _ else _) _ _ s
  rw [if_neg hno, rev_all]
  first
    | exact wpAny_bind (m := Builtin.Tuple.tupleExact _) (wpAny_newObj_type (wpAny_pure ⟨_, rfl, wpAny_pure h⟩) hz2)
    | exact wpAny_bind (m := Builtin.Tuple.tupleExact _) (wpAny_newObj_type (wpAny_bind (wpAny_pure (wpAny_pure ⟨_, rfl, wpAny_pure h⟩))) hz2)
    | exact wpAny_bind (wpAny_bind (m := Builtin.Tuple.tupleExact _) (wpAny_newObj_type (wpAny_pure (wpAny_pure ⟨_, rfl, wpAny_pure h⟩)) hz2))
    | exact wpAny_bind (wpAny_bind (m := Builtin.Tuple.tupleExact _) (wpAny_newObj_type (wpAny_pure ⟨_, rfl, wpAny_pure h⟩) hz2))
end
section
variable {X : Cx} {L : Lk} {T : Tb} {κ : Ctx} {W : WX} {ga gb gc : SE} {e a b c : Expr} {pos : Pos} {E : XK}
theorem pe_revT {k : Nat} {p1 p2 p3 : Pos} {te : TE} (he : PE X e te) : PE X (.Subscript e (.Slice none none (some (.UnaryOp .USub (.Constant (.int 1) k p1) p2)) p3) pos)
    (fun σ H Q => te σ H fun x H1 => ∃ a xs, x = .ref a ∧ SqT X.K H1 a xs ∧ ∀ p, H1 p = none → Q (.ref p) (upd H1 p (.tup xs.reverse))) := by
  refine ⟨fun pins s σ H Q I h => Subscript_ (thn (he.run pins s σ H _ I h) fun v s1 ⟨x, H1, I1, r1, a, xs, ex, hx, q⟩ => ?_)⟩
  subst ex
  cases r1
  have hst : PO X (some (.UnaryOp .USub (.Constant (.int 1) k p1) p2)) (tPart (tUn (rU fun i => .int (-i)) (tC (.int 1)))) := po_some (pe_un un_neg pe_int)
  refine wpAny_Slice (thn (po_none.run pins s1 σ H1 (fun o H2 => o = none ∧ H2 = H1) I1 ⟨rfl, rfl⟩) fun vl s2 ⟨l, H2, I2, pl, el, e2⟩ => ?_)
  subst el e2
  refine thn (po_none.run pins s2 σ H2 (fun o H3 => o = none ∧ H3 = H2) I2 ⟨rfl, rfl⟩) fun vu s3 ⟨u, H3, I3, pu, eu, e3⟩ => ?_
  subst eu e3
  refine thn (hst.run pins s3 σ H3 (fun o H4 => o = some (-1) ∧ H4 = H3) I3 ⟨1, rfl, -1, rfl, rfl, rfl⟩) fun vs s4 ⟨o, H4, I4, ps, eo, e4⟩ => ?_
  subst eo e4
  have I5 : L2.Inv X pins σ H4 { s4 with heap := s4.heap.push { cls := .type "slice", data := .fields #[vl, vu, vs] } } := I4.kept (t' := s4.toks) fun b ob q => Heap.get?_push_of_some _ q
  obtain ⟨its, r, ht, hz⟩ := I5.tuple hx
  have hlen := r.length
  cases pl
  cases pu
  obtain ⟨tk, rfl⟩ : ∃ tk, vs = .int (-1) tk := by cases ps; exact ⟨_, rfl⟩
  show wpAny (model X.prog X.w) X.A (subscriptTail e (.Slice none none (some (.UnaryOp .USub (.Constant (.int 1) k p1) p2)) p3) (.ref a) (.ref s4.heap.objs.size)) (EP X pins σ Q) X.xe _
  refine tail_any (ops := [.ref a, .ref s4.heap.objs.size]) (PyProof.Rows.IsTup.typeIs ht) (PyProof.Rows.slot_tuple_getitem.lookup) ?_ (by with_unfolding_all rfl)
  refine tuple_rev ht (Heap.IsSliceOf.new _ .none .none (.int (-1) tk)) (by omega) ?_
  refine ⟨.ref _, _, I5.laid (t' := s4.toks) (o := .tup xs.reverse) (fun b ob q => Heap.get?_push_of_some _ q) (Nat.le_refl _) ?_, rfl, q _ (I5.hok.fresh (Nat.le_refl _))⟩
  exact ⟨by rw [List.length_reverse]; exact hz, _, r.reverse, IsTup.new _ _⟩
end
end PK
end

section
set_option Elab.async false
set_option linter.all false
set_option maxHeartbeats 4000000
set_option maxRecDepth 100000
/-! PKp: [::-1], chains, {}, sorted, names of the module. -/
namespace PK
open PySem L2 PySem.Spec PyProof.Rows

section
variable {X : Cx} {L : Lk} {T : Tb} {κ : Ctx} {W : WX} {ga gb gc : SE} {e a b c : Expr} {pos : Pos} {E : XK}
theorem de_rev {k : Nat} {p1 p2 p3 : Pos} (he : DE X L κ W e ga) : DE X L κ W (.Subscript e (.Slice none none (some (.UnaryOp .USub (.Constant (.int 1) k p1) p2)) p3) pos) (sUn dRev ga) := by
  refine ⟨fun pins s σ H Q I ⟨ρ, ads, M, re, rm, h⟩ => ?_⟩
  unfold sUn at h
  by_cases hT : ∃ xs M', ga κ ρ M = .ok (.tup xs) M'
  · obtain ⟨xs, M', e1⟩ := hT
    refine (pe_revT (k := k) (p1 := p1) (p2 := p2) (p3 := p3) (pos := pos) he).run pins s σ H Q I ⟨ρ, ads, M, re, rm, ?_⟩
    rw [e1] at h ⊢
    intro ads1 H1 v A1 m1 r
    have h := OutP.after h A1 m1
    simp only [RepD] at r
    obtain ⟨p, vs, rfl, hq, rl⟩ := r
    refine ⟨p, vs, rfl, hq, fun q hq' => OutP.new h m1 hq' ?_⟩
    simp only [RepD]
    exact ⟨q, _, rfl, .of upd_same, rl.reverse.new hq'⟩
  · refine (pe_revL (k := k) (p1 := p1) (p2 := p2) (p3 := p3) (pos := pos) he).run pins s σ H Q I ⟨ρ, ads, M, re, rm, ?_⟩
    cases e1 : ga κ ρ M with
    | bad => rw [e1] at h; exact h
    | exc x M' => rw [e1] at h; exact h
    | ok d M' =>
      rw [e1] at h
      intro ads1 H1 v A1 m1 r
      have h := OutP.after h A1 m1
      cases d with
      | tup xs => exact absurd ⟨xs, M', e1⟩ hT
      | loc n =>
        (try simp only [dRev, Out.bind] at h)
        (try unfold dRev at h)
        cases e2 : rdL M' n with
        | none => rw [e2] at h; exact h.elim
        | some xs =>
          rw [e2] at h
          simp only [RepD] at r
          obtain ⟨hn, rfl⟩ := r
          obtain ⟨vs, _, hq, rl⟩ := rep_rd m1 e2
          exact ⟨_, vs, rfl, hq, fun q hq' => OutP.alloc h m1 hq' ⟨_, upd_same, ((rl.up' hn).reverse).new hq'⟩⟩
      | _ => exact h.elim
/-- a < b < c -/
theorem de_chain {op op' : CmpOp} {f g : D → D → Mem → Out} (ha : DE X L κ W a ga) (hb : DE X L κ W b gb) (hc : DE X L κ W c gc) (ho : ∀ E, OpR X (compareOp op) (r2 X.K L E f)) (ho' : ∀ E, OpR X (compareOp op') (r2 X.K L E g)) (hm : lastMarks [op, op'] [b, c] = false) :
    DE X L κ W (.Compare a [op, op'] [b, c] pos) (sChain f g ga gb gc) := by
  refine ⟨fun pins s σ H Q I ⟨ρ, ads, M, re, rm, h⟩ => (pe_chain (pos := pos) (ho (fun c d H' => W c d σ H')) (ho' (fun c d H' => W c d σ H')) ha hb hc hm).run pins s σ H Q I ?_⟩
  unfold sChain at h
  refine (tD.bind (ga := ga) re rm h).mono fun x H1 ⟨d1, ads1, M1, A1, m1, re1, r1, q1⟩ => ?_
  refine (tD.bind (ga := gb) re1 m1 q1).mono fun y H2 ⟨d2, ads2, M2, A2, m2, re2, r2', q2⟩ => ?_
  refine ⟨d1, d2, ads2, M2, m2, r1.on m1 A2, r2', (OutP.bind q2).mono fun z H3 ⟨d3, ads3, M3, A3, m3, r3, _, q3⟩ => ?_⟩
  split at q3
  · simp only [RepD] at r3
    refine ⟨true, r3, ?_⟩
    rw [if_pos rfl]
    exact (tD.bind (ga := gc) (re2.on m2 A3) m3 q3).mono fun w H4 ⟨d4, ads4, M4, A4, m4, re4, r4, q4⟩ => ⟨d2, d4, ads4, M4, m4, (r2'.on m2 A3).on m3 A4, r4, q4⟩
  · simp only [RepD] at r3
    refine ⟨false, r3, ?_⟩
    rw [if_neg Bool.false_ne_true]
    exact q3.now m3 (by simp only [RepD])
  · exact q3.elim
theorem dt_chain {op op' : CmpOp} {f g : D → D → Mem → Out} (ha : DE X L κ W a ga) (hb : DE X L κ W b gb) (hc : DE X L κ W c gc) (ho : ∀ E, OpR X (compareOp op) (r2 X.K L E f)) (ho' : ∀ E, OpR X (compareOp op') (r2 X.K L E g)) (hm : lastMarks [op, op'] [b, c] = false) :
    DT X L κ W (.Compare a [op, op'] [b, c] pos) (sChain f g ga gb gc) := by
  refine ⟨fun pins s σ H Q I ⟨ρ, ads, M, re, rm, h⟩ => (pt_chain (pos := pos) (ho (fun c d H' => W c d σ H')) (ho' (fun c d H' => W c d σ H')) ha hb hc hm).run pins s σ H Q I ?_⟩
  unfold sChain at h
  refine (tD.bind (ga := ga) re rm h).mono fun x H1 ⟨d1, ads1, M1, A1, m1, re1, r1, q1⟩ => ?_
  refine (tD.bind (ga := gb) re1 m1 q1).mono fun y H2 ⟨d2, ads2, M2, A2, m2, re2, r2', q2⟩ => ?_
  refine ⟨d1, d2, ads2, M2, m2, r1.on m1 A2, r2', (OutP.bind q2).mono fun z H3 ⟨d3, ads3, M3, A3, m3, r3, _, q3⟩ => ?_⟩
  split at q3
  · simp only [RepD] at r3
    refine ⟨true, r3, ?_⟩
    rw [if_pos rfl]
    exact (tD.bind (ga := gc) (re2.on m2 A3) m3 q3).mono fun w H4 ⟨d4, ads4, M4, A4, m4, re4, r4, q4⟩ => ⟨d2, d4, ads4, M4, m4, (r2'.on m2 A3).on m3 A4, r4, q4⟩
  · simp only [RepD] at r3
    refine ⟨false, r3, ?_⟩
    rw [if_neg Bool.false_ne_true]
    exact q3.now m3 (by simp only [RepD])
  · exact q3.elim
theorem de_dict : DE X L κ W (.Dict [] [] pos) sDict := pe_dnewK.imp fun σ H Q ⟨ρ, ads, M, re, rm, h⟩ p hp => h.alloc rm hp ⟨[], upd_same, .nil⟩
/-- a def's name as a value -/
theorem de_fn {x : Str} {f : Nat} (hg : Gl X x) (hm : X.mg x = some (.ref (L.fa f))) (hdb : (x == ("__debug__" : Str)) = false) : DE X L κ W (.Name x pos) (sC (.fn f)) :=
  de_const (pe_glob (v := .ref (L.fa f)) hg hm rfl hdb) fun _ _ _ => by simp only [RepD]
/-- a constant dict of the module -/
theorem de_kd {x : Str} {n : Nat} (hg : Gl X x) (hm : X.mg x = some (.ref (L.kd n))) (hdb : (x == ("__debug__" : Str)) = false) : DE X L κ W (.Name x pos) (sC (.kd n)) :=
  de_const (pe_glob (v := .ref (L.kd n)) hg hm rfl hdb) fun _ _ _ => by simp only [RepD]
/-- a constant of the module -/
def CstOk (K : PySem.W.Frag) (mg : Str → Option Value) (L : Lk) (x : Str) (d : D) : Prop := ∃ (u : Value) (v : V), mg x = some u ∧ RelV v u ∧ ∀ ads k H, RepD K L ads k H d v
theorem de_cst {x : Str} {d : D} (hg : Gl X x) (h : CstOk X.K X.mg L x d) (hdb : (x == ("__debug__" : Str)) = false) : DE X L κ W (.Name x pos) (sC d) := by
  obtain ⟨u, v, hm, rv, r⟩ := h
  exact de_const (pe_glob hg hm rv hdb) r
/-! sorted -/
theorem leL_lt : ∀ a b : List Nat, leL a b = !ltCps b a
  | [], [] => rfl
  | [], _ :: _ => rfl
  | _ :: _, [] => rfl
  | a :: r, b :: s => by
    unfold leL ltCps
    by_cases h1 : a < b
    · rw [if_pos h1]
      have h2 : ¬ b < a := by omega
      have h3 : (b == a) = false := by simp; omega
      simp [h2, h3]
    · rw [if_neg h1]
      by_cases h2 : b < a
      · rw [if_pos h2]; simp [h2]
      · rw [if_neg h2, leL_lt r s]
        have : a = b := by omega
        subst this
        simp
theorem leL_anti : ∀ {a b : List Nat}, leL a b = true → leL b a = true → a = b
  | [], [], _, _ => rfl
  | [], _ :: _, _, h => by simp [leL] at h
  | _ :: _, [], h, _ => by simp [leL] at h
  | a :: r, b :: s, h1, h2 => by
    unfold leL at h1 h2
    by_cases c1 : a < b
    · have c2 : ¬ b < a := by omega
      rw [if_neg c2, if_pos c1] at h2; cases h2
    · by_cases c2 : b < a
      · rw [if_neg c1, if_pos c2] at h1; cases h1
      · rw [if_neg c1, if_neg c2] at h1
        rw [if_neg c2, if_neg c1] at h2
        have : a = b := by omega
        subst this
        rw [leL_anti h1 h2]
theorem leL_total (a b : List Nat) (h : leL a b = false) : leL b a = true := by
  induction a generalizing b with
  | nil => simp [leL] at h
  | cons x r ih =>
    cases b with
    | nil => rfl
    | cons y s =>
      unfold leL at h ⊢
      by_cases c1 : x < y
      · rw [if_pos c1] at h; cases h
      · rw [if_neg c1] at h
        by_cases c2 : y < x
        · rw [if_pos c2]
        · rw [if_neg c2] at h
          rw [if_neg c2, if_neg c1]
          exact ih s h
theorem leL_trans : ∀ {a b c : List Nat}, leL a b = true → leL b c = true → leL a c = true
  | [], _, _, _, _ => by simp [leL]
  | _ :: _, [], _, h, _ => by simp [leL] at h
  | _ :: _, _ :: _, [], _, h => by simp [leL] at h
  | x :: a, y :: b, z :: c, h1, h2 => by
    unfold leL at h1 h2 ⊢
    by_cases c1 : x < y
    · by_cases c2 : y < z
      · rw [if_pos (by omega)]
      · rw [if_neg c2] at h2
        by_cases c3 : z < y
        · rw [if_pos c3] at h2; cases h2
        · rw [if_pos (by omega)]
    · rw [if_neg c1] at h1
      by_cases c2 : y < x
      · rw [if_pos c2] at h1; cases h1
      · rw [if_neg c2] at h1
        have : x = y := by omega
        subst this
        by_cases c3 : x < z
        · rw [if_pos c3]
        · rw [if_neg c3] at h2 ⊢
          by_cases c4 : z < x
          · rw [if_pos c4] at h2; cases h2
          · rw [if_neg c4] at h2 ⊢
            exact leL_trans h1 h2
theorem insI_perm (x : Int) : ∀ l, (insI x l).Perm (x :: l)
  | [] => .refl _
  | y :: r => by
    unfold insI
    split
    · exact .refl _
    · exact ((insI_perm x r).cons y).trans (.swap x y r)
theorem sortI_perm : ∀ l, (sortI l).Perm l
  | [] => .refl _
  | x :: r => (insI_perm x _).trans ((sortI_perm r).cons x)
theorem insI_sorted (x : Int) : ∀ {l : List Int}, l.Pairwise (· ≤ ·) → (insI x l).Pairwise (· ≤ ·)
  | [], _ => by simp [insI]
  | y :: r, h => by
    unfold insI
    have h' := List.pairwise_cons.mp h
    split
    · rename_i hx
      refine List.pairwise_cons.mpr ⟨fun z hz => ?_, h⟩
      rcases List.mem_cons.mp hz with e | hz
      · rw [e]; exact hx
      · exact Int.le_trans hx (h'.1 z hz)
    · rename_i hx
      refine List.pairwise_cons.mpr ⟨fun z hz => ?_, insI_sorted x h'.2⟩
      rcases List.mem_cons.mp ((insI_perm x r).mem_iff.mp hz) with e | hz
      · rw [e]; omega
      · exact h'.1 z hz
theorem sortI_sorted : ∀ l, (sortI l).Pairwise (· ≤ ·)
  | [] => .nil
  | x :: r => insI_sorted x (sortI_sorted r)
theorem insS_perm (x : List Nat) : ∀ l, (insS x l).Perm (x :: l)
  | [] => .refl _
  | y :: r => by
    unfold insS
    split
    · exact .refl _
    · exact ((insS_perm x r).cons y).trans (.swap x y r)
theorem sortS_perm : ∀ l, (sortS l).Perm l
  | [] => .refl _
  | x :: r => (insS_perm x _).trans ((sortS_perm r).cons x)
theorem insS_sorted (x : List Nat) : ∀ {l : List (List Nat)}, l.Pairwise (fun a b => leL a b = true) → (insS x l).Pairwise (fun a b => leL a b = true)
  | [], _ => by simp [insS]
  | y :: r, h => by
    unfold insS
    have h' := List.pairwise_cons.mp h
    split
    · rename_i hx
      refine List.pairwise_cons.mpr ⟨fun z hz => ?_, h⟩
      rcases List.mem_cons.mp hz with e | hz
      · rw [e]; exact hx
      · exact leL_trans hx (h'.1 z hz)
    · rename_i hx
      refine List.pairwise_cons.mpr ⟨fun z hz => ?_, insS_sorted x h'.2⟩
      rcases List.mem_cons.mp ((insS_perm x r).mem_iff.mp hz) with e | hz
      · rw [e]; exact leL_total _ _ (by simpa using hx)
      · exact h'.1 z hz
theorem sortS_sorted : ∀ l, (sortS l).Pairwise (fun a b => leL a b = true)
  | [] => .nil
  | x :: r => insS_sorted x (sortS_sorted r)
theorem pair_of_sorted : ∀ {ys : List Str}, sortedS ys = true → (ys.map fun y => y.cps.toList).Pairwise (fun a b => leL a b = true) := by
  have go : ∀ (p : Str) (ys : List Str), risingS p ys = true → ((p :: ys).map fun y => y.cps.toList).Pairwise (fun a b => leL a b = true) := by
    intro p ys
    induction ys generalizing p with
    | nil => intro _; simp
    | cons y r ih =>
      intro h
      simp only [risingS, Bool.and_eq_true] at h
      have hp : leL p.cps.toList y.cps.toList = true := by rw [leL_lt]; exact h.1
      have hr := ih y h.2
      rw [List.map_cons]
      refine List.pairwise_cons.mpr ⟨fun z hz => ?_, hr⟩
      rw [List.map_cons] at hz hr
      rcases List.mem_cons.mp hz with e | hz
      · rw [e]; exact hp
      · exact leL_trans hp ((List.pairwise_cons.mp hr).1 z hz)
  intro ys h
  cases ys with
  | nil => exact .nil
  | cons y r => exact go y r h
theorem sorted_same {ys : List Str} {ss : List (List Nat)} (hp : ys.Perm (ss.map fun s => (⟨s.toArray⟩ : Str))) (h : sortedS ys = true) : ys = (sortS ss).map fun s => (⟨s.toArray⟩ : Str) := by
  have e : (ys.map fun y => y.cps.toList) = sortS ss := by
    refine List.Perm.eq_of_pairwise (le := fun a b => leL a b = true) (fun a b _ _ h1 h2 => leL_anti h1 h2) (pair_of_sorted h) (sortS_sorted ss) ?_
    refine ((hp.map fun y => y.cps.toList).trans ?_).trans (sortS_perm ss).symm
    rw [List.map_map]
    have : ((fun y : Str => y.cps.toList) ∘ fun s : List Nat => (⟨s.toArray⟩ : Str)) = id := by funext s; simp
    rw [this, List.map_id]
  rw [← e, List.map_map]
  have : ((fun s : List Nat => (⟨s.toArray⟩ : Str)) ∘ fun y : Str => y.cps.toList) = id := by funext s; simp
  rw [this, List.map_id]
theorem call_dSorted (hc : X.calm = true) : CallR X (.builtin "sorted") (rN X.K L E (one dSorted)) := by
  intro pins s σ H xs us Q I rv ⟨ds, ads, M, m, q, h⟩
  unfold one at h
  split at h
  · rename_i d M
    simp only [RepL] at q
    obtain ⟨v, r, rfl, q, rfl⟩ := q
    unfold dSorted at h
    split at h
    · rename_i a
      simp only [RepD] at q
      obtain ⟨hn, rfl⟩ := q
      split at h
      · -- a list
        rename_i ys e1
        obtain ⟨vs, _, hq, rl⟩ := rep_rd m e1
        unfold sortD at h
        split at h
        · rename_i ns e2
          have hv := rep_ints rl e2
          subst hv
          refine cr_sortedI pins s σ H _ us Q I rv ⟨_, ns, rfl, hq, fun ns' p hp hs hp0 => ?_⟩
          have := PySem.W.ksm_same (hp.trans (sortI_perm ns).symm) hs (sortI_sorted ns)
          subst this
          exact h.alloc m hp0 ⟨_, upd_same, RepL.map_of (fun i => by simp only [RepD]) _⟩
        · rename_i ss e2 e3
          split at h
          · rename_i h64
            have hv := rep_strs rl e3
            subst hv
            refine cr_sortedS pins s σ H _ us Q I rv ⟨_, ss.map fun s => (⟨s.toArray⟩ : Str), rfl, hq, by rw [List.length_map]; exact h64, fun ys p hp hs hp0 => ?_⟩
            have := sorted_same hp hs
            subst this
            rw [List.map_map]
            exact h.alloc m hp0 ⟨_, upd_same, RepL.map_of (fun i => by simp only [RepD, Function.comp]) _⟩
          · exact h.elim
        · exact h.elim
      · -- a dict
        rename_i kvs e0 e1
        obtain ⟨ws, _, _, hH, hp⟩ := rep_dic m e1
        split at h
        · rename_i hk64
          unfold sortD at h
          split at h
          · rename_i ns e2
            have hk : ws.map (·.1) = ns.map Sum.inl := by
              have go : ∀ {kvs : List (D × D)} {ws : List (Key × V)} {ns : List Int}, Paired (fun (p : D × D) (q : Key × V) => keyV p.1 = some q.1 ∧ RepD X.K L ads a H p.2 q.2) kvs ws → intsOf (kvs.map (·.1)) = some ns → ws.map (·.1) = ns.map Sum.inl := by
                intro kvs ws ns hp
                induction hp generalizing ns with
                | nil => intro e; simp [intsOf] at e; subst e; rfl
                | @cons p q ps qs r t ih =>
                  intro e
                  obtain ⟨pk, pv⟩ := p
                  cases pk with
                  | int i =>
                    simp only [List.map_cons, intsOf, Option.map_eq_some_iff] at e
                    obtain ⟨n2, e2, rfl⟩ := e
                    simp only [keyV, Option.some.injEq] at r
                    rw [List.map_cons, List.map_cons, ih e2, r.1]
                  | _ => simp [intsOf] at e
              exact go hp e2
            have hlen : ns.length = kvs.length := by
              have := congrArg List.length hk
              simp only [List.length_map] at this
              rw [← this, Paired.length hp]
            refine call_sortedDI hc pins s σ H _ us Q I rv ⟨_, ws, ns, rfl, .of hH, hk, by omega, fun ns' p hp' hs hp0 => ?_⟩
            have := PySem.W.ksm_same (hp'.trans (sortI_perm ns).symm) hs (sortI_sorted ns)
            subst this
            exact h.alloc m hp0 ⟨_, upd_same, RepL.map_of (fun i => by simp only [RepD]) _⟩
          · rename_i ss e2 e3
            split at h
            · rename_i h64
              have hk : ws.map (·.1) = (ss.map fun s => (⟨s.toArray⟩ : Str)).map Sum.inr := by
                have go : ∀ {kvs : List (D × D)} {ws : List (Key × V)} {ss : List (List Nat)}, Paired (fun (p : D × D) (q : Key × V) => keyV p.1 = some q.1 ∧ RepD X.K L ads a H p.2 q.2) kvs ws → strsOf (kvs.map (·.1)) = some ss → ws.map (·.1) = (ss.map fun s => (⟨s.toArray⟩ : Str)).map Sum.inr := by
                  intro kvs ws ss hp
                  induction hp generalizing ss with
                  | nil => intro e; simp [strsOf] at e; subst e; rfl
                  | @cons p q ps qs r t ih =>
                    intro e
                    obtain ⟨pk, pv⟩ := p
                    cases pk with
                    | str i =>
                      simp only [List.map_cons, strsOf, Option.map_eq_some_iff] at e
                      obtain ⟨n2, e2, rfl⟩ := e
                      simp only [keyV, Option.some.injEq] at r
                      rw [List.map_cons, List.map_cons, List.map_cons, ih e2, r.1]
                    | _ => simp [strsOf] at e
                exact go hp e3
              refine call_sortedD hc pins s σ H _ us Q I rv ⟨_, ws, _, rfl, .of hH, hk, by rw [List.length_map]; exact h64, fun ys p hp' hs hp0 => ?_⟩
              have := sorted_same hp' hs
              subst this
              rw [List.map_map]
              exact h.alloc m hp0 ⟨_, upd_same, RepL.map_of (fun i => by simp only [RepD, Function.comp]) _⟩
            · exact h.elim
          · exact h.elim
        · exact h.elim
      · exact h.elim
    · exact h.elim
  · exact h.elim
end
end PK
end

section
set_option Elab.async false
set_option linter.all false
set_option maxHeartbeats 4000000
set_option maxRecDepth 100000
/-! PKq: a def; all defs, level by level; the law. -/
namespace PK
open PySem L2 PySem.Spec PyProof.Rows

/-- what a def promises -/
def spB (K : PySem.W.Frag) (L : Lk) (κ : Ctx) (d : Def) : Sp := fun vs H Q E => ∃ ds ads M, RepM K L ads H M ∧ RepL K L ads M.length H ds vs ∧ ds.length = d.np ∧ OutP K L ads M H (runDef d κ ds M) Q E
section
variable {P : Program} {w : World} {K : PySem.W.Frag} {mg : Str → Option Value} {base : Heap} {L : Lk} {T : Tb} {κ : Ctx}
theorem startE_rep {ads : Nat → Addr} {k : Nat} {H : Hp} {ds : List D} {vs : List V} {N : List Str} {n : Nat} (r : RepL K L ads k H ds vs) (hn : N.length = n) : RepE K L ads k H (startE n ds) (L2.start N vs) := by
  unfold startE L2.start
  have hl := r.length
  refine ⟨by simp [hl, hn], fun i d e => ?_⟩
  by_cases hi : i < ds.length
  · rw [List.getElem?_append_left (by simpa using hi), List.getElem?_map] at e
    obtain ⟨d', e1, e2⟩ := Option.map_eq_some_iff.mp e
    cases e2
    obtain ⟨v, e3, q⟩ := r.get e1
    refine ⟨v, ?_, q⟩
    rw [List.getElem?_append_left (by rw [List.length_map, ← hl]; exact hi), List.getElem?_map, e3]
    rfl
  · rw [List.getElem?_append_right (by simp; omega)] at e
    rw [List.getElem?_replicate] at e
    split at e <;> cases e
theorem def_ok {d : Def} {qual name : Str} {params : Arguments} {body : List Stmt} {scope : Scope} {dvs : List V} {kws : List (Str × V)} {f : Addr} {fd : FuncData} {N ps : List Str} (F : FunD K name qual params body scope dvs kws f fd) (S : FnScope N ps scope) (hnp : ps.length = d.np) (hns : N.length = d.ns)
    (Wl : Wrld P w K mg base L T κ)
    (hb : ∀ (cdv : Value) (A : Around) (outer : List PySem.Env) (s : Shared) (H : Hp) (E : XK), Sit (cxOf (L2.CX P w) P w K mg base N qual scope f cdv A outer s H E) L T κ (fun c d _ H => E c d H) →
      PassesOwn (model P w) (cxOf (L2.CX P w) P w K mg base N qual scope f cdv A outer s H E).A (cxOf (L2.CX P w) P w K mg base N qual scope f cdv A outer s H E).env (cxOf (L2.CX P w) P w K mg base N qual scope f cdv A outer s H E).xe →
      DB (cxOf (L2.CX P w) P w K mg base N qual scope f cdv A outer s H E) L κ (fun c d _ H => E c d H) body d.body) : FnOk P w K mg base (L2.CX P w) (κ.lev + 1) f fd ps (spB K L κ d) := by
  refine F.ok S (fun vs H Q E ⟨ds, ads, M, m, r, hl, _⟩ => by rw [← r.length, hl, hnp]) (fun cdv A outer s H vs Q E hr ⟨ds, ads, M, m, r, hl, h⟩ => ?_)
  refine ⟨_, hb cdv A outer s H E ⟨takes_of rfl rfl rfl rfl, hr, rfl, S.nd, Wl⟩ (passes_of rfl), ?_⟩
  refine ⟨startE d.ns ds, ads, M, startE_rep r hns, m, ?_⟩
  unfold runDef at h
  rw [if_pos hl] at h
  cases e : d.body κ (startE d.ns ds) M with
  | bad => rw [e] at h; exact h
  | bk ρ2 M2 => rw [e] at h; exact h.elim
  | ct ρ2 M2 => rw [e] at h; exact h.elim
  | nx ρ' M' =>
    rw [e] at h
    exact fun ads' H' σ' A' m' re => h ads' H' .non A'.take (m'.take _) (by simp only [RepD])
  | rt d' M' =>
    rw [e] at h
    intro ads' H' v A' m' r'
    obtain ⟨ads2, A2, m2, r2⟩ := gc_ok A' m' r'
    exact h ads2 H' v A2 m2 r2
  | exc x ρ' M' =>
    rw [e] at h
    exact fun ads' H' c dx σ' A' m' re rx => h ads' H' c dx A'.take (m'.take _) rx
/-- a def of the text, at every level; j of its defaults fill up -/
structure DOk (P : Program) (w : World) (K : PySem.W.Frag) (mg : Str → Option Value) (base : Heap) (L : Lk) (T : Tb) (Pg : Nat → Option Def) (wf f : Nat) (d : Def) : Prop where
  ok : ∃ (fd : FuncData) (ps : List Str), (∀ n, Wrld P w K mg base L T (ctxN Pg wf n) → FnOk P w K mg base (L2.CX P w) (n + 1) (L.fa f) fd ps (spB K L (ctxN Pg wf n) d)) ∧
    ∀ j, ∃ (us : List Value) (dvs : List V), Binds K fd ps us ∧ Vals dvs us ∧ ∀ ads k H, RepL K L ads k H ((L.df f).drop j) dvs
theorem wrld_all {Pg : Nat → Option Def} {wf : Nat} (kd : KdOk P w K L T) (hD : ∀ f d, Pg f = some d → DOk P w K mg base L T Pg wf f d) : ∀ n, Wrld P w K mg base L T (ctxN Pg wf n)
  | 0 => ⟨kd, fun f j A outer s H us vs Q E _ _ _ ⟨ds, ads, M, _, _, h⟩ => False.elim h⟩
  | n + 1 => by
    have W := wrld_all kd hD n
    refine ⟨kd, fun f j => ?_⟩
    cases e : Pg f with
    | none =>
      intro A outer s H us vs Q E _ _ _ ⟨ds, ads, M, _, _, h⟩
      exfalso
      have : (ctxN Pg wf (n + 1)).call f (ds ++ (L.df f).drop j) M = .bad := by
        show callN Pg wf (n + 1) f _ M = .bad
        unfold callN
        rw [e]
      rw [this] at h
      exact h
    | some d =>
      obtain ⟨fd, ps, h1, h2⟩ := (hD f d e).ok
      obtain ⟨us, dvs, hb, hv, hr⟩ := h2 j
      refine ((h1 n W).raw hb hv).imp fun vs H Q E ⟨ds, ads, M, m, r, h⟩ => ?_
      have e1 : (ctxN Pg wf (n + 1)).call f (ds ++ (L.df f).drop j) M = runDef d (ctxN Pg wf n) (ds ++ (L.df f).drop j) M := by
        show callN Pg wf (n + 1) f _ M = _
        unfold callN
        rw [e]
        rfl
      rw [e1] at h
      refine ⟨ds ++ (L.df f).drop j, ads, M, m, RepL.append r (hr _ _ _), ?_, h⟩
      unfold runDef at h
      split at h
      · assumption
      · exact h.elim
/-- the law's def: a list of at most 63 numbers; the answer is True -/
def spLaw63 (K : PySem.W.Frag) : Sp := fun vs H Q _ => ∃ (a : Addr) (ns : List Int), vs = [.ref a] ∧ ((∃ ob, H a = some (.frz ob (.lst (ns.map V.int)))) ∨ (∃ (o : Obj) (its : Array Value) (n : Nat), K.lookup a = some o ∧ o.cls = .type "list" ∧ o.dict = none ∧ o.data = .seq its n ∧ its.size ≤ sizeLine ∧ Vals (ns.map V.int) its.toList)) ∧
  ns.length ≤ 63 ∧ ∀ H', Q (.bl true) H'
theorem law_sp {d : Def} {H : Hp} {vs : List V} {Q : VK} {E : XK} (h : spLaw63 K vs H Q E) (hnp : d.np = 1) (law : ∀ ns : List Int, ns.length ≤ 63 → ∃ M', runDef d κ [.kst ns] [] = .ok (.bl true) M') : spB K L κ d vs H Q E := by
  obtain ⟨a, ns, rfl, ha, hl, q⟩ := h
  refine ⟨[.kst ns], fun _ => 0, [], ⟨fun n o e => by simp at e, fun i j hi => by simp at hi⟩, ?_, by simp [hnp], ?_⟩
  · simp only [RepL, RepD]
    exact ⟨_, [], rfl, ⟨a, rfl, ha⟩, rfl⟩
  · obtain ⟨M', e⟩ := law ns hl
    rw [e]
    intro ads' H' v A m r
    simp only [RepD] at r
    subst r
    exact q H'
theorem only_sp {H : Hp} {a : Addr} {ns : List Int} (hO : Only H) (hS : SqL K H a (ns.map V.int)) (hl : ns.length ≤ 63) : spLaw63 K [.ref a] H (fun v _ => v = .bl true) fun _ _ _ => False := by
  refine ⟨a, ns, rfl, ?_, hl, fun _ => rfl⟩
  rcases hS with (h | ⟨o, h⟩) | h
  · rcases hO a with z | ⟨o, xs, z⟩
    · rw [z] at h; cases h
    · rw [z] at h; cases h
  · exact .inl ⟨o, h⟩
  · exact .inr h
end
end PK
end

section
set_option Elab.async false
set_option linter.all false
set_option maxHeartbeats 4000000
set_option maxRecDepth 100000
/-! PKr: the rules as a printed derivation uses them (side conditions by the kernel). -/
namespace PK
open PySem L2 PySem.Spec PyProof.Rows

section
variable {X : Cx} {L : Lk} {T : Tb} {κ : Ctx} {W : WX} {ga gb gc : SE} {e a b c : Expr} {es : List Expr} {pos p p2 : Pos} {x : Str}
theorem gVL (i : Nat) (hN : X.N[i]? = some x := by kernel_rfl) (hv : X.env.scope.names.lookup x = some .local := by kernel_rfl) (hd : (x == ("__debug__" : Str)) = false := by kernel_rfl) (hcd : (x == ("__classdict__" : Str)) = false := by kernel_rfl) : DE X L κ W (.Name x pos) (sVar i) :=
  de_var hN (.inl hv) hd hcd
theorem gVC (i : Nat) (hN : X.N[i]? = some x := by kernel_rfl) (hv : X.env.scope.names.lookup x = some .cell := by kernel_rfl) (hd : (x == ("__debug__" : Str)) = false := by kernel_rfl) (hcd : (x == ("__classdict__" : Str)) = false := by kernel_rfl) : DE X L κ W (.Name x pos) (sVar i) :=
  de_var hN (.inr (.inl hv)) hd hcd
theorem gStr {j : Nat} {l : List Nat} (h : x.cps.toList = l) : DE X L κ W (.Constant (.str x) j pos) (sC (.str l)) := h ▸ de_str
theorem gCons (ha : DE X L κ W e ga) (hr : DA X L κ W es gb) (hs : starEach (e :: es) X.env = (false, eval e X.env) :: starEach es X.env := by kernel_rfl) : DA X L κ W (e :: es) (sCons ga gb) := da_cons ha hr hs
/-- a def of the text at f -/
structure DefAt (K : PySem.W.Frag) (mg : Str → Option Value) (L : Lk) (x : Str) (f : Nat) : Prop where
  m : mg x = some (.ref (L.fa f))
  k : PySem.W.keepIn K (.ref (L.fa f)) = true
theorem gCall (S : Sit X L T κ W) {f : Nat} (j : Nat) (D : DefAt X.K X.mg L x f) (ha : DA X L κ W (e :: es) ga) (hg : Gl X x := by unfold L2.Gl; kernel_rfl) (hdb : (x == ("__debug__" : Str)) = false := by kernel_rfl)
    (he : starEach (e :: es) X.env = (false, eval e X.env) :: starEach es X.env := by kernel_rfl) (hpl : (backTo pos (starEach es X.env)).any (·.1) = false := by kernel_rfl) : DE X L κ W (.Call (.Name x p) (e :: es) [] pos) (sCall f ((L.df f).drop j) ga) :=
  de_call S hg D.m D.k ha hdb he hpl
theorem gCall0 (S : Sit X L T κ W) {f : Nat} (j : Nat) (D : DefAt X.K X.mg L x f) (hg : Gl X x := by unfold L2.Gl; kernel_rfl) (hdb : (x == ("__debug__" : Str)) = false := by kernel_rfl) : DE X L κ W (.Call (.Name x p) [] [] pos) (sCall f ((L.df f).drop j) sNil) :=
  de_call0 S hg D.m D.k hdb
theorem gFn {f : Nat} (D : DefAt X.K X.mg L x f) (hg : Gl X x := by unfold L2.Gl; kernel_rfl) (hdb : (x == ("__debug__" : Str)) = false := by kernel_rfl) : DE X L κ W (.Name x pos) (sC (.fn f)) := de_fn hg D.m hdb
theorem gCallV (S : Sit X L T κ W) (i : Nat) (hk : ∀ f, PySem.W.keepIn X.K (.ref (L.fa f)) = true) (ha : DA X L κ W (e :: es) ga) (hN : X.N[i]? = some x := by kernel_rfl) (hv : X.env.scope.names.lookup x = some .local := by kernel_rfl) (hdb : (x == ("__debug__" : Str)) = false := by kernel_rfl) (hcd : (x == ("__classdict__" : Str)) = false := by kernel_rfl)
    (he : starEach (e :: es) X.env = (false, eval e X.env) :: starEach es X.env := by kernel_rfl) (hpl : (backTo pos (starEach es X.env)).any (·.1) = false := by kernel_rfl) : DE X L κ W (.Call (.Name x p) (e :: es) [] pos) (sCallV i ga) :=
  de_callV S hN (.inl hv) hk ha hdb hcd he hpl
theorem gB {id : String} {f : List D → Mem → Out} (ho : ∀ E, CallR X (.builtin id) (rN X.K L E f)) (hv : bootBuiltins x = some (.builtin id)) (hm : X.mg x = none) (ha : DA X L κ W (e :: es) ga) (hg : Gl X x := by unfold L2.Gl; kernel_rfl) (hn : x ≠ "__name__" := by decide) (hdb : (x == ("__debug__" : Str)) = false := by kernel_rfl)
    (he : starEach (e :: es) X.env = (false, eval e X.env) :: starEach es X.env := by kernel_rfl) (hpl : (backTo pos (starEach es X.env)).any (·.1) = false := by kernel_rfl) : DE X L κ W (.Call (.Name x p) (e :: es) [] pos) (sRow f ga) :=
  de_callB ho hg hm hv ha hn hdb he hpl
theorem gTy {id : String} {f : List D → Mem → Out} (ho : ∀ E, CallR X (.type id) (rN X.K L E f)) (hv : bootBuiltins x = some (.type id)) (hm : X.mg x = none) (ha : DA X L κ W (e :: es) ga) (hg : Gl X x := by unfold L2.Gl; kernel_rfl) (hn : x ≠ "__name__" := by decide) (hdb : (x == ("__debug__" : Str)) = false := by kernel_rfl)
    (he : starEach (e :: es) X.env = (false, eval e X.env) :: starEach es X.env := by kernel_rfl) (hpl : (backTo pos (starEach es X.env)).any (·.1) = false := by kernel_rfl) : DE X L κ W (.Call (.Name x p) (e :: es) [] pos) (sRow f ga) :=
  de_callTy ho hg hm hv ha hn hdb he hpl
theorem gIsi {t : Ty} (ht : ∀ c, t ≠ .own c) (hv2 : bootBuiltins x = some (.type t.nm)) (hm : X.mg "isinstance" = none) (hm2 : X.mg x = none) (ha : DE X L κ W e ga) (hg : Gl X "isinstance" := by unfold L2.Gl; kernel_rfl) (hg2 : Gl X x := by unfold L2.Gl; kernel_rfl) (hn2 : x ≠ "__name__" := by decide) (hd2 : (x == ("__debug__" : Str)) = false := by kernel_rfl)
    (he : starEach [e, .Name x p2] X.env = (false, eval e X.env) :: starEach [.Name x p2] X.env := by kernel_rfl) (hpl : (backTo pos (starEach [.Name x p2] X.env)).any (·.1) = false := by kernel_rfl) (he2 : starEach [.Name x p2] X.env = [(false, eval (.Name x p2) X.env)] := by kernel_rfl) : DE X L κ W (.Call (.Name "isinstance" p) [e, .Name x p2] [] pos) (sUn (dIsi t) ga) :=
  de_isi ht hg hm hg2 hm2 hv2 hn2 hd2 ha he hpl he2
theorem gAppend {o : Expr} {apos : Pos} (ho : DE X L κ W o ga) (ha : DA X L κ W (e :: es) gb)
    (hbase : attributeBase o "append" X.env (eval o X.env) = eval o X.env := by kernel_rfl)
    (hfew : ((backTo pos (starEach (e :: es) X.env)).all (fun x => !x.1) && (backToKw pos (keywordEach [] X.env)).all (fun x => x.1.isSome) && decide ((e :: es).length + ([] : List Keyword).length + (if ([] : List Keyword).isEmpty then 0 else 1) < 30)) = true := by kernel_rfl)
    (hline : (apos.endLine == pos.line) = true := by kernel_rfl) (hs : starEach (e :: es) X.env = (false, eval e X.env) :: starEach es X.env := by kernel_rfl) (hplain : (backTo pos (starEach es X.env)).any (·.1) = false := by kernel_rfl) :
    DE X L κ W (.Call (.Attribute o "append" apos) (e :: es) [] pos) (sMeth dAppend ga gb) := de_meth (fun _ => mt_dAppend) PySem.F.slot_list_append PySem.F.type_list_append ho ha hbase hfew hline hs hplain
theorem gExtend {o : Expr} {apos : Pos} (ho : DE X L κ W o ga) (ha : DA X L κ W (e :: es) gb)
    (hbase : attributeBase o "extend" X.env (eval o X.env) = eval o X.env := by kernel_rfl)
    (hfew : ((backTo pos (starEach (e :: es) X.env)).all (fun x => !x.1) && (backToKw pos (keywordEach [] X.env)).all (fun x => x.1.isSome) && decide ((e :: es).length + ([] : List Keyword).length + (if ([] : List Keyword).isEmpty then 0 else 1) < 30)) = true := by kernel_rfl)
    (hline : (apos.endLine == pos.line) = true := by kernel_rfl) (hs : starEach (e :: es) X.env = (false, eval e X.env) :: starEach es X.env := by kernel_rfl) (hplain : (backTo pos (starEach es X.env)).any (·.1) = false := by kernel_rfl) :
    DE X L κ W (.Call (.Attribute o "extend" apos) (e :: es) [] pos) (sMeth dExtend ga gb) := de_meth (fun _ => mt_dExtend) PySem.F.slot_list_extend PySem.F.type_list_extend ho ha hbase hfew hline hs hplain
theorem gPop {o : Expr} {apos : Pos} (ho : DE X L κ W o ga) (hbase : attributeBase o "pop" X.env (eval o X.env) = eval o X.env := by kernel_rfl) (hline : (apos.endLine == pos.line) = true := by kernel_rfl) :
    DE X L κ W (.Call (.Attribute o "pop" apos) [] [] pos) (sMeth dPop ga sNil) := de_meth0 (fun _ => mt_dPop) PySem.F.slot_list_pop PySem.F.type_list_pop ho hbase hline
theorem gIx (S : Sit X L T κ W) (ha : DE X L κ W a ga) (hb : DE X L κ W b gb) (hs : PlainIx b := by intro _ _; rfl) : DE X L κ W (.Subscript a b pos) (sBin (dIx T) ga gb) := de_ix S ha hb hs
theorem gSl0 (ha : DE X L κ W a ga) {lo : Expr} {gl : SE} (hl : DE X L κ W lo gl) : DE X L κ W (.Subscript a (.Slice (some lo) none none p2) pos) (sSlice ga (some gl) none) := de_slice ha hl trivial
theorem gSl1 (ha : DE X L κ W a ga) {hi : Expr} {gh : SE} (hh : DE X L κ W hi gh) : DE X L κ W (.Subscript a (.Slice none (some hi) none p2) pos) (sSlice ga none (some gh)) := de_slice ha trivial hh
theorem gSl2 (ha : DE X L κ W a ga) {lo hi : Expr} {gl gh : SE} (hl : DE X L κ W lo gl) (hh : DE X L κ W hi gh) : DE X L κ W (.Subscript a (.Slice (some lo) (some hi) none p2) pos) (sSlice ga (some gl) (some gh)) := de_slice ha hl hh
theorem gSl3 (ha : DE X L κ W a ga) : DE X L κ W (.Subscript a (.Slice none none none p2) pos) (sSlice ga none none) := de_slice ha trivial trivial
theorem gCmp {op : CmpOp} {f : D → D → Mem → Out} (ho : ∀ E, OpR X (compareOp op) (r2 X.K L E f)) (ha : DE X L κ W a ga) (hb : DE X L κ W b gb) (h1 : behindInMarks op b = false := by kernel_rfl) : DE X L κ W (.Compare a [op] [b] pos) (sBin f ga gb) := de_cmp ha hb ho h1
theorem tCmp {op : CmpOp} {f : D → D → Mem → Out} (ho : ∀ E, OpR X (compareOp op) (r2 X.K L E f)) (ha : DE X L κ W a ga) (hb : DE X L κ W b gb) (h1 : behindInMarks op b = false := by kernel_rfl) : DT X L κ W (.Compare a [op] [b] pos) (sBin f ga gb) := dt_cmp ha hb ho h1
theorem gChain {op op' : CmpOp} {f g : D → D → Mem → Out} (ho : ∀ E, OpR X (compareOp op) (r2 X.K L E f)) (ho' : ∀ E, OpR X (compareOp op') (r2 X.K L E g)) (ha : DE X L κ W a ga) (hb : DE X L κ W b gb) (hc : DE X L κ W c gc) (hm : lastMarks [op, op'] [b, c] = false := by kernel_rfl) : DE X L κ W (.Compare a [op, op'] [b, c] pos) (sChain f g ga gb gc) := de_chain ha hb hc ho ho' hm
theorem tChain' {op op' : CmpOp} {f g : D → D → Mem → Out} (ho : ∀ E, OpR X (compareOp op) (r2 X.K L E f)) (ho' : ∀ E, OpR X (compareOp op') (r2 X.K L E g)) (ha : DE X L κ W a ga) (hb : DE X L κ W b gb) (hc : DE X L κ W c gc) (hm : lastMarks [op, op'] [b, c] = false := by kernel_rfl) : DT X L κ W (.Compare a [op, op'] [b, c] pos) (sChain f g ga gb gc) := dt_chain ha hb hc ho ho' hm
theorem tVal (h : DE X L κ W e ga) (he : ∀ whole, isTrue e X.env whole = (do let v ← whole; standAt e.pos; holding [v] (truthy v)) := by intro _; kernel_rfl) : DT X L κ W e ga := dt_val h he
theorem tW (h : DW X L κ W e ga) : DT X L κ W e ga := h.pt
/-! targets -/
theorem gPL (i : Nat) (hN : X.N.Nodup) (hi : X.N[i]? = some x := by kernel_rfl) (hl : X.env.scope.names.lookup x = some .local := by kernel_rfl) : PG X (.Name x pos) (gOf X.K (.name i)) := pg_name hN hi (.inl hl) (.inr hl)
theorem gPC (i : Nat) (hN : X.N.Nodup) (hi : X.N[i]? = some x := by kernel_rfl) (hl : X.env.scope.names.lookup x = some .cell := by kernel_rfl) (hf : X.fn x = true := by kernel_rfl) : PG X (.Name x pos) (gOf X.K (.name i)) := pg_name hN hi (.inr hl) (.inl hf)
theorem gPs0 : PGs X [] (gAll []) := pgs_nil
theorem gPs {i : Nat} {is : List Nat} (h1 : PG X e (gOf X.K (.name i))) (h2 : PGs X es (gAll is)) (hs : (assignEach (e :: es) X.env).map (·.2) = assign e X.env :: (assignEach es X.env).map (·.2) := by kernel_rfl) : PGs X (e :: es) (gAll (i :: is)) := pgs_cons h1 h2 hs
theorem gPT {is : List Nat} {k : Nat} (hc : X.calm = true) (h : PGs X es (gAll is)) (hn : (assignEach es X.env).length = is.length := by kernel_rfl) (hst : (assignEach es X.env).findIdx? (·.1) = none := by kernel_rfl) : PG X (.Tuple es k pos) (gOf X.K (.tup is)) := pg_tup hc h hn hst
/-! comprehensions: the block's situation -/
theorem Sit.blk (S : Sit X L T κ W) (s : Shared) (H : Hp) (scope : Scope) (cenv : PySem.Env) (fp : List Addr) : Sit (X.blk s H scope cenv fp) L T κ noW := ⟨takes_none5, S.room, S.calm, S.nd, S.wl⟩
theorem Sit.tr {W' : WX} (S : Sit X L T κ W) {pn : List (Addr × Obj)} {xe : Value → Shared → Prop} (tk : Takes (X.tr pn xe) W') : Sit (X.tr pn xe) L T κ W' := ⟨tk, S.room, S.calm, S.nd, S.wl⟩
theorem cNone (s : Shared) (H : Hp) (scope : Scope) (cenv : PySem.Env) (fp : List Addr) : PTs (X.blk s H scope cenv fp) [] (tCond X.K L κ none) := pts_nil
variable {gi : SI} {t : Tg} {cond : Option SE} {ge : SE} {elt tg iter : Expr} {ifs : List Expr} {scope : Scope}
theorem gLc (own : List (Str × Nat)) (S : Sit X L T κ W) (hi : DI X L κ W tg iter gi)
    (hg : ∀ (s : Shared) (H : Hp) (C : Addr) (cl : List (Str × Addr)) (fp : List Addr), Sit (X.blk s H scope (compEnvC scope cl C X.env) fp) L T κ noW → PG (X.blk s H scope (compEnvC scope cl C X.env) fp) tg (gOf X.K t))
    (ht : ∀ (s : Shared) (H : Hp) (C : Addr) (cl : List (Str × Addr)) (fp : List Addr), Sit (X.blk s H scope (compEnvC scope cl C X.env) fp) L T κ noW → PTs (X.blk s H scope (compEnvC scope cl C X.env) fp) ifs (tCond X.K L κ cond))
    (he : ∀ (s : Shared) (H : Hp) (C : Addr) (cl : List (Str × Addr)) (fp : List Addr), Sit (X.blk s H scope (compEnvC scope cl C X.env) fp) L T κ noW → PE (X.blk s H scope (compEnvC scope cl C X.env) fp) elt (tD X.K L κ noW ge))
    (ok : blkC X.N X.env.scope scope own = true := by kernel_rfl) (hix : (t.ix.all fun i => (own.map (·.2)).contains i) = true := by kernel_rfl) (hs : ∀ x, foldedSetIterable iter X.env x = pure x := by intro _; kernel_rfl) :
    DE X L κ W (.ListComp elt [⟨tg, iter, ifs, 0⟩] scope pos) (sComp (own.map (·.2)) t gi cond ge) :=
  de_lc S hi (blkOk_by ok) (fun i hi => by have := List.all_eq_true.mp hix i hi; simpa using this) (fun s H C cl fp => hg s H C cl fp (S.blk ..)) (fun s H C cl fp => ht s H C cl fp (S.blk ..)) (fun s H C cl fp => he s H C cl fp (S.blk ..)) hs
theorem sSetLc {j : Nat} {y : Str} {py spos : Pos} (own : List (Str × Nat)) (S : Sit X L T κ W) (hi : DI X L κ W tg iter gi)
    (hg : ∀ (s : Shared) (H : Hp) (C : Addr) (cl : List (Str × Addr)) (fp : List Addr), Sit (X.blk s H scope (compEnvC scope cl C X.env) fp) L T κ noW → PG (X.blk s H scope (compEnvC scope cl C X.env) fp) tg (gOf X.K t))
    (ht : ∀ (s : Shared) (H : Hp) (C : Addr) (cl : List (Str × Addr)) (fp : List Addr), Sit (X.blk s H scope (compEnvC scope cl C X.env) fp) L T κ noW → PTs (X.blk s H scope (compEnvC scope cl C X.env) fp) ifs (tCond X.K L κ cond))
    (he : ∀ (s : Shared) (H : Hp) (C : Addr) (cl : List (Str × Addr)) (fp : List Addr), Sit (X.blk s H scope (compEnvC scope cl C X.env) fp) L T κ noW → PE (X.blk s H scope (compEnvC scope cl C X.env) fp) elt (tD X.K L κ noW ge))
    (hy : X.N[j]? = some y := by kernel_rfl) (hyl : X.env.scope.names.lookup y = some .local := by kernel_rfl) (hk : X.env.scope.kind = .function := by kernel_rfl) (hline : (py.line == pos.line) = true := by kernel_rfl) (hany : (scope.names.any fun (n, k) => n == y && (k == .local || k == .cell)) = false := by kernel_rfl)
    (ok : blkC X.N X.env.scope scope own = true := by kernel_rfl) (hix : (t.ix.all fun i => (own.map (·.2)).contains i) = true := by kernel_rfl) (hs : ∀ x, foldedSetIterable iter X.env x = pure x := by intro _; kernel_rfl) :
    DS X L κ W (.Assign [.Name y py] (.ListComp elt [⟨tg, iter, ifs, 0⟩] scope pos) spos) (pSet j (sComp (own.map (·.2)) t gi cond ge)) :=
  ds_setLc S hy hyl (sw_true hk hyl hline hany) hi (blkOk_by ok) (fun i hi => by have := List.all_eq_true.mp hix i hi; simpa using this) (fun s H C cl fp => hg s H C cl fp (S.blk ..)) (fun s H C cl fp => ht s H C cl fp (S.blk ..)) (fun s H C cl fp => he s H C cl fp (S.blk ..)) hs
/-! walks -/
theorem iR1' (hm : X.mg "range" = none) (ha : DA X L κ W [a] ga) (hg : Gl X "range" := by unfold L2.Gl; kernel_rfl) (hs : starEach [a] X.env = [(false, eval a X.env)] := by kernel_rfl) : DI X L κ W tg (.Call (.Name "range" p) [a] [] pos) (iR1 ga) := di_r1 hg hm ha hs
theorem iR2' (hm : X.mg "range" = none) (ha : DA X L κ W [a, b] ga) (hg : Gl X "range" := by unfold L2.Gl; kernel_rfl) (hs : starEach [a, b] X.env = [(false, eval a X.env), (false, eval b X.env)] := by kernel_rfl) (hs2 : starEach [b] X.env = [(false, eval b X.env)] := by kernel_rfl) : DI X L κ W tg (.Call (.Name "range" p) [a, b] [] pos) (iR2 ga) := di_r2 hg hm ha hs hs2
theorem iR3' (hm : X.mg "range" = none) (ha : DA X L κ W [a, b, c] ga) (hg : Gl X "range" := by unfold L2.Gl; kernel_rfl) (hs : starEach [a, b, c] X.env = (false, eval a X.env) :: starEach [b, c] X.env := by kernel_rfl) (hpl : (backTo pos (starEach [b, c] X.env)).any (·.1) = false := by kernel_rfl) : DI X L κ W tg (.Call (.Name "range" p) [a, b, c] [] pos) (iR3 ga) := di_r3 hg hm ha hs hpl
theorem iZip' {elts : List Expr} {kk : Nat} {tpos : Pos} (hm : X.mg "zip" = none) (ha : DA X L κ W [a, b] ga) (hg : Gl X "zip" := by unfold L2.Gl; kernel_rfl) (hs : starEach [a, b] X.env = (false, eval a X.env) :: starEach [b] X.env := by kernel_rfl) (hpl : (backTo pos (starEach [b] X.env)).any (·.1) = false := by kernel_rfl) :
    DI X L κ W (.Tuple elts kk tpos) (.Call (.Name "zip" p) [a, b] [] pos) (iZip ga) := di_zip hg hm ha hs hpl
/-! statements -/
variable {sa sb : SS} {body : List Stmt} {o i : Expr} {go gx : SE}
theorem sSetL {j : Nat} {pos' : Pos} (S : Sit X L T κ W) (he : DE X L κ W e ga) (hi : X.N[j]? = some x := by kernel_rfl) (hl : X.env.scope.names.lookup x = some .local := by kernel_rfl) (hs : swapsWith e (some (.Name x pos')) pos.line X.env = pure false := by kernel_rfl) : DS X L κ W (.Assign [.Name x pos'] e pos) (pSet j ga) := ds_set S.nd hi (.inl hl) he hs (.inr hl)
theorem sSetC {j : Nat} {pos' : Pos} (S : Sit X L T κ W) (he : DE X L κ W e ga) (hi : X.N[j]? = some x := by kernel_rfl) (hl : X.env.scope.names.lookup x = some .cell := by kernel_rfl) (hf : X.fn x = true := by kernel_rfl) (hs : swapsWith e (some (.Name x pos')) pos.line X.env = pure false := by kernel_rfl) : DS X L κ W (.Assign [.Name x pos'] e pos) (pSet j ga) := ds_set S.nd hi (.inr hl) he hs (.inl hf)
theorem sAsg {is : List Nat} {k : Nat} {tpos : Pos} (he : DE X L κ W e ga) (hg : PG X (.Tuple es k tpos) (gOf X.K (.tup is))) (hs : swapsWithSole [.Tuple es k tpos] e pos.line X.env = pure false := by kernel_rfl) (hw : swappedStores [.Tuple es k tpos] e X.env = pure none := by kernel_rfl) (h1 : (assignEach [.Tuple es k tpos] X.env).map (·.2) = [assign (.Tuple es k tpos) X.env] := by kernel_rfl) :
    DS X L κ W (.Assign [.Tuple es k tpos] e pos) (pTup is ga) := ds_asg rfl he hg hs hw h1
theorem sPar {j l : Nat} {y : Str} {px py pt : Pos} {kt k2 : Nat} {pt2 : Pos} (S : Sit X L T κ W) (ha : DA X L κ W [a, b] ga) (hi : X.N[j]? = some x := by kernel_rfl) (hj : X.N[l]? = some y := by kernel_rfl) (hij : j ≠ l := by decide)
    (hx : X.env.scope.names.lookup x = some .local := by kernel_rfl) (hy : X.env.scope.names.lookup y = some .local := by kernel_rfl)
    (hw : swappedStores [.Tuple [.Name x px, .Name y py] kt pt] (.Tuple [a, b] k2 pt2) X.env = pure (some [x, y]) := by kernel_rfl) (hs : swapsWithSole [.Tuple [.Name x px, .Name y py] kt pt] (.Tuple [a, b] k2 pt2) pos.line X.env = pure false := by kernel_rfl) :
    DS X L κ W (.Assign [.Tuple [.Name x px, .Name y py] kt pt] (.Tuple [a, b] k2 pt2) pos) (pTup [j, l] (sTup ga)) := ds_par S.calm S.nd hi hj hij hx hy ha hw hs
theorem sPut (S : Sit X L T κ W) (ho : DE X L κ W o go) (hi : DE X L κ W i gx) (he : DE X L κ W e ga)
    (ha : ∀ v, assign (.Subscript o i p) X.env v = (do
      let ov ← holding [v] (eval o X.env)
      let iv ← holding [v, ov] (eval i X.env)
      standAt p
      holding [v, ov, iv] (setItem ov iv v)
      release [v, ov, iv] []) := by intro _; kernel_rfl) (hs : swapsWithSole [.Subscript o i p] e pos.line X.env = pure false := by kernel_rfl) (hw : swappedStores [.Subscript o i p] e X.env = pure none := by kernel_rfl) (h1 : (assignEach [.Subscript o i p] X.env).map (·.2) = [assign (.Subscript o i p) X.env] := by kernel_rfl) :
    DS X L κ W (.Assign [.Subscript o i p] e pos) (pPut go gx ga) := ds_put S ho hi he ha hs hw h1
theorem sAug {j : Nat} {op : Operator} {f : D → D → Mem → Out} {pos' : Pos} (S : Sit X L T κ W) (ho : ∀ E, PIp X op (r2 X.K L E f)) (he : DE X L κ W e ga) (hi : X.N[j]? = some x := by kernel_rfl) (hl : X.env.scope.names.lookup x = some .local := by kernel_rfl) : DS X L κ W (.AugAssign (.Name x pos') op e pos) (pAug f j ga) := ds_aug S.nd hi (.inl hl) he ho (.inr hl)
theorem sExpr (h : DE X L κ W e ga) (hs : swapsWith e none pos.line X.env = pure false := by kernel_rfl) : DS X L κ W (.Expr e pos) (pDrop ga) := ds_expr h hs
theorem sFor (S : Sit X L T κ W) (hp : PassesOwn (model X.prog X.w) X.A X.env X.xe) (hi : DI X L κ W tg iter gi) (hg : PG X tg (gOf X.K t)) (hb : DB X L κ W body sb) (hs : ∀ x, foldedSetIterable iter X.env x = pure x := by intro _; kernel_rfl) : DS X L κ W (.For tg iter body [] pos) (pFor t gi sb) := ds_for S hp hi hg hb hs
theorem sRaise0 {c : Nat} {m : Str} {j : Nat} (S : Sit X L T κ W) (R : RaiO X.K X.mg (L.ca c)) (hm : X.mg x = some (.ref (L.ca c))) {pos' : Pos} (hg : Gl X x := by unfold L2.Gl; kernel_rfl) (hdb : (x == ("__debug__" : Str)) = false := by kernel_rfl) : DS X L κ W (.Raise (some (.Call (.Name x p) [.Constant (.str m) j p2] [] pos)) none pos') (pRaise0 c) := ds_raise0 S R hg hm hdb
theorem sRaise {c : Nat} {fs : List Nat} {d0 : List D} {pos' : Pos} (S : Sit X L T κ W) (R : RaiI X.prog X.w X.K X.mg X.base L (L.ca c) (fs.map L.fn) d0) (hm : X.mg x = some (.ref (L.ca c))) (ha : DA X L κ W (e :: es) ga) (hg : Gl X x := by unfold L2.Gl; kernel_rfl) (hdb : (x == ("__debug__" : Str)) = false := by kernel_rfl)
    (he : starEach (e :: es) X.env = (false, eval e X.env) :: starEach es X.env := by kernel_rfl) (hpl : (backTo pos (starEach es X.env)).any (·.1) = false := by kernel_rfl) : DS X L κ W (.Raise (some (.Call (.Name x p) (e :: es) [] pos)) none pos') (pRaise c fs d0 ga) := ds_raise S R hg hm hdb ha he hpl
theorem hvStr {slot : Option Nat} {j : Nat} {l : List Nat} (h : x.cps.toList = l) : HvOk X L slot (.Constant (.str x) j pos) (xC (.str l)) := h ▸ hv_str
theorem par3_law {Z : Ends} {σ : L2.St} {H : Hp} {i j k : Nat} (h : tDS X.K L κ W (pTup [i, j, k] (sTup ga)) Z σ H) : tPar3 i j k (tDA X.K L κ W ga) Z σ H := by
  obtain ⟨ρ, ads, M, re, rm, h⟩ := h
  refine ⟨ρ, ads, M, re, rm, ?_⟩
  unfold pTup sTup sRow at h
  cases e : ga κ ρ M with
  | bad => rw [e] at h; exact h
  | exc x M' =>
    rw [e] at h
    exact fun ads' H' c dx A m rx => h ads' H' c dx σ A m (re.on rm A) rx
  | ok d M1 =>
    rw [e] at h
    cases d with
    | tup ds =>
      simp only [Out.bind, rowD] at h
      split at h
      · simp only [ofOut, gcM_tup] at h
        intro ads1 H1 vs A1 m1 r1
        split at h
        · rename_i ρ' hset
          simp only [Tg.set] at hset
          match ds, vs, r1, hset with
          | [d1, d2, d3], vs, r1, hset =>
            simp only [setAll, Option.some.injEq] at hset
            subst hset
            simp only [RepL] at r1
            obtain ⟨v, r, rfl, rv, w, r', rfl, rw', u, r'', rfl, ru, rfl⟩ := r1
            refine ⟨v, w, u, rfl, ?_⟩
            unfold gcM at h
            split at h
            · rename_i hl
              simp only [D.lt, D.ltL, Bool.and_eq_true] at hl
              have hlen : (M1.take M.length).length = M.length := by rw [List.length_take]; exact Nat.min_eq_left A1.len
              exact h ads1 H1 _ A1.take (m1.take _) ((((re.on rm A1.take).set (by rw [hlen]; exact RepD.low _ _ rv hl.1)).set (by rw [hlen]; exact RepD.low _ _ rw' hl.2.1)).set (by rw [hlen]; exact RepD.low _ _ ru hl.2.2.1))
            · exact h ads1 H1 _ A1 m1 ((((re.on rm A1).set rv).set rw').set ru)
          | [], _, _, hset => simp [setAll] at hset
          | [_], _, _, hset => simp [setAll] at hset
          | [_, _], _, _, hset => simp [setAll] at hset
          | _ :: _ :: _ :: _ :: _, _, _, hset => simp [setAll] at hset
        · exact h.elim
      · exact h.elim
    | _ => exact h.elim
theorem sPar3 {j l k : Nat} {y z : Str} {c : Expr} {px py pz pt : Pos} {kt k2 : Nat} {pt2 : Pos} (S : Sit X L T κ W) (ha : DA X L κ W [a, b, c] ga) (hi : X.N[j]? = some x := by kernel_rfl) (hj : X.N[l]? = some y := by kernel_rfl) (hk : X.N[k]? = some z := by kernel_rfl) (h1 : j ≠ l := by decide) (h2 : j ≠ k := by decide) (h3 : l ≠ k := by decide)
    (hx : X.env.scope.names.lookup x = some .local := by kernel_rfl) (hy : X.env.scope.names.lookup y = some .local := by kernel_rfl) (hz : X.env.scope.names.lookup z = some .local := by kernel_rfl)
    (hw : swappedStores [.Tuple [.Name x px, .Name y py, .Name z pz] kt pt] (.Tuple [a, b, c] k2 pt2) X.env = pure (some [x, y, z]) := by kernel_rfl) (hs : swapsWithSole [.Tuple [.Name x px, .Name y py, .Name z pz] kt pt] (.Tuple [a, b, c] k2 pt2) pos.line X.env = pure false := by kernel_rfl) :
    DS X L κ W (.Assign [.Tuple [.Name x px, .Name y py, .Name z pz] kt pt] (.Tuple [a, b, c] k2 pt2) pos) (pTup [j, l, k] (sTup ga)) := (ps_par3 S.calm S.nd hi hj hk h1 h2 h3 hx hy hz ha hw hs).imp fun Z σ H h => par3_law h
end
end PK
end

section
set_option Elab.async false
set_option linter.all false
/-! PKs: the classes' tests, as the printed derivations ask them. -/
namespace PK
open PySem L2
structure ExmAt (K : PySem.W.Frag) (L : Lk) (c : Nat) (yes no : List Nat) : Prop where
  y : ∀ j ∈ yes, PySem.W.exmOne K (.ref (L.ca j)) (.ref (L.ca c)) = some true
  n : ∀ j ∈ no, PySem.W.exmOne K (.ref (L.ca j)) (.ref (L.ca c)) = some false
theorem ExmAt.ok {K : PySem.W.Frag} {L : Lk} {c : Nat} {h : Hd} (e : ExmAt K L c h.yes h.no) : ExmOk K L (.ref (L.ca c)) h := ⟨e.y, e.n⟩
end PK
end

section
set_option Elab.async false
set_option linter.all false
set_option maxHeartbeats 4000000
set_option maxRecDepth 100000
/-! PKt: what the written part (K) holds of the module. -/
namespace PK
open PySem L2 PySem.Spec PyProof.Rows

mutual
/-- a value of the written part is the data -/
def repIn (K : PySem.W.Frag) : D → Value → Bool
  | .non, .none => true
  | .bl b, .bool c => b == c
  | .int i, .int j _ => decide (i = j)
  | .str s, .str x _ => decide (x.cps.toList = s)
  | .tup ds, .ref a => match K.lookup a with
    | some o => (o.cls == .type "tuple") && (match o.data with
      | .seq its _ => decide (its.size ≤ 16777216) && repInL K ds its.toList
      | _ => false)
    | none => false
  | _, _ => false
def repInL (K : PySem.W.Frag) : List D → List Value → Bool
  | [], [] => true
  | d :: ds, u :: us => repIn K d u && repInL K ds us
  | _, _ => false
end
section
variable {K : PySem.W.Frag}
mutual
theorem repIn_ok : ∀ {d : D} {u : Value}, repIn K d u = true → ∃ v, RelV v u ∧ ∀ L ads k H, RepD K L ads k H d v
  | .non, .none, _ => ⟨.non, rfl, fun _ _ _ _ => by simp only [RepD]⟩
  | .bl b, .bool c, h => ⟨.bl b, by simp only [repIn, beq_iff_eq] at h; subst h; rfl, fun _ _ _ _ => by simp only [RepD]⟩
  | .int i, .int j t, h => ⟨.int i, by simp only [repIn, decide_eq_true_eq] at h; subst h; exact ⟨t, rfl⟩, fun _ _ _ _ => by simp only [RepD]⟩
  | .str s, .str x t, h => ⟨.str x, ⟨t, rfl⟩, fun _ _ _ _ => by
    simp only [repIn, decide_eq_true_eq] at h
    simp only [RepD]
    rw [← h]⟩
  | .tup ds, .ref a, h => by
    unfold repIn at h
    cases e : K.lookup a with
    | none => rw [e] at h; cases h
    | some o =>
      rw [e] at h
      simp only [Bool.and_eq_true, beq_iff_eq] at h
      obtain ⟨hc, h⟩ := h
      cases ed : o.data with
      | seq its n =>
        rw [ed] at h
        simp only [Bool.and_eq_true, decide_eq_true_eq] at h
        obtain ⟨vs, rv, r⟩ := repInL_ok h.2
        exact ⟨.ref a, rfl, fun L ads k H => by
          simp only [RepD]
          exact ⟨a, vs, rfl, .inr ⟨o, its, n, e, hc, ed, by rw [sizeLine16]; exact h.1, rv⟩, r L ads k H⟩⟩
      | _ => rw [ed] at h; cases h
theorem repInL_ok : ∀ {ds : List D} {us : List Value}, repInL K ds us = true → ∃ vs, Vals vs us ∧ ∀ L ads k H, RepL K L ads k H ds vs
  | [], [], _ => ⟨[], .nil, fun _ _ _ _ => by simp only [RepL]⟩
  | d :: ds, u :: us, h => by
    simp only [repInL, Bool.and_eq_true] at h
    obtain ⟨v, rv, r⟩ := repIn_ok h.1
    obtain ⟨vs, rvs, rs⟩ := repInL_ok h.2
    exact ⟨v :: vs, .cons rv rvs, fun L ads k H => RepL.cons (r L ads k H) (rs L ads k H)⟩
end
/-- the defaults' tuple -/
theorem repIn_tup {ds : List D} {T : Addr} (h : repIn K (.tup ds) (.ref T) = true) : ∃ (o : Obj) (its : Array Value) (n : Nat) (vs : List V), K.lookup T = some o ∧ o.data = .seq its n ∧ Vals vs its.toList ∧ ∀ L ads k H, RepL K L ads k H ds vs := by
  unfold repIn at h
  cases e : K.lookup T with
  | none => rw [e] at h; cases h
  | some o =>
    rw [e] at h
    simp only [Bool.and_eq_true, beq_iff_eq] at h
    obtain ⟨hc, h⟩ := h
    cases ed : o.data with
    | seq its n =>
      rw [ed] at h
      simp only [Bool.and_eq_true, decide_eq_true_eq] at h
      obtain ⟨vs, rv, r⟩ := repInL_ok h.2
      exact ⟨o, its, n, vs, rfl, ed, rv, r⟩
    | _ => rw [ed] at h; cases h
/-- a constant of the module -/
def cstIn (K : PySem.W.Frag) (x : Str) (d : D) : Bool := match PySem.W.nsIn K mainGlobals x with
  | some (some u) => repIn K d u
  | _ => false
theorem cst_of {h : Heap} {mg : Str → Option Value} {L : Lk} {x : Str} {d : D} (X : K.In h) (G : h.Ns mainGlobals mg) (c : cstIn K x d = true) : CstOk K mg L x d := by
  unfold cstIn at c
  split at c
  · rename_i u e
    obtain ⟨v, rv, r⟩ := repIn_ok c
    exact ⟨u, v, PySem.W.mg_of X G e, rv, fun ads k H => r L ads k H⟩
  · cases c
/-- a constant dict -/
structure KdM (K : PySem.W.Frag) (w : World) (x : Str) (tab : List (List Nat × Option D)) (a : Addr) : Prop where
  at_ : PySem.W.nsIn K mainGlobals x = some (some (.ref a))
  kd : ∃ es n, K.lookup a = some ⟨.type "dict", none, .dict es n, #[]⟩ ∧ PySem.W.KeysLit w.params es.toList
  low : (a == sysModules) = false
  all : (tab.all fun p => match p.2 with
    | some d => (match PySem.W.nsIn K a ⟨p.1.toArray⟩ with | some (some u) => repIn K d u | _ => false)
    | none => (match PySem.W.nsIn K a ⟨p.1.toArray⟩ with | some none => true | _ => false)) = true
theorem KdM.get {w : World} {x : Str} {tab : List (List Nat × Option D)} {a : Addr} (k : KdM K w x tab a) {s : List Nat} {o : Option D} (e : tab.lookup s = some o) : match o with
    | some d => ∃ u v, PySem.W.nsIn K a ⟨s.toArray⟩ = some (some u) ∧ RelV v u ∧ ∀ L ads k H, RepD K L ads k H d v
    | none => PySem.W.nsIn K a ⟨s.toArray⟩ = some none := by
  have hm : (s, o) ∈ tab := by
    have go : ∀ l : List (List Nat × Option D), l.lookup s = some o → (s, o) ∈ l := by
      intro l
      induction l with
      | nil => intro z; cases z
      | cons q r ih =>
        intro z
        obtain ⟨q1, q2⟩ := q
        rw [List.lookup_cons] at z
        by_cases hq : (s == q1) = true
        · rw [hq] at z
          simp at hq z
          subst hq z
          exact List.mem_cons_self
        · simp only [hq] at z
          exact List.mem_cons_of_mem _ (ih (by simpa using z))
    exact go _ e
  have q := List.all_eq_true.mp k.all _ hm
  cases o with
  | some d =>
    simp only at q ⊢
    split at q
    · rename_i u eu
      obtain ⟨v, rv, r⟩ := repIn_ok q
      exact ⟨u, v, eu, rv, r⟩
    · cases q
  | none =>
    simp only at q ⊢
    split at q
    · assumption
    · cases q
/-- a def of the module, its defaults dvs -/
structure DefM (K : PySem.W.Frag) (x : Str) (sa : Arguments) (sb : List Stmt) (ss : Scope) (ds : List D) (f : Addr) : Prop where
  at_ : PySem.W.nsIn K mainGlobals x = some (some (.ref f))
  kp : PySem.W.keepIn K (.ref f) = true
  fn : ∃ (vs : List V) (fd : FuncData), FunD K x x sa sb ss vs [] f fd ∧ ∀ L ads k H, RepL K L ads k H ds vs
theorem defM0 {x : Str} {sa : Arguments} {sb : List Stmt} {ss : Scope} {f : Addr} {oc : Value} {od an : Option Addr} {osl : Array (Option Value)} {kV doc pm cdv ct : Value} (a : PySem.W.nsIn K mainGlobals x = some (some (.ref f)))
    (l : K.lookup f = some ⟨oc, od, .func (PySem.W.fnOf x x sa sb ss .none kV doc pm an cdv ct), osl⟩) (c : PySem.W.codeIn K cdv x = true) (k : PySem.W.keepIn K (.ref f) = true) : DefM K x sa sb ss [] f :=
  ⟨a, k, [], _, ⟨⟨oc, od, .none, kV, doc, pm, an, cdv, ct, osl, rfl, l, c, .inl ⟨rfl, rfl⟩, .inl rfl⟩, k⟩, fun _ _ _ _ => by simp only [RepL]⟩
theorem defM1 {x : Str} {sa : Arguments} {sb : List Stmt} {ss : Scope} {f T : Addr} {oc : Value} {od an : Option Addr} {osl : Array (Option Value)} {kV doc pm cdv ct : Value} {d : D} {ds : List D} (a : PySem.W.nsIn K mainGlobals x = some (some (.ref f)))
    (l : K.lookup f = some ⟨oc, od, .func (PySem.W.fnOf x x sa sb ss (.ref T) kV doc pm an cdv ct), osl⟩) (c : PySem.W.codeIn K cdv x = true) (k : PySem.W.keepIn K (.ref f) = true) (t : repIn K (.tup (d :: ds)) (.ref T) = true) : DefM K x sa sb ss (d :: ds) f := by
  obtain ⟨o, its, n, vs, e, ed, rv, r⟩ := repIn_tup t
  have hne : vs ≠ [] := fun z => by
    have := (r ⟨fun _ => [], fun _ => 0, fun _ => 0, fun _ => 0, fun _ => ""⟩ (fun _ => 0) 0 (fun _ => none)).length
    rw [z] at this; cases this
  exact ⟨a, k, vs, _, ⟨⟨oc, od, .ref T, kV, doc, pm, an, cdv, ct, osl, rfl, l, c, .inr ⟨hne, T, o, its.toList, n, rfl, e, by simpa using ed, rv⟩, .inl rfl⟩, k⟩, r⟩
/-- an own exception class: what is asked of each -/
structure ClsM (K : PySem.W.Frag) (x : Str) (C : Addr) : Prop where
  at_ : PySem.W.nsIn K mainGlobals x = some (some (.ref C))
  ty : PySem.W.typeIn K (.ref C) = some (.type "type")
  sub : PySem.W.subIn K (.ref C) (.type "BaseException") = some true
  kp : PySem.W.keepIn K (.ref C) = true
/-- one whose __init__ is written -/
structure InitM (K : PySem.W.Frag) (C : Addr) (sa : Arguments) (sb : List Stmt) (ss : Scope) (qual : Str) (ds : List D) : Prop where
  cls : ∃ nm q N bs bm sn sub ab col dd k0 k1 k2 k3 k5, K.lookup C = some (excClassObj nm q C N bs bm true sn sub ab col dd k0 k1 k2 k3 k5 "ValueError.__new__") ∧ PySem.HandSPX.refsVE bm = true
  seta : PySem.W.findIn K (.ref C) "__setattr__" = some (some (.builtin "object.__setattr__"))
  ga : PySem.W.findIn K (.ref C) "__getattribute__" = some (some (.builtin "BaseException.__getattribute__"))
  gg : PySem.W.findIn K (.ref C) "__getattr__" = some none
  hd : PySem.W.hasDictIn K C = true
  fn : ∃ (f : Addr) (vs : List V) (fd : FuncData), PySem.W.findIn K (.ref C) "__init__" = some (some (.ref f)) ∧ PySem.W.typeIn K (.ref f) = some (.type "function") ∧ FunD K "__init__" qual sa sb ss vs [] f fd ∧ ∀ L ads k H, RepL K L ads k H ds vs
theorem initFn0 {C f : Addr} {sa : Arguments} {sb : List Stmt} {ss : Scope} {qual : Str} {oc : Value} {od an : Option Addr} {osl : Array (Option Value)} {kV doc pm cdv ct : Value} (i : PySem.W.findIn K (.ref C) "__init__" = some (some (.ref f))) (ty : PySem.W.typeIn K (.ref f) = some (.type "function"))
    (l : K.lookup f = some ⟨oc, od, .func (PySem.W.fnOf "__init__" qual sa sb ss .none kV doc pm an cdv ct), osl⟩) (c : PySem.W.codeIn K cdv qual = true) (k : PySem.W.keepIn K (.ref f) = true) :
    ∃ (f : Addr) (vs : List V) (fd : FuncData), PySem.W.findIn K (.ref C) "__init__" = some (some (.ref f)) ∧ PySem.W.typeIn K (.ref f) = some (.type "function") ∧ FunD K "__init__" qual sa sb ss vs [] f fd ∧ ∀ L ads k H, RepL K L ads k H [] vs :=
  ⟨f, [], _, i, ty, ⟨⟨oc, od, .none, kV, doc, pm, an, cdv, ct, osl, rfl, l, c, .inl ⟨rfl, rfl⟩, .inl rfl⟩, k⟩, fun _ _ _ _ => by simp only [RepL]⟩
theorem initFn1 {C f T : Addr} {sa : Arguments} {sb : List Stmt} {ss : Scope} {qual : Str} {oc : Value} {od an : Option Addr} {osl : Array (Option Value)} {kV doc pm cdv ct : Value} {d : D} {ds : List D} (i : PySem.W.findIn K (.ref C) "__init__" = some (some (.ref f))) (ty : PySem.W.typeIn K (.ref f) = some (.type "function"))
    (l : K.lookup f = some ⟨oc, od, .func (PySem.W.fnOf "__init__" qual sa sb ss (.ref T) kV doc pm an cdv ct), osl⟩) (c : PySem.W.codeIn K cdv qual = true) (k : PySem.W.keepIn K (.ref f) = true) (t : repIn K (.tup (d :: ds)) (.ref T) = true) :
    ∃ (f : Addr) (vs : List V) (fd : FuncData), PySem.W.findIn K (.ref C) "__init__" = some (some (.ref f)) ∧ PySem.W.typeIn K (.ref f) = some (.type "function") ∧ FunD K "__init__" qual sa sb ss vs [] f fd ∧ ∀ L ads k H, RepL K L ads k H (d :: ds) vs := by
  obtain ⟨o, its, n, vs, e, ed, rv, r⟩ := repIn_tup t
  have hne : vs ≠ [] := fun z => by
    have := (r ⟨fun _ => [], fun _ => 0, fun _ => 0, fun _ => 0, fun _ => ""⟩ (fun _ => 0) 0 (fun _ => none)).length
    rw [z] at this; cases this
  exact ⟨f, vs, _, i, ty, ⟨⟨oc, od, .ref T, kV, doc, pm, an, cdv, ct, osl, rfl, l, c, .inr ⟨hne, T, o, its.toList, n, rfl, e, by simpa using ed, rv⟩, .inl rfl⟩, k⟩, r⟩
variable {C : Addr} {sa : Arguments} {sb : List Stmt} {ss : Scope} {qual x : Str} {ds : List D}
theorem InitM.oex (i : InitM K C sa sb ss qual ds) (c : ClsM K x C) : OexC K C := ⟨i.cls, i.seta, c.sub, c.ty, c.kp⟩
theorem InitM.xfc (i : InitM K C sa sb ss qual ds) (c : ClsM K x C) : XfC K C := ⟨i.ga, i.gg, c.sub, i.hd⟩
end
/-- a def of the text with its derivation at every level -/
theorem dok_of {P : Program} {w : World} {K : PySem.W.Frag} {mg : Str → Option Value} {base : Heap} {L : Lk} {T : Tb} {Pg : Nat → Option Def} {wf f : Nat} {d : Def} {x : Str} {sa : Arguments} {sb : List Stmt} {ss : Scope} {ds : List D} {N ps : List Str} (D : DefM K x sa sb ss ds (L.fa f)) (S : FnScope N ps ss) (hnp : ps.length = d.np) (hns : N.length = d.ns)
    (hb : ∀ (κ : Ctx) (cdv : Value) (A : Around) (outer : List PySem.Env) (s : Shared) (H : Hp) (E : XK), Sit (cxOf (L2.CX P w) P w K mg base N x ss (L.fa f) cdv A outer s H E) L T κ (fun c d _ H => E c d H) →
      PassesOwn (model P w) (cxOf (L2.CX P w) P w K mg base N x ss (L.fa f) cdv A outer s H E).A (cxOf (L2.CX P w) P w K mg base N x ss (L.fa f) cdv A outer s H E).env (cxOf (L2.CX P w) P w K mg base N x ss (L.fa f) cdv A outer s H E).xe →
      DB (cxOf (L2.CX P w) P w K mg base N x ss (L.fa f) cdv A outer s H E) L κ (fun c d _ H => E c d H) sb d.body)
    (hB : ∀ {vs : List V} {fd : FuncData}, FunD K x x sa sb ss vs [] (L.fa f) fd → vs.length = ds.length → ∀ j, ∃ us, Vals (vs.drop j) us ∧ Binds K fd ps us) (hdf : L.df f = ds) : DOk P w K mg base L T Pg wf f d := by
  obtain ⟨vs, fd, F, r⟩ := D.fn
  refine ⟨fd, ps, fun n Wl => def_ok (κ := ctxN Pg wf n) F S hnp hns Wl (fun cdv A outer s H E S hp => hb _ cdv A outer s H E S hp), fun j => ?_⟩
  obtain ⟨us, hv, hbd⟩ := hB F (r L (fun _ => 0) 0 (fun _ => none)).length.symm j
  exact ⟨us, vs.drop j, hbd, hv, fun ads k H => by rw [hdf]; exact (r L ads k H).drop j⟩
theorem binds_no {K : PySem.W.Frag} {x : Str} {sa : Arguments} {sb : List Stmt} {ss : Scope} {f : Addr} {fd : FuncData} {ps : List Str} {vs : List V} (F : FunD K x x sa sb ss vs [] f fd) (hl : vs.length = 0)
    (h : ∀ (kV doc pm : Value) (an : Option Addr) (cdv ct : Value) (us : List Value), us.length = ps.length → bindArgs (PySem.W.fnOf x x sa sb ss .none kV doc pm an cdv ct) ⟨us, []⟩ = pure (ps.zip us)) (j : Nat) : ∃ us, Vals (vs.drop j) us ∧ Binds K fd ps us := by
  have e : vs = [] := List.eq_nil_of_length_eq_zero hl
  subst e
  exact ⟨[], by rw [List.drop_nil]; exact .nil, F.bindsN h⟩
theorem binds_one {K : PySem.W.Frag} {x qual : Str} {sa : Arguments} {sb : List Stmt} {ss : Scope} {f : Addr} {fd : FuncData} {ps : List Str} {vs : List V} (F : FunD K x qual sa sb ss vs [] f fd) (hl : vs.length = 1) (n : Nat) (hn : n + 1 = ps.length)
    (h0 : ∀ (T : Addr) (kV doc pm : Value) (an : Option Addr) (cdv ct : Value) (us its : List Value), us.length = n → its.length = 1 → ∃ k, bindArgs (PySem.W.fnOf x qual sa sb ss (.ref T) kV doc pm an cdv ct) ⟨us, []⟩ = seqItems? (.ref T) >>= k ∧ k (some its.toArray) = pure (ps.zip (us ++ its.drop 0)))
    (h1 : ∀ (T : Addr) (kV doc pm : Value) (an : Option Addr) (cdv ct : Value) (us its : List Value), us.length = n + 1 → its.length = 1 → ∃ k, bindArgs (PySem.W.fnOf x qual sa sb ss (.ref T) kV doc pm an cdv ct) ⟨us, []⟩ = seqItems? (.ref T) >>= k ∧ k (some its.toArray) = pure (ps.zip (us ++ its.drop 1))) (j : Nat) : ∃ us, Vals (vs.drop j) us ∧ Binds K fd ps us := by
  have hne : vs ≠ [] := fun z => by rw [z] at hl; cases hl
  cases j with
  | zero => exact F.binds1 n 0 hne (by rw [hl]; omega) fun T kV doc pm an cdv ct us its hu hi => h0 T kV doc pm an cdv ct us its hu (by rw [hi, hl])
  | succ j =>
    obtain ⟨us, hv, hb⟩ := F.binds1 (ps := ps) (n + 1) 1 hne (by rw [hl]; omega) fun T kV doc pm an cdv ct us its hu hi => h1 T kV doc pm an cdv ct us its hu (by rw [hi, hl])
    have e1 : vs.drop 1 = [] := List.drop_eq_nil_of_le (by omega)
    have e2 : vs.drop (j + 1) = [] := List.drop_eq_nil_of_le (by omega)
    rw [e1] at hv
    rw [e2]
    exact ⟨us, hv, hb⟩
def AllK (K : PySem.W.Frag) : List Addr → Prop
  | [] => True
  | a :: l => PySem.W.keepIn K (.ref a) = true ∧ AllK K l
theorem keep_all {K : PySem.W.Frag} {d : Addr} : ∀ {l : List Addr}, PySem.W.keepIn K (.ref d) = true → AllK K l → ∀ n, PySem.W.keepIn K (.ref (l.getD n d)) = true
  | [], hd, _, n => by simpa using hd
  | a :: l, hd, h, 0 => by simpa using h.1
  | a :: l, hd, h, n + 1 => by simpa using keep_all hd h.2 n
def AllAt (Q : Nat → Def → Prop) : Nat → List Def → Prop
  | _, [] => True
  | i, d :: l => Q i d ∧ AllAt Q (i + 1) l
theorem AllAt.get {Q : Nat → Def → Prop} : ∀ {l : List Def} {i n : Nat} {d : Def}, AllAt Q i l → l[n]? = some d → Q (i + n) d
  | [], _, _, _, _, e => by simp at e
  | x :: l, i, 0, d, h, e => by simp at e; subst e; exact h.1
  | x :: l, i, n + 1, d, h, e => by
    have := AllAt.get (n := n) h.2 (by simpa using e)
    rwa [show i + 1 + n = i + (n + 1) by omega] at this
/-- one constant dict -/
theorem kdOk_of {P : Program} {w : World} {K : PySem.W.Frag} {L : Lk} {T : Tb} (h : ∀ n, T n ≠ [] → ∃ x, KdM K w x (T n) (L.kd n)) : KdOk P w K L T := fun n hn => by
  obtain ⟨x, k⟩ := h n hn
  obtain ⟨es, m, e1, e2⟩ := k.kd
  refine ⟨⟨es, m, e1, e2, k.low⟩, fun s o e => ?_⟩
  have q := k.get e
  cases o with
  | some d =>
    obtain ⟨u, v, h1, h2, h3⟩ := q
    exact ⟨u, v, h1, h2, fun ads k H => h3 L ads k H⟩
  | none => exact q
theorem raiI_of {P : Program} {w : World} {K : PySem.W.Frag} {mg : Str → Option Value} {base : Heap} {L : Lk} {C : Addr} {fs : List Str} {d0 : List D} {fI : Addr} {fd : FuncData} {ps : List Str} {us : List V} {ds : List Value} (ok : OexC K C) (iC : PySem.W.findIn K (.ref C) "__init__" = some (some (.ref fI))) (tI : PySem.W.typeIn K (.ref fI) = some (.type "function"))
    (F1 : FnOk P w K mg base (L2.CX P w) 1 fI fd ps (spI C fs)) (hb : Binds K fd ps ds) (hv : Vals us ds) (r : ∀ ads k H, RepL K L ads k H d0 us) : RaiI P w K mg base L C fs d0 := ⟨ok, fI, fd, ps, ds, us, iC, tI, F1, hb, hv, r⟩
/-- the law's own def -/
theorem law_fn {P : Program} {w : World} {K : PySem.W.Frag} {mg : Str → Option Value} {base : Heap} {L : Lk} {T : Tb} {κ : Ctx} {d : Def} {x qual : Str} {sa : Arguments} {sb : List Stmt} {ss : Scope} {vs : List V} {f : Addr} {fd : FuncData} {N ps : List Str} (F : FunD K x qual sa sb ss vs [] f fd) (S : FnScope N ps ss) (hnp : ps.length = d.np) (hns : N.length = d.ns) (h1 : d.np = 1) (Wl : Wrld P w K mg base L T κ)
    (hb : ∀ (cdv : Value) (A : Around) (outer : List PySem.Env) (s : Shared) (H : Hp) (E : XK), Sit (cxOf (L2.CX P w) P w K mg base N qual ss f cdv A outer s H E) L T κ (fun c d _ H => E c d H) →
      PassesOwn (model P w) (cxOf (L2.CX P w) P w K mg base N qual ss f cdv A outer s H E).A (cxOf (L2.CX P w) P w K mg base N qual ss f cdv A outer s H E).env (cxOf (L2.CX P w) P w K mg base N qual ss f cdv A outer s H E).xe →
      DB (cxOf (L2.CX P w) P w K mg base N qual ss f cdv A outer s H E) L κ (fun c d _ H => E c d H) sb d.body)
    (law : ∀ ns : List Int, ns.length ≤ 63 → ∃ M', runDef d κ [.kst ns] [] = .ok (.bl true) M') : FnOk P w K mg base (L2.CX P w) (κ.lev + 1) f fd ps (spLaw63 K) :=
  (def_ok F S hnp hns Wl hb).imp fun _ _ _ _ h => law_sp h h1 law
/-- what k_head leaves -/
theorem walk_end {l : PySem.W.OpenLaw} {q : Program} {loose : List Str} {XP : (Str → Option Value) → Heap → Prop} {YP : World → Heap → Prop} {d : DefRec} {K : Params → PySem.W.Frag} {k : Nat} (hn : l.most = some 63) (hdf : d.params.defaults = []) (hr : Room k callerA) (hY : ∀ (w : World) (h : Heap), YP w h → (K w.params).In h)
    (F : ∀ (w : World) (mg : Str → Option Value) (fa : Addr) (h : Heap), (K w.params).In h → h.Ns mainGlobals mg → mg d.name = some (.ref fa) → ∃ fd : FuncData, (∀ (s : Shared) (u : Value), BindsTo s fd ⟨[u], []⟩ [("script", u)]) ∧
      ∀ base : Heap, (K w.params).In base → base.Ns mainGlobals mg → FnOk l.prog w (K w.params) mg base (L2.CX l.prog w) k fa fd ["script"] (spLaw63 (K w.params))) : PySem.W.WalkO q loose XP YP l.row.toRowW d [] (fun f vs => PySem.call f vs) :=
  L2.walk_of (n := 63) (k := k) (x := "script") (CX := fun w => L2.CX l.prog w) (sp := fun w => spLaw63 (K w.params)) hn (by decide) hdf hr hY F (fun w H a ns hl hO hS => only_sp hO hS hl) fun _ _ _ _ _ ⟨_, _, _, _, _, _, _, _, _, _, _, _, z⟩ => z
theorem kdM_of {K : PySem.W.Frag} {w : World} {x : Str} {tab : List (List Nat × Option D)} {a : Addr} {es : Array DictEntry} {n : Nat} (h1 : PySem.W.nsIn K mainGlobals x = some (some (.ref a))) (h2 : K.lookup a = some ⟨.type "dict", none, .dict es n, #[]⟩) (h3 : PySem.W.KeysLit w.params es.toList) (h4 : (a == sysModules) = false)
    (h5 : (tab.all fun p => match p.2 with
      | some d => (match PySem.W.nsIn K a ⟨p.1.toArray⟩ with | some (some u) => repIn K d u | _ => false)
      | none => (match PySem.W.nsIn K a ⟨p.1.toArray⟩ with | some none => true | _ => false)) = true) : KdM K w x tab a := ⟨h1, ⟨es, n, h2, h3⟩, h4, h5⟩
theorem clsX_of {K : PySem.W.Frag} {C N : Addr} {nm q : Str} {bs bm sub : List Value} {sn : List Str} {ab : Bool} {col : Option Bool} {dd : Option Addr} {k0 k1 k2 k3 k5 : Option Value} (h : K.lookup C = some (excClassObj nm q C N bs bm true sn sub ab col dd k0 k1 k2 k3 k5 "ValueError.__new__")) (r : PySem.HandSPX.refsVE bm = true) :
    ∃ nm q N bs bm sn sub ab col dd k0 k1 k2 k3 k5, K.lookup C = some (excClassObj nm q C N bs bm true sn sub ab col dd k0 k1 k2 k3 k5 "ValueError.__new__") ∧ PySem.HandSPX.refsVE bm = true := ⟨_, _, _, _, _, _, _, _, _, _, _, _, _, _, _, h, r⟩
end PK
end

section
set_option Elab.async false
set_option linter.all false
set_option maxHeartbeats 4000000
set_option maxRecDepth 100000
namespace PK.proofkernel_k00_whole_terms_places_and_p
open PySem L2 PySem.Spec PyProof.Rows PK
theorem st0 : ("." : Str).cps.toList = [46] := by kernel_rfl
theorem st1 : ("_." : Str).cps.toList = [95, 46] := by kernel_rfl
theorem st2 : ("x" : Str).cps.toList = [120] := by kernel_rfl
theorem st3 : ("U" : Str).cps.toList = [85] := by kernel_rfl
theorem st4 : ("hole" : Str).cps.toList = [104, 111, 108, 101] := by kernel_rfl
theorem st5 : ("free" : Str).cps.toList = [102, 114, 101, 101] := by kernel_rfl
theorem st6 : ("at" : Str).cps.toList = [97, 116] := by kernel_rfl
theorem st7 : ("name" : Str).cps.toList = [110, 97, 109, 101] := by kernel_rfl
theorem st8 : ("sort" : Str).cps.toList = [115, 111, 114, 116] := by kernel_rfl
theorem st9 : ("app" : Str).cps.toList = [97, 112, 112] := by kernel_rfl
theorem st10 : ("pi" : Str).cps.toList = [112, 105] := by kernel_rfl
theorem st11 : ("fun" : Str).cps.toList = [102, 117, 110] := by kernel_rfl
theorem st12 : ("path" : Str).cps.toList = [112, 97, 116, 104] := by kernel_rfl
theorem st13 : ("zero" : Str).cps.toList = [122, 101, 114, 111] := by kernel_rfl
theorem st14 : ("succ" : Str).cps.toList = [115, 117, 99, 99] := by kernel_rfl
theorem st15 : ("told" : Str).cps.toList = [116, 111, 108, 100] := by kernel_rfl
theorem st16 : ("malformed" : Str).cps.toList = [109, 97, 108, 102, 111, 114, 109, 101, 100] := by kernel_rfl
theorem st17 : ("refused" : Str).cps.toList = [114, 101, 102, 117, 115, 101, 100] := by kernel_rfl
theorem st18 : ("sig" : Str).cps.toList = [115, 105, 103] := by kernel_rfl
theorem st19 : ("let" : Str).cps.toList = [108, 101, 116] := by kernel_rfl
theorem st20 : ("fgh" : Str).cps.toList = [102, 103, 104] := by kernel_rfl
theorem st21 : ("two" : Str).cps.toList = [116, 119, 111] := by kernel_rfl
theorem st22 : ("one" : Str).cps.toList = [111, 110, 101] := by kernel_rfl
theorem st23 : ("pair" : Str).cps.toList = [112, 97, 105, 114] := by kernel_rfl
theorem st24 : ("Ua" : Str).cps.toList = [85, 97] := by kernel_rfl
theorem st25 : ("U1" : Str).cps.toList = [85, 49] := by kernel_rfl
theorem st26 : ("xa1" : Str).cps.toList = [120, 97, 49] := by kernel_rfl
theorem st27 : ("x1" : Str).cps.toList = [120, 49] := by kernel_rfl
theorem st28 : ("a" : Str).cps.toList = [97] := by kernel_rfl
theorem st29 : ("1a" : Str).cps.toList = [49, 97] := by kernel_rfl
theorem st30 : ("a." : Str).cps.toList = [97, 46] := by kernel_rfl
theorem st31 : ("Nat.elim0" : Str).cps.toList = [78, 97, 116, 46, 101, 108, 105, 109, 48] := by kernel_rfl
theorem st32 : ("by" : Str).cps.toList = [98, 121] := by kernel_rfl
theorem st33 : ("_a" : Str).cps.toList = [95, 97] := by kernel_rfl
theorem st34 : ("a-b" : Str).cps.toList = [97, 45, 98] := by kernel_rfl
theorem st35 : ("a b" : Str).cps.toList = [97, 32, 98] := by kernel_rfl
theorem st36 : ("" : Str).cps.toList = [] := by kernel_rfl
theorem st37 : ("x12" : Str).cps.toList = [120, 49, 50] := by kernel_rfl
theorem st38 : ("f" : Str).cps.toList = [102] := by kernel_rfl
theorem st39 : ("nothing" : Str).cps.toList = [110, 111, 116, 104, 105, 110, 103] := by kernel_rfl
/-- the constant dicts -/
def tb : Tb := fun n => match n with
  | 0 => [([97, 116], some (.tup [])), ([102, 114, 101, 101], some (.tup [])), ([104, 111, 108, 101], some (.tup [])), ([110, 97, 109, 101], some (.tup [])), ([115, 111, 114, 116], some (.tup [])), ([112, 105], some (.tup [.tup [.int 1, .int 0], .tup [.int 2, .int 1]])), ([102, 117, 110], some (.tup [.tup [.int 1, .int 0], .tup [.int 2, .int 1]])), ([97, 112, 112], some (.tup [.tup [.int 1, .int 0], .tup [.int 2, .int 0]])), ([115, 105, 103], some (.tup [.tup [.int 1, .int 0], .tup [.int 2, .int 1]])), ([112, 97, 105, 114], some (.tup [.tup [.int 1, .int 0], .tup [.int 2, .int 0], .tup [.int 3, .int 0]])), ([111, 110, 101], some (.tup [.tup [.int 1, .int 0]])), ([116, 119, 111], some (.tup [.tup [.int 1, .int 0]])), ([108, 101, 116], some (.tup [.tup [.int 1, .int 0], .tup [.int 2, .int 0], .tup [.int 3, .int 1]])), ([], none), ([46], none), ([49, 97], none), ([78, 97, 116, 46, 101, 108, 105, 109, 48], none), ([85], none), ([85, 49], none), ([85, 97], none), ([95, 46], none), ([95, 97], none), ([97], none), ([97, 32, 98], none), ([97, 45, 98], none), ([97, 46], none), ([98, 121], none), ([102], none), ([102, 103, 104], none), ([109, 97, 108, 102, 111, 114, 109, 101, 100], none), ([110, 111, 116, 104, 105, 110, 103], none), ([112, 97, 116, 104], none), ([114, 101, 102, 117, 115, 101, 100], none), ([115, 117, 99, 99], none), ([116, 111, 108, 100], none), ([120], none), ([120, 49], none), ([120, 49, 50], none), ([120, 97, 49], none), ([122, 101, 114, 111], none)]
  | _ => []
def dfs : Nat → List D := fun n => match n with
  | 14 => [.int 0]
  | 15 => [.int 0]
  | _ => []
def fnm : Nat → Str := fun n => match n with
  | 0 => "reason"
  | 1 => "path"
  | 2 => "at"
  | _ => ""
abbrev lk (fa ca kd : Nat → Addr) : Lk := ⟨dfs, fa, ca, kd, fnm⟩
def d0 : Def := ⟨1, 1, (pSeq (pRet (sAnd (sUn (dIsi .int) (sVar 0)) (sUn dNot (sUn (dIsi .bool) (sVar 0))))) (pNil))⟩ -- is_integer
def d1 : Def := ⟨3, 3, (pSeq (pIf (sOr (sUn dNot (sCall 0 [] (sCons (sVar 0) (sNil)))) (sUn dNot (sChain dLe dLe (sVar 1) (sVar 0) (sVar 2)))) (pSeq (pRaise0 1) (pNil)) (pNil)) (pNil))⟩ -- check_from
def d2 : Def := ⟨1, 2, (pSeq (pRet (sAnd (sUn (dIsi .tuple) (sVar 0)) (sAnd (sBin dLe (sRow (dLen tb) (sCons (sVar 0) (sNil))) (sC (.int 200))) (sRow (one dAll) (sCons (sComp [1] (.name 1) (iOf (sVar 0)) none (sAnd (sCall 0 [] (sCons (sVar 1) (sNil))) (sBin dGe (sVar 1) (sC (.int 0))))) (sNil)))))) (pNil))⟩ -- is_path
def d3 : Def := ⟨1, 1, (pSeq (pIf (sUn dNot (sCall 2 [] (sCons (sVar 0) (sNil)))) (pSeq (pRaise0 1) (pNil)) (pNil)) (pNil))⟩ -- check_path
def d4 : Def := ⟨1, 2, (pSeq (pIf (sOr (sUn dNot (sUn (dIsi .str) (sVar 0))) (sOr (sUn dNot (sChain dLe dLe (sC (.int 1)) (sRow (dLen tb) (sCons (sVar 0) (sNil))) (sC (.int 30)))) (sOr (sBin (dNotInB tb) (sBin (dIx tb) (sVar 0) (sC (.int 0))) (sC (.str [97, 98, 99, 100, 101, 102, 103, 104, 105, 106, 107, 108, 109, 110, 111, 112, 113, 114, 115, 116, 117, 118, 119, 120, 121, 122, 65, 66, 67, 68, 69, 70, 71, 72, 73, 74, 75, 76, 77, 78, 79, 80, 81, 82, 83, 84, 85, 86, 87, 88, 89, 90]))) (sBin dEqB (sBin (dIx tb) (sVar 0) (sUn dNeg (sC (.int 1)))) (sC (.str [46])))))) (pSeq (pRet (sC (.bl false))) (pNil)) (pNil)) (pSeq (pRet (sRow (one dAll) (sCons (sComp [1] (.name 1) (iOf (sVar 0)) none (sOr (sBin (dInB tb) (sVar 1) (sC (.str [97, 98, 99, 100, 101, 102, 103, 104, 105, 106, 107, 108, 109, 110, 111, 112, 113, 114, 115, 116, 117, 118, 119, 120, 121, 122, 65, 66, 67, 68, 69, 70, 71, 72, 73, 74, 75, 76, 77, 78, 79, 80, 81, 82, 83, 84, 85, 86, 87, 88, 89, 90]))) (sOr (sBin (dInB tb) (sVar 1) (sC (.str [48, 49, 50, 51, 52, 53, 54, 55, 56, 57]))) (sBin (dInB tb) (sVar 1) (sC (.str [95, 46])))))) (sNil)))) (pNil)))⟩ -- is_plain
def d5 : Def := ⟨1, 2, (pSeq (pRet (sAnd (sUn (dIsi .str) (sVar 0)) (sAnd (sBin dGe (sRow (dLen tb) (sCons (sVar 0) (sNil))) (sC (.int 2))) (sAnd (sBin dEqB (sBin (dIx tb) (sVar 0) (sC (.int 0))) (sC (.str [120]))) (sRow (one dAll) (sCons (sComp [1] (.name 1) (iOf (sSlice (sVar 0) (some (sC (.int 1))) none)) none (sBin (dInB tb) (sVar 1) (sC (.str [48, 49, 50, 51, 52, 53, 54, 55, 56, 57])))) (sNil))))))) (pNil))⟩ -- is_local
def d6 : Def := ⟨1, 2, (pSeq (pIf (sOr (sUn dNot (sCall 4 [] (sCons (sVar 0) (sNil)))) (sOr (sBin (dInB tb) (sVar 0) (sC (.tup [.str [100, 97, 116, 97], .str [100, 101, 102], .str [97, 120, 105, 111, 109], .str [112, 114, 111, 118, 101], .str [98, 121], .str [99, 104, 101, 99, 107], .str [101, 118, 97, 108], .str [114, 117, 110], .str [115, 97, 109, 101], .str [108, 101, 116], .str [105, 110], .str [85]]))) (sCall 5 [] (sCons (sVar 0) (sNil))))) (pSeq (pRet (sC (.bl false))) (pNil)) (pNil)) (pSeq (pRet (sUn dNot (sAnd (sBin dEqB (sBin (dIx tb) (sVar 0) (sC (.int 0))) (sC (.str [85]))) (sRow (one dAll) (sCons (sComp [1] (.name 1) (iOf (sSlice (sVar 0) (some (sC (.int 1))) none)) none (sBin (dInB tb) (sVar 1) (sC (.str [48, 49, 50, 51, 52, 53, 54, 55, 56, 57])))) (sNil)))))) (pNil)))⟩ -- is_name
def d7 : Def := ⟨1, 3, (pSeq (pRet (sRow (dTuple) (sCons (sComp [1, 2] (.tup [1, 2]) (iOf (sBin (dIx tb) (sC (.kd 0)) (sBin (dIx tb) (sVar 0) (sC (.int 0))))) none (sBin (dIx tb) (sVar 0) (sVar 1))) (sNil)))) (pNil))⟩ -- kids_of
def d8 : Def := ⟨1, 3, (pSeq (pRet (sRow (dTuple) (sCons (sComp [1, 2] (.tup [1, 2]) (iOf (sBin (dIx tb) (sC (.kd 0)) (sBin (dIx tb) (sVar 0) (sC (.int 0))))) none (sVar 2)) (sNil)))) (pNil))⟩ -- binds_of
def d9 : Def := ⟨2, 2, (pSeq (pRet (sIf (sBin dGt (sRow (dLen tb) (sCons (sVar 1) (sNil))) (sC (.int 0))) (sBin dAdd (sTup (sCons (sBin (dIx tb) (sVar 0) (sC (.int 0))) (sNil))) (sRow (dTuple) (sCons (sVar 1) (sNil)))) (sVar 0))) (pNil))⟩ -- rebuilt
def d10 : Def := ⟨1, 6, (pSeq (pTup [1, 2] (sTup (sCons (sLst (sCons (sTup (sCons (sVar 0) (sCons (sC (.int 0)) (sNil)))) (sNil))) (sCons (sC (.int 0)) (sNil))))) (pSeq (pWhile (sBin dGt (sRow (dLen tb) (sCons (sVar 1) (sNil))) (sC (.int 0))) (pSeq (pTup [3, 4] (sMeth dPop (sVar 1) sNil)) (pSeq (pSet 2 (sBin dAdd (sVar 2) (sC (.int 1)))) (pSeq (pIf (sOr (sBin dGt (sVar 2) (sC (.int 6000))) (sOr (sBin dGt (sVar 4) (sC (.int 100))) (sUn dNot (sCall 11 [] (sCons (sVar 3) (sNil)))))) (pSeq (pRet (sC (.bl false))) (pNil)) (pNil)) (pSeq (pDrop (sMeth dExtend (sVar 1) (sCons (sComp [5] (.name 5) (iOf (sCall 7 [] (sCons (sVar 3) (sNil)))) none (sTup (sCons (sVar 5) (sCons (sBin dAdd (sVar 4) (sC (.int 1))) (sNil))))) (sNil)))) (pNil)))))) (pSeq (pRet (sC (.bl true))) (pNil))))⟩ -- is_term
def d11 : Def := ⟨1, 1, (pSeq (pIf (sOr (sUn dNot (sUn (dIsi .tuple) (sVar 0))) (sOr (sBin dEqB (sRow (dLen tb) (sCons (sVar 0) (sNil))) (sC (.int 0))) (sOr (sUn dNot (sUn (dIsi .str) (sBin (dIx tb) (sVar 0) (sC (.int 0))))) (sBin (dNotInB tb) (sBin (dIx tb) (sVar 0) (sC (.int 0))) (sC (.kd 0)))))) (pSeq (pRet (sC (.bl false))) (pNil)) (pNil)) (pSeq (pIf (sBin (dInB tb) (sBin (dIx tb) (sVar 0) (sC (.int 0))) (sTup (sCons (sC (.str [102, 114, 101, 101])) (sCons (sC (.str [104, 111, 108, 101])) (sNil))))) (pSeq (pRet (sC (.bl false))) (pNil)) (pNil)) (pSeq (pIf (sBin dEqB (sBin (dIx tb) (sVar 0) (sC (.int 0))) (sC (.str [97, 116]))) (pSeq (pRet (sAnd (sBin dEqB (sRow (dLen tb) (sCons (sVar 0) (sNil))) (sC (.int 2))) (sAnd (sCall 0 [] (sCons (sBin (dIx tb) (sVar 0) (sC (.int 1))) (sNil))) (sChain dLe dLe (sC (.int 0)) (sBin (dIx tb) (sVar 0) (sC (.int 1))) (sC (.int 1000)))))) (pNil)) (pNil)) (pSeq (pIf (sBin dEqB (sBin (dIx tb) (sVar 0) (sC (.int 0))) (sC (.str [110, 97, 109, 101]))) (pSeq (pRet (sAnd (sBin dEqB (sRow (dLen tb) (sCons (sVar 0) (sNil))) (sC (.int 2))) (sCall 6 [] (sCons (sBin (dIx tb) (sVar 0) (sC (.int 1))) (sNil))))) (pNil)) (pNil)) (pSeq (pIf (sBin dEqB (sBin (dIx tb) (sVar 0) (sC (.int 0))) (sC (.str [115, 111, 114, 116]))) (pSeq (pRet (sAnd (sBin dEqB (sRow (dLen tb) (sCons (sVar 0) (sNil))) (sC (.int 2))) (sAnd (sCall 0 [] (sCons (sBin (dIx tb) (sVar 0) (sC (.int 1))) (sNil))) (sChain dLe dLe (sC (.int 0)) (sBin (dIx tb) (sVar 0) (sC (.int 1))) (sC (.int 5)))))) (pNil)) (pNil)) (pSeq (pRet (sBin dEqB (sRow (dLen tb) (sCons (sVar 0) (sNil))) (sBin dAdd (sRow (dLen tb) (sCons (sBin (dIx tb) (sC (.kd 0)) (sBin (dIx tb) (sVar 0) (sC (.int 0)))) (sNil))) (sC (.int 1))))) (pNil)))))))⟩ -- is_node
def d12 : Def := ⟨1, 2, (pSeq (pRet (sBin dAdd (sC (.int 1)) (sRow (one dSum) (sCons (sComp [1] (.name 1) (iOf (sCall 7 [] (sCons (sVar 0) (sNil)))) none (sCall 12 [] (sCons (sVar 1) (sNil)))) (sNil))))) (pNil))⟩ -- size_of
def d13 : Def := ⟨1, 2, (pSeq (pRet (sRow (dMax) (sCons (sBin dAdd (sLst (sCons (sC (.int 0)) (sNil))) (sComp [1] (.name 1) (iOf (sCall 7 [] (sCons (sVar 0) (sNil)))) none (sBin dAdd (sC (.int 1)) (sCall 13 [] (sCons (sVar 1) (sNil)))))) (sNil)))) (pNil))⟩ -- depth_of
def d14 : Def := ⟨3, 5, (pSeq (pIf (sBin dEqB (sBin (dIx tb) (sVar 0) (sC (.int 0))) (sC (.str [97, 116]))) (pSeq (pRet (sIf (sBin dGe (sBin (dIx tb) (sVar 0) (sC (.int 1))) (sVar 2)) (sTup (sCons (sC (.str [97, 116])) (sCons (sBin dAdd (sBin (dIx tb) (sVar 0) (sC (.int 1))) (sVar 1)) (sNil)))) (sVar 0))) (pNil)) (pNil)) (pSeq (pRet (sCall 9 [] (sCons (sVar 0) (sCons (sComp [3, 4] (.tup [3, 4]) (iZip (sCons (sCall 7 [] (sCons (sVar 0) (sNil))) (sCons (sCall 8 [] (sCons (sVar 0) (sNil))) (sNil)))) none (sCall 14 [] (sCons (sVar 3) (sCons (sVar 1) (sCons (sBin dAdd (sVar 2) (sVar 4)) (sNil)))))) (sNil))))) (pNil)))⟩ -- shifted
def d15 : Def := ⟨3, 5, (pSeq (pIf (sBin dEqB (sBin (dIx tb) (sVar 0) (sC (.int 0))) (sC (.str [97, 116]))) (pSeq (pIf (sBin dEqB (sBin (dIx tb) (sVar 0) (sC (.int 1))) (sVar 2)) (pSeq (pRet (sCall 14 [.int 0] (sCons (sVar 1) (sCons (sVar 2) (sNil))))) (pNil)) (pNil)) (pSeq (pRet (sIf (sBin dGt (sBin (dIx tb) (sVar 0) (sC (.int 1))) (sVar 2)) (sTup (sCons (sC (.str [97, 116])) (sCons (sBin dSub (sBin (dIx tb) (sVar 0) (sC (.int 1))) (sC (.int 1))) (sNil)))) (sVar 0))) (pNil))) (pNil)) (pSeq (pRet (sCall 9 [] (sCons (sVar 0) (sCons (sComp [3, 4] (.tup [3, 4]) (iZip (sCons (sCall 7 [] (sCons (sVar 0) (sNil))) (sCons (sCall 8 [] (sCons (sVar 0) (sNil))) (sNil)))) none (sCall 15 [] (sCons (sVar 3) (sCons (sVar 1) (sCons (sBin dAdd (sVar 2) (sVar 4)) (sNil)))))) (sNil))))) (pNil)))⟩ -- put
def d16 : Def := ⟨2, 4, (pSeq (pSet 2 (sVar 0)) (pSeq (pFor (.name 3) (iR3 (sCons (sBin dSub (sRow (dLen tb) (sCons (sVar 1) (sNil))) (sC (.int 1))) (sCons (sUn dNeg (sC (.int 1))) (sCons (sUn dNeg (sC (.int 1))) (sNil))))) (pSeq (pSet 2 (sCall 15 [.int 0] (sCons (sVar 2) (sCons (sCall 14 [.int 0] (sCons (sBin (dIx tb) (sVar 1) (sVar 3)) (sCons (sVar 3) (sNil)))) (sNil))))) (pNil))) (pSeq (pRet (sVar 2)) (pNil))))⟩ -- put_all
def d17 : Def := ⟨1, 7, (pSeq (pTup [1, 2] (sTup (sCons (sDict) (sCons (sLst (sCons (sTup (sCons (sVar 0) (sCons (sC (.int 0)) (sNil)))) (sNil))) (sNil))))) (pSeq (pWhile (sBin dGt (sRow (dLen tb) (sCons (sVar 2) (sNil))) (sC (.int 0))) (pSeq (pTup [3, 4] (sMeth dPop (sVar 2) sNil)) (pSeq (pIf (sAnd (sBin dEqB (sBin (dIx tb) (sVar 3) (sC (.int 0))) (sC (.str [97, 116]))) (sBin dGe (sBin (dIx tb) (sVar 3) (sC (.int 1))) (sVar 4))) (pSeq (pPut (sVar 1) (sBin dSub (sBin (dIx tb) (sVar 3) (sC (.int 1))) (sVar 4)) (sC (.bl true))) (pNil)) (pNil)) (pSeq (pDrop (sMeth dExtend (sVar 2) (sCons (sComp [5, 6] (.tup [5, 6]) (iZip (sCons (sCall 7 [] (sCons (sVar 3) (sNil))) (sCons (sCall 8 [] (sCons (sVar 3) (sNil))) (sNil)))) none (sTup (sCons (sVar 5) (sCons (sBin dAdd (sVar 4) (sVar 6)) (sNil))))) (sNil)))) (pNil))))) (pSeq (pRet (sRow (dTuple) (sCons (sRow (one dSorted) (sCons (sVar 1) (sNil))) (sNil)))) (pNil))))⟩ -- free_places
def d18 : Def := ⟨1, 4, (pSeq (pTup [1, 2] (sTup (sCons (sDict) (sCons (sLst (sCons (sVar 0) (sNil))) (sNil))))) (pSeq (pWhile (sBin dGt (sRow (dLen tb) (sCons (sVar 2) (sNil))) (sC (.int 0))) (pSeq (pSet 3 (sMeth dPop (sVar 2) sNil)) (pSeq (pIf (sBin dEqB (sBin (dIx tb) (sVar 3) (sC (.int 0))) (sC (.str [110, 97, 109, 101]))) (pSeq (pPut (sVar 1) (sBin (dIx tb) (sVar 3) (sC (.int 1))) (sC (.bl true))) (pNil)) (pNil)) (pSeq (pDrop (sMeth dExtend (sVar 2) (sCons (sRow (dList) (sCons (sCall 7 [] (sCons (sVar 3) (sNil))) (sNil))) (sNil)))) (pNil))))) (pSeq (pRet (sRow (dTuple) (sCons (sRow (one dSorted) (sCons (sVar 1) (sNil))) (sNil)))) (pNil))))⟩ -- names_in
def d19 : Def := ⟨2, 4, (pSeq (pSet 2 (sVar 0)) (pSeq (pFor (.name 3) (iOf (sVar 1)) (pSeq (pSet 2 (sTup (sCons (sC (.str [97, 112, 112])) (sCons (sVar 2) (sCons (sVar 3) (sNil)))))) (pNil))) (pSeq (pRet (sVar 2)) (pNil))))⟩ -- app_of
def d20 : Def := ⟨1, 2, (pSeq (pSet 1 (sLst (sNil))) (pSeq (pWhile (sBin dEqB (sBin (dIx tb) (sVar 0) (sC (.int 0))) (sC (.str [97, 112, 112]))) (pSeq (pDrop (sMeth dAppend (sVar 1) (sCons (sBin (dIx tb) (sVar 0) (sC (.int 2))) (sNil)))) (pSeq (pSet 0 (sBin (dIx tb) (sVar 0) (sC (.int 1)))) (pNil)))) (pSeq (pRet (sTup (sCons (sVar 0) (sCons (sRow (dTuple) (sCons (sUn dRev (sVar 1)) (sNil))) (sNil))))) (pNil))))⟩ -- spine_of
def d21 : Def := ⟨2, 4, (pSeq (pSet 2 (sVar 1)) (pSeq (pFor (.name 3) (iOf (sUn dRev (sVar 0))) (pSeq (pSet 2 (sTup (sCons (sC (.str [112, 105])) (sCons (sVar 3) (sCons (sVar 2) (sNil)))))) (pNil))) (pSeq (pRet (sVar 2)) (pNil))))⟩ -- pi_of
def d22 : Def := ⟨2, 4, (pSeq (pSet 2 (sVar 1)) (pSeq (pFor (.name 3) (iOf (sUn dRev (sVar 0))) (pSeq (pSet 2 (sTup (sCons (sC (.str [102, 117, 110])) (sCons (sVar 3) (sCons (sVar 2) (sNil)))))) (pNil))) (pSeq (pRet (sVar 2)) (pNil))))⟩ -- fun_of
def d23 : Def := ⟨1, 2, (pSeq (pSet 1 (sLst (sNil))) (pSeq (pWhile (sBin dEqB (sBin (dIx tb) (sVar 0) (sC (.int 0))) (sC (.str [112, 105]))) (pSeq (pDrop (sMeth dAppend (sVar 1) (sCons (sBin (dIx tb) (sVar 0) (sC (.int 1))) (sNil)))) (pSeq (pSet 0 (sBin (dIx tb) (sVar 0) (sC (.int 2)))) (pNil)))) (pSeq (pRet (sTup (sCons (sRow (dTuple) (sCons (sVar 1) (sNil))) (sCons (sVar 0) (sNil))))) (pNil))))⟩ -- split_pi
def d24 : Def := ⟨1, 7, (pSeq (pTup [1, 2] (sTup (sCons (sLst (sNil)) (sCons (sLst (sCons (sTup (sCons (sTup (sNil)) (sCons (sVar 0) (sNil)))) (sNil))) (sNil))))) (pSeq (pWhile (sBin dGt (sRow (dLen tb) (sCons (sVar 2) (sNil))) (sC (.int 0))) (pSeq (pTup [3, 4] (sMeth dPop (sVar 2) sNil)) (pSeq (pDrop (sMeth dAppend (sVar 1) (sCons (sVar 3) (sNil)))) (pSeq (pSet 5 (sCall 7 [] (sCons (sVar 4) (sNil)))) (pSeq (pDrop (sMeth dExtend (sVar 2) (sCons (sComp [6] (.name 6) (iR3 (sCons (sBin dSub (sRow (dLen tb) (sCons (sVar 5) (sNil))) (sC (.int 1))) (sCons (sUn dNeg (sC (.int 1))) (sCons (sUn dNeg (sC (.int 1))) (sNil))))) none (sTup (sCons (sBin dAdd (sVar 3) (sTup (sCons (sVar 6) (sNil)))) (sCons (sBin (dIx tb) (sVar 5) (sVar 6)) (sNil))))) (sNil)))) (pNil)))))) (pSeq (pRet (sVar 1)) (pNil))))⟩ -- paths_of
def d25 : Def := ⟨2, 4, (pSeq (pDrop (sCall 3 [] (sCons (sVar 1) (sNil)))) (pSeq (pFor (.name 2) (iOf (sVar 1)) (pSeq (pSet 3 (sCall 7 [] (sCons (sVar 0) (sNil)))) (pSeq (pIf (sBin dGe (sVar 2) (sRow (dLen tb) (sCons (sVar 3) (sNil)))) (pSeq (pRaise 2 [0, 1] [.tup []] (sCons (sC (.str [112, 97, 116, 104])) (sNil))) (pNil)) (pNil)) (pSeq (pSet 0 (sBin (dIx tb) (sVar 3) (sVar 2))) (pNil))))) (pSeq (pRet (sVar 0)) (pNil))))⟩ -- part_at
def d26 : Def := ⟨2, 5, (pSeq (pDrop (sCall 3 [] (sCons (sVar 1) (sNil)))) (pSeq (pSet 2 (sC (.int 0))) (pSeq (pFor (.name 3) (iOf (sVar 1)) (pSeq (pSet 4 (sCall 7 [] (sCons (sVar 0) (sNil)))) (pSeq (pIf (sBin dGe (sVar 3) (sRow (dLen tb) (sCons (sVar 4) (sNil)))) (pSeq (pRaise 2 [0, 1] [.tup []] (sCons (sC (.str [112, 97, 116, 104])) (sNil))) (pNil)) (pNil)) (pSeq (pAug dAug 2 (sBin (dIx tb) (sCall 8 [] (sCons (sVar 0) (sNil))) (sVar 3))) (pSeq (pSet 0 (sBin (dIx tb) (sVar 4) (sVar 3))) (pNil)))))) (pSeq (pRet (sVar 2)) (pNil)))))⟩ -- binders_at
def d27 : Def := ⟨3, 4, (pSeq (pIf (sBin dEqB (sRow (dLen tb) (sCons (sVar 1) (sNil))) (sC (.int 0))) (pSeq (pRet (sVar 2)) (pNil)) (pNil)) (pSeq (pSet 3 (sRow (dList) (sCons (sCall 7 [] (sCons (sVar 0) (sNil))) (sNil)))) (pSeq (pIf (sBin dGe (sBin (dIx tb) (sVar 1) (sC (.int 0))) (sRow (dLen tb) (sCons (sVar 3) (sNil)))) (pSeq (pRaise 2 [0, 1] [.tup []] (sCons (sC (.str [112, 97, 116, 104])) (sNil))) (pNil)) (pNil)) (pSeq (pPut (sVar 3) (sBin (dIx tb) (sVar 1) (sC (.int 0))) (sCall 27 [] (sCons (sBin (dIx tb) (sVar 3) (sBin (dIx tb) (sVar 1) (sC (.int 0)))) (sCons (sSlice (sVar 1) (some (sC (.int 1))) none) (sCons (sVar 2) (sNil)))))) (pSeq (pRet (sCall 9 [] (sCons (sVar 0) (sCons (sVar 3) (sNil))))) (pNil))))))⟩ -- replaced
def d28 : Def := ⟨1, 3, (pSeq (pDrop (sCall 1 [] (sCons (sVar 0) (sCons (sC (.int 0)) (sCons (sC (.int 60)) (sNil)))))) (pSeq (pSet 1 (sTup (sCons (sC (.str [110, 97, 109, 101])) (sCons (sC (.str [122, 101, 114, 111])) (sNil))))) (pSeq (pFor (.name 2) (iR1 (sCons (sVar 0) (sNil))) (pSeq (pSet 1 (sTup (sCons (sC (.str [97, 112, 112])) (sCons (sTup (sCons (sC (.str [110, 97, 109, 101])) (sCons (sC (.str [115, 117, 99, 99])) (sNil)))) (sCons (sVar 1) (sNil)))))) (pNil))) (pSeq (pRet (sVar 1)) (pNil)))))⟩ -- numeral
def d29 : Def := ⟨1, 2, (pSeq (pSet 1 (sC (.int 0))) (pSeq (pWhile (sAnd (sBin dEqB (sBin (dIx tb) (sVar 0) (sC (.int 0))) (sC (.str [97, 112, 112]))) (sBin dEqB (sBin (dIx tb) (sVar 0) (sC (.int 1))) (sTup (sCons (sC (.str [110, 97, 109, 101])) (sCons (sC (.str [115, 117, 99, 99])) (sNil)))))) (pSeq (pTup [1, 0] (sTup (sCons (sBin dAdd (sVar 1) (sC (.int 1))) (sCons (sBin (dIx tb) (sVar 0) (sC (.int 2))) (sNil))))) (pNil))) (pSeq (pRet (sIf (sBin dEqB (sVar 0) (sTup (sCons (sC (.str [110, 97, 109, 101])) (sCons (sC (.str [122, 101, 114, 111])) (sNil))))) (sVar 1) (sC .non))) (pNil))))⟩ -- number_of
def d30 : Def := ⟨1, 4, (pSeq (pSet 1 (sC (.int 0))) (pSeq (pSet 2 (sC (.int 1))) (pSeq (pFor (.name 3) (iOf (sSlice (sVar 0) none (some (sC (.int 63))))) (pSeq (pSet 1 (sBin dAdd (sBin dMul (sVar 1) (sC (.int 1000003))) (sRow (one dAbs) (sCons (sVar 3) (sNil))))) (pSeq (pSet 2 (sBin dMod (sRow (one dToInt) (sCons (sBin dAdd (sBin dMul (sVar 2) (sC (.int 48271))) (sVar 3)) (sNil))) (sC (.int 2147483647)))) (pNil)))) (pSeq (pRet (sLst (sCons (sVar 1) (sCons (sIf (sBin dNeB (sVar 2) (sC (.int 1973665155))) (sVar 2) (sC (.int 7))) (sNil))))) (pNil)))))⟩ -- _law_state
def d31 : Def := ⟨2, 3, (pSeq (pIf (sBin dGt (sBin (dIx tb) (sVar 0) (sC (.int 0))) (sC (.int 0))) (pSeq (pSet 2 (sBin dMod (sRow (one dToInt) (sCons (sBin (dIx tb) (sVar 0) (sC (.int 0))) (sNil))) (sVar 1))) (pSeq (pPut (sVar 0) (sC (.int 0)) (sBin dFdiv (sBin (dIx tb) (sVar 0) (sC (.int 0))) (sVar 1))) (pSeq (pRet (sVar 2)) (pNil)))) (pNil)) (pSeq (pPut (sVar 0) (sC (.int 1)) (sBin dMod (sRow (one dToInt) (sCons (sBin dAdd (sBin dMul (sBin (dIx tb) (sVar 0) (sC (.int 1))) (sC (.int 48271))) (sC (.int 11))) (sNil))) (sC (.int 2147483647)))) (pSeq (pRet (sBin dMod (sRow (one dToInt) (sCons (sBin dFdiv (sBin (dIx tb) (sVar 0) (sC (.int 1))) (sC (.int 7))) (sNil))) (sVar 1))) (pNil))))⟩ -- _law_take
def d32 : Def := ⟨2, 2, (pSeq (pRet (sAnd (sUn (dIsi .bool) (sVar 0)) (sBin dEqB (sVar 0) (sVar 1)))) (pNil))⟩ -- _law_says
def d33 : Def := ⟨1, 1, (pSeq (pRet (sAnd (sUn (dIsi .int) (sVar 0)) (sUn dNot (sUn (dIsi .bool) (sVar 0))))) (pNil))⟩ -- _law_is_whole
def d34 : Def := ⟨2, 3, (pSeq (pIf (sUn (dIsi .bool) (sVar 1)) (pSeq (pRet (sAnd (sUn (dIsi .bool) (sVar 0)) (sBin dEqB (sVar 0) (sVar 1)))) (pNil)) (pNil)) (pSeq (pIf (sUn (dIsi .tuple) (sVar 1)) (pSeq (pRet (sAnd (sUn (dIsi .tuple) (sVar 0)) (sAnd (sBin dEqB (sRow (dLen tb) (sCons (sVar 0) (sNil))) (sRow (dLen tb) (sCons (sVar 1) (sNil)))) (sRow (one dAll) (sCons (sComp [2] (.name 2) (iR1 (sCons (sRow (dLen tb) (sCons (sVar 1) (sNil))) (sNil))) none (sCall 34 [] (sCons (sBin (dIx tb) (sVar 0) (sVar 2)) (sCons (sBin (dIx tb) (sVar 1) (sVar 2)) (sNil))))) (sNil)))))) (pNil)) (pNil)) (pSeq (pIf (sUn (dIsi .list) (sVar 1)) (pSeq (pRet (sAnd (sUn (dIsi .tuple) (sVar 0)) (sCall 34 [] (sCons (sVar 0) (sCons (sRow (dTuple) (sCons (sVar 1) (sNil))) (sNil)))))) (pNil)) (pNil)) (pSeq (pIf (sUn (dIsi .str) (sVar 1)) (pSeq (pRet (sAnd (sUn (dIsi .str) (sVar 0)) (sBin dEqB (sVar 0) (sVar 1)))) (pNil)) (pNil)) (pSeq (pIf (sBin dIsN (sVar 1) (sC .non)) (pSeq (pRet (sBin dIsN (sVar 0) (sC .non))) (pNil)) (pNil)) (pSeq (pRet (sAnd (sCall 33 [] (sCons (sVar 0) (sNil))) (sBin dEqB (sVar 0) (sVar 1)))) (pNil)))))))⟩ -- _law_same
def d35 : Def := ⟨2, 4, (pSeq (pTry (pSeq (pIf (sBin dGt (sRow (dLen tb) (sCons (sVar 1) (sNil))) (sC (.int 3))) (pSeq (pRet (sTup (sCons (sC (.str [116, 111, 108, 100])) (sCons (sIf (sBin dEqB (sRow (dLen tb) (sCons (sVar 1) (sNil))) (sC (.int 4))) (sCallV 0 (sCons (sBin (dIx tb) (sVar 1) (sC (.int 0))) (sCons (sBin (dIx tb) (sVar 1) (sC (.int 1))) (sCons (sBin (dIx tb) (sVar 1) (sC (.int 2))) (sCons (sBin (dIx tb) (sVar 1) (sC (.int 3))) (sNil)))))) (sCallV 0 (sCons (sBin (dIx tb) (sVar 1) (sC (.int 0))) (sCons (sBin (dIx tb) (sVar 1) (sC (.int 1))) (sCons (sBin (dIx tb) (sVar 1) (sC (.int 2))) (sCons (sBin (dIx tb) (sVar 1) (sC (.int 3))) (sCons (sBin (dIx tb) (sVar 1) (sC (.int 4))) (sNil)))))))) (sNil))))) (pNil)) (pNil)) (pSeq (pRet (sTup (sCons (sC (.str [116, 111, 108, 100])) (sCons (sIf (sBin dEqB (sRow (dLen tb) (sCons (sVar 1) (sNil))) (sC (.int 1))) (sCallV 0 (sCons (sBin (dIx tb) (sVar 1) (sC (.int 0))) (sNil))) (sIf (sBin dEqB (sRow (dLen tb) (sCons (sVar 1) (sNil))) (sC (.int 2))) (sCallV 0 (sCons (sBin (dIx tb) (sVar 1) (sC (.int 0))) (sCons (sBin (dIx tb) (sVar 1) (sC (.int 1))) (sNil)))) (sCallV 0 (sCons (sBin (dIx tb) (sVar 1) (sC (.int 0))) (sCons (sBin (dIx tb) (sVar 1) (sC (.int 1))) (sCons (sBin (dIx tb) (sVar 1) (sC (.int 2))) (sNil))))))) (sNil))))) (pNil))) [⟨[1], [0, 2, 3], none, xTup (xCons (xC (.str [109, 97, 108, 102, 111, 114, 109, 101, 100])) (xCons (xC (.non)) (xCons (xC (.non)) (xNil))))⟩, ⟨[3], [0, 1, 2], some 2, fun _ => none⟩, ⟨[2], [0, 1, 3], some 3, xTup (xCons (xC (.str [114, 101, 102, 117, 115, 101, 100])) (xCons (xGet 2 0) (xCons (xGet 2 1) (xNil))))⟩]) (pNil))⟩ -- _law_told
def d36 : Def := ⟨1, 3, (pSeq (pRet (sRow (one dAll) (sCons (sComp [1, 2] (.tup [1, 2]) (iOf (sVar 0)) none (sBin dEqB (sCall 35 [] (sCons (sVar 1) (sCons (sVar 2) (sNil)))) (sTup (sCons (sC (.str [109, 97, 108, 102, 111, 114, 109, 101, 100])) (sCons (sC .non) (sCons (sC .non) (sNil))))))) (sNil)))) (pNil))⟩ -- _law_all_malformed
def d37 : Def := ⟨1, 1, (pSeq (pIf (sBin (dInB tb) (sBin (dIx tb) (sVar 0) (sC (.int 0))) (sTup (sCons (sC (.str [97, 116])) (sCons (sC (.str [110, 97, 109, 101])) (sCons (sC (.str [115, 111, 114, 116])) (sNil)))))) (pSeq (pRet (sTup (sNil))) (pNil)) (pNil)) (pSeq (pRet (sSlice (sVar 0) (some (sC (.int 1))) none)) (pNil)))⟩ -- _law_kids
def d38 : Def := ⟨1, 1, (pSeq (pIf (sBin (dInB tb) (sBin (dIx tb) (sVar 0) (sC (.int 0))) (sTup (sCons (sC (.str [112, 105])) (sCons (sC (.str [102, 117, 110])) (sCons (sC (.str [115, 105, 103])) (sNil)))))) (pSeq (pRet (sTup (sCons (sC (.int 0)) (sCons (sC (.int 1)) (sNil))))) (pNil)) (pNil)) (pSeq (pRet (sIf (sBin dEqB (sBin (dIx tb) (sVar 0) (sC (.int 0))) (sC (.str [108, 101, 116]))) (sTup (sCons (sC (.int 0)) (sCons (sC (.int 0)) (sCons (sC (.int 1)) (sNil))))) (sBin dMul (sTup (sCons (sC (.int 0)) (sNil))) (sRow (dLen tb) (sCons (sCall 37 [] (sCons (sVar 0) (sNil))) (sNil)))))) (pNil)))⟩ -- _law_binds
def d39 : Def := ⟨3, 6, (pSeq (pIf (sBin dEqB (sBin (dIx tb) (sVar 0) (sC (.int 0))) (sC (.str [97, 116]))) (pSeq (pRet (sIf (sBin dGe (sBin (dIx tb) (sVar 0) (sC (.int 1))) (sVar 2)) (sTup (sCons (sC (.str [97, 116])) (sCons (sBin dAdd (sBin (dIx tb) (sVar 0) (sC (.int 1))) (sVar 1)) (sNil)))) (sVar 0))) (pNil)) (pNil)) (pSeq (pTup [3, 4] (sTup (sCons (sCall 37 [] (sCons (sVar 0) (sNil))) (sCons (sCall 38 [] (sCons (sVar 0) (sNil))) (sNil))))) (pSeq (pIf (sBin dEqB (sRow (dLen tb) (sCons (sVar 3) (sNil))) (sC (.int 0))) (pSeq (pRet (sVar 0)) (pNil)) (pNil)) (pSeq (pRet (sBin dAdd (sTup (sCons (sBin (dIx tb) (sVar 0) (sC (.int 0))) (sNil))) (sRow (dTuple) (sCons (sComp [5] (.name 5) (iR1 (sCons (sRow (dLen tb) (sCons (sVar 3) (sNil))) (sNil))) none (sCall 39 [] (sCons (sBin (dIx tb) (sVar 3) (sVar 5)) (sCons (sVar 1) (sCons (sBin dAdd (sVar 2) (sBin (dIx tb) (sVar 4) (sVar 5))) (sNil)))))) (sNil))))) (pNil)))))⟩ -- _law_shift
def d40 : Def := ⟨3, 6, (pSeq (pIf (sBin dEqB (sBin (dIx tb) (sVar 0) (sC (.int 0))) (sC (.str [97, 116]))) (pSeq (pRet (sIf (sBin dEqB (sBin (dIx tb) (sVar 0) (sC (.int 1))) (sVar 2)) (sCall 39 [] (sCons (sVar 1) (sCons (sVar 2) (sCons (sC (.int 0)) (sNil))))) (sIf (sBin dGt (sBin (dIx tb) (sVar 0) (sC (.int 1))) (sVar 2)) (sTup (sCons (sC (.str [97, 116])) (sCons (sBin dSub (sBin (dIx tb) (sVar 0) (sC (.int 1))) (sC (.int 1))) (sNil)))) (sVar 0)))) (pNil)) (pNil)) (pSeq (pTup [3, 4] (sTup (sCons (sCall 37 [] (sCons (sVar 0) (sNil))) (sCons (sCall 38 [] (sCons (sVar 0) (sNil))) (sNil))))) (pSeq (pIf (sBin dEqB (sRow (dLen tb) (sCons (sVar 3) (sNil))) (sC (.int 0))) (pSeq (pRet (sVar 0)) (pNil)) (pNil)) (pSeq (pRet (sBin dAdd (sTup (sCons (sBin (dIx tb) (sVar 0) (sC (.int 0))) (sNil))) (sRow (dTuple) (sCons (sComp [5] (.name 5) (iR1 (sCons (sRow (dLen tb) (sCons (sVar 3) (sNil))) (sNil))) none (sCall 40 [] (sCons (sBin (dIx tb) (sVar 3) (sVar 5)) (sCons (sVar 1) (sCons (sBin dAdd (sVar 2) (sBin (dIx tb) (sVar 4) (sVar 5))) (sNil)))))) (sNil))))) (pNil)))))⟩ -- _law_put
def d41 : Def := ⟨2, 4, (pSeq (pSet 2 (sVar 0)) (pSeq (pFor (.name 3) (iOf (sVar 1)) (pSeq (pSet 2 (sTup (sCons (sC (.str [97, 112, 112])) (sCons (sVar 2) (sCons (sVar 3) (sNil)))))) (pNil))) (pSeq (pRet (sVar 2)) (pNil))))⟩ -- _law_app
def d42 : Def := ⟨1, 3, (pSeq (pSet 1 (sTup (sCons (sC (.str [110, 97, 109, 101])) (sCons (sC (.str [122, 101, 114, 111])) (sNil))))) (pSeq (pFor (.name 2) (iR1 (sCons (sVar 0) (sNil))) (pSeq (pSet 1 (sTup (sCons (sC (.str [97, 112, 112])) (sCons (sTup (sCons (sC (.str [110, 97, 109, 101])) (sCons (sC (.str [115, 117, 99, 99])) (sNil)))) (sCons (sVar 1) (sNil)))))) (pNil))) (pSeq (pRet (sVar 1)) (pNil))))⟩ -- _law_numeral
def d43 : Def := ⟨2, 3, (pSeq (pFor (.name 2) (iOf (sVar 1)) (pSeq (pSet 0 (sBin (dIx tb) (sCall 37 [] (sCons (sVar 0) (sNil))) (sVar 2))) (pNil))) (pSeq (pRet (sVar 0)) (pNil)))⟩ -- _law_at
def d44 : Def := ⟨1, 5, (pSeq (pSet 1 (sLst (sCons (sTup (sNil)) (sNil)))) (pSeq (pSet 2 (sCall 37 [] (sCons (sVar 0) (sNil)))) (pSeq (pFor (.name 3) (iR1 (sCons (sRow (dLen tb) (sCons (sVar 2) (sNil))) (sNil))) (pSeq (pSet 1 (sBin dAdd (sVar 1) (sComp [4] (.name 4) (iOf (sCall 44 [] (sCons (sBin (dIx tb) (sVar 2) (sVar 3)) (sNil)))) none (sBin dAdd (sTup (sCons (sVar 3) (sNil))) (sVar 4))))) (pNil))) (pSeq (pRet (sVar 1)) (pNil)))))⟩ -- _law_paths
def d45 : Def := ⟨3, 4, (pSeq (pIf (sBin dEqB (sRow (dLen tb) (sCons (sVar 1) (sNil))) (sC (.int 0))) (pSeq (pRet (sVar 2)) (pNil)) (pNil)) (pSeq (pSet 3 (sCall 37 [] (sCons (sVar 0) (sNil)))) (pSeq (pRet (sBin dAdd (sBin dAdd (sBin dAdd (sTup (sCons (sBin (dIx tb) (sVar 0) (sC (.int 0))) (sNil))) (sSlice (sVar 3) none (some (sBin (dIx tb) (sVar 1) (sC (.int 0)))))) (sTup (sCons (sCall 45 [] (sCons (sBin (dIx tb) (sVar 3) (sBin (dIx tb) (sVar 1) (sC (.int 0)))) (sCons (sSlice (sVar 1) (some (sC (.int 1))) none) (sCons (sVar 2) (sNil))))) (sNil)))) (sSlice (sVar 3) (some (sBin dAdd (sBin (dIx tb) (sVar 1) (sC (.int 0))) (sC (.int 1)))) none))) (pNil))))⟩ -- _law_swap
def d46 : Def := ⟨2, 6, (pSeq (pSet 2 (sIf (sBin dGt (sVar 1) (sC (.int 0))) (sCall 31 [] (sCons (sVar 0) (sCons (sC (.int 11)) (sNil)))) (sCall 31 [] (sCons (sVar 0) (sCons (sC (.int 3)) (sNil)))))) (pSeq (pIf (sBin dLt (sVar 2) (sC (.int 3))) (pSeq (pRet (sBin (dIx tb) (sTup (sCons (sTup (sCons (sC (.str [97, 116])) (sCons (sCall 31 [] (sCons (sVar 0) (sCons (sC (.int 6)) (sNil)))) (sNil)))) (sCons (sTup (sCons (sC (.str [110, 97, 109, 101])) (sCons (sBin (dIx tb) (sC (.str [102, 103, 104])) (sCall 31 [] (sCons (sVar 0) (sCons (sC (.int 3)) (sNil))))) (sNil)))) (sCons (sTup (sCons (sC (.str [115, 111, 114, 116])) (sCons (sCall 31 [] (sCons (sVar 0) (sCons (sC (.int 6)) (sNil)))) (sNil)))) (sNil))))) (sVar 2))) (pNil)) (pNil)) (pSeq (pSet 3 (sBin (dIx tb) (sTup (sCons (sC (.str [112, 105])) (sCons (sC (.str [102, 117, 110])) (sCons (sC (.str [97, 112, 112])) (sCons (sC (.str [115, 105, 103])) (sCons (sC (.str [112, 97, 105, 114])) (sCons (sC (.str [111, 110, 101])) (sCons (sC (.str [116, 119, 111])) (sCons (sC (.str [108, 101, 116])) (sNil)))))))))) (sBin dSub (sVar 2) (sC (.int 3))))) (pSeq (pSet 4 (sIf (sBin (dInB tb) (sVar 3) (sTup (sCons (sC (.str [111, 110, 101])) (sCons (sC (.str [116, 119, 111])) (sNil))))) (sC (.int 1)) (sIf (sBin (dInB tb) (sVar 3) (sTup (sCons (sC (.str [112, 97, 105, 114])) (sCons (sC (.str [108, 101, 116])) (sNil))))) (sC (.int 3)) (sC (.int 2))))) (pSeq (pRet (sBin dAdd (sTup (sCons (sVar 3) (sNil))) (sRow (dTuple) (sCons (sComp [5] (.name 5) (iR1 (sCons (sVar 4) (sNil))) none (sCall 46 [] (sCons (sVar 0) (sCons (sBin dSub (sVar 1) (sC (.int 1))) (sNil))))) (sNil))))) (pNil))))))⟩ -- _law_loose
def d47 : Def := ⟨2, 6, (pSeq (pIf (sBin dEqB (sBin (dIx tb) (sVar 0) (sC (.int 0))) (sC (.str [97, 116]))) (pSeq (pRet (sIf (sBin dGe (sBin (dIx tb) (sVar 0) (sC (.int 1))) (sVar 1)) (sLst (sCons (sBin dSub (sBin (dIx tb) (sVar 0) (sC (.int 1))) (sVar 1)) (sNil))) (sLst (sNil)))) (pNil)) (pNil)) (pSeq (pTup [2, 3, 4] (sTup (sCons (sLst (sNil)) (sCons (sCall 37 [] (sCons (sVar 0) (sNil))) (sCons (sCall 38 [] (sCons (sVar 0) (sNil))) (sNil)))))) (pSeq (pFor (.name 5) (iR1 (sCons (sRow (dLen tb) (sCons (sVar 3) (sNil))) (sNil))) (pSeq (pSet 2 (sBin dAdd (sVar 2) (sCall 47 [] (sCons (sBin (dIx tb) (sVar 3) (sVar 5)) (sCons (sBin dAdd (sVar 1) (sBin (dIx tb) (sVar 4) (sVar 5))) (sNil)))))) (pNil))) (pSeq (pRet (sVar 2)) (pNil)))))⟩ -- _law_free
def d48 : Def := ⟨2, 4, (pSeq (pSet 2 (sC (.int 0))) (pSeq (pFor (.name 3) (iOf (sVar 1)) (pSeq (pTup [2, 0] (sTup (sCons (sBin dAdd (sVar 2) (sBin (dIx tb) (sCall 38 [] (sCons (sVar 0) (sNil))) (sVar 3))) (sCons (sBin (dIx tb) (sCall 37 [] (sCons (sVar 0) (sNil))) (sVar 3)) (sNil))))) (pNil))) (pSeq (pRet (sVar 2)) (pNil))))⟩ -- _law_around
def d49 : Def := ⟨0, 5, (pSeq (pSet 0 (sLst (sCons (sTup (sCons (sC (.str [97])) (sCons (sC (.bl true)) (sCons (sC (.bl true)) (sNil))))) (sCons (sTup (sCons (sC (.str [120, 49])) (sCons (sC (.bl true)) (sCons (sC (.bl false)) (sNil))))) (sCons (sTup (sCons (sC (.str [120])) (sCons (sC (.bl true)) (sCons (sC (.bl true)) (sNil))))) (sCons (sTup (sCons (sC (.str [120, 97, 49])) (sCons (sC (.bl true)) (sCons (sC (.bl true)) (sNil))))) (sCons (sTup (sCons (sC (.str [85, 49])) (sCons (sC (.bl true)) (sCons (sC (.bl false)) (sNil))))) (sCons (sTup (sCons (sC (.str [85])) (sCons (sC (.bl true)) (sCons (sC (.bl false)) (sNil))))) (sCons (sTup (sCons (sC (.str [85, 97])) (sCons (sC (.bl true)) (sCons (sC (.bl true)) (sNil))))) (sNil)))))))))) (pSeq (pFor (.tup [1, 2, 3]) (iOf (sBin dAdd (sVar 0) (sLst (sCons (sTup (sCons (sC (.str [98, 121])) (sCons (sC (.bl true)) (sCons (sC (.bl false)) (sNil))))) (sCons (sTup (sCons (sC (.str [78, 97, 116, 46, 101, 108, 105, 109, 48])) (sCons (sC (.bl true)) (sCons (sC (.bl true)) (sNil))))) (sCons (sTup (sCons (sC (.str [97, 46])) (sCons (sC (.bl false)) (sCons (sC (.bl false)) (sNil))))) (sCons (sTup (sCons (sC (.str [49, 97])) (sCons (sC (.bl false)) (sCons (sC (.bl false)) (sNil))))) (sNil)))))))) (pSeq (pIf (sOr (sUn dNot (sCall 32 [] (sCons (sCall 4 [] (sCons (sVar 1) (sNil))) (sCons (sVar 2) (sNil))))) (sUn dNot (sCall 32 [] (sCons (sCall 6 [] (sCons (sVar 1) (sNil))) (sCons (sVar 3) (sNil)))))) (pSeq (pRet (sC (.bl false))) (pNil)) (pNil)) (pNil))) (pSeq (pFor (.name 4) (iOf (sLst (sCons (sC (.str [])) (sCons (sC (.str [97, 32, 98])) (sCons (sBin dMul (sC (.str [97])) (sC (.int 31))) (sCons (sC .non) (sCons (sC (.int 5)) (sCons (sTup (sCons (sC (.str [97])) (sNil))) (sCons (sC (.str [97, 45, 98])) (sCons (sC (.str [95, 97])) (sCons (sLst (sCons (sC (.str [97])) (sNil))) (sNil)))))))))))) (pSeq (pIf (sOr (sUn dNot (sCall 32 [] (sCons (sCall 4 [] (sCons (sVar 4) (sNil))) (sCons (sC (.bl false)) (sNil))))) (sOr (sUn dNot (sCall 32 [] (sCons (sCall 6 [] (sCons (sVar 4) (sNil))) (sCons (sC (.bl false)) (sNil))))) (sUn dNot (sCall 32 [] (sCons (sCall 5 [] (sCons (sVar 4) (sNil))) (sCons (sC (.bl false)) (sNil))))))) (pSeq (pRet (sC (.bl false))) (pNil)) (pNil)) (pNil))) (pSeq (pRet (sAnd (sCall 32 [] (sCons (sCall 5 [] (sCons (sC (.str [120, 49, 50])) (sNil))) (sCons (sC (.bl true)) (sNil)))) (sAnd (sCall 32 [] (sCons (sCall 5 [] (sCons (sC (.str [120])) (sNil))) (sCons (sC (.bl false)) (sNil)))) (sCall 32 [] (sCons (sCall 6 [] (sCons (sBin dMul (sC (.str [97])) (sC (.int 30))) (sNil))) (sCons (sC (.bl true)) (sNil))))))) (pNil)))))⟩ -- _law_names_hold
def d50 : Def := ⟨1, 23, (pSeq (pSet 1 (sCall 30 [] (sCons (sVar 0) (sNil)))) (pSeq (pTup [2, 3] (sTup (sCons (sCall 46 [] (sCons (sVar 1) (sCons (sC (.int 3)) (sNil)))) (sCons (sCall 46 [] (sCons (sVar 1) (sCons (sC (.int 2)) (sNil)))) (sNil))))) (pSeq (pSet 4 (sCall 44 [] (sCons (sVar 2) (sNil)))) (pSeq (pSet 5 (sCall 24 [] (sCons (sVar 2) (sNil)))) (pSeq (pIf (sOr (sUn dNot (sUn (dIsi .list) (sVar 5))) (sOr (sUn dNot (sCall 34 [] (sCons (sRow (dTuple) (sCons (sVar 5) (sNil))) (sCons (sRow (dTuple) (sCons (sVar 4) (sNil))) (sNil))))) (sOr (sUn dNot (sCall 34 [] (sCons (sCall 12 [] (sCons (sVar 2) (sNil))) (sCons (sRow (dLen tb) (sCons (sVar 4) (sNil))) (sNil))))) (sUn dNot (sCall 34 [] (sCons (sCall 13 [] (sCons (sVar 2) (sNil))) (sCons (sRow (dMax) (sCons (sComp [11] (.name 11) (iOf (sVar 4)) none (sRow (dLen tb) (sCons (sVar 11) (sNil)))) (sNil))) (sNil)))))))) (pSeq (pRet (sC (.bl false))) (pNil)) (pNil)) (pSeq (pIf (sOr (sBin dNeB (sCall 7 [] (sCons (sVar 2) (sNil))) (sCall 37 [] (sCons (sVar 2) (sNil)))) (sOr (sBin dNeB (sCall 8 [] (sCons (sVar 2) (sNil))) (sCall 38 [] (sCons (sVar 2) (sNil)))) (sOr (sBin dNeB (sCall 9 [] (sCons (sVar 2) (sCons (sRow (dList) (sCons (sCall 7 [] (sCons (sVar 2) (sNil))) (sNil))) (sNil)))) (sVar 2)) (sUn dNot (sCall 32 [] (sCons (sCall 10 [] (sCons (sVar 2) (sNil))) (sCons (sC (.bl true)) (sNil)))))))) (pSeq (pRet (sC (.bl false))) (pNil)) (pNil)) (pSeq (pTup [6, 7, 8] (sTup (sCons (sCall 31 [] (sCons (sVar 1) (sCons (sC (.int 4)) (sNil)))) (sCons (sCall 31 [] (sCons (sVar 1) (sCons (sC (.int 5)) (sNil)))) (sCons (sCall 31 [] (sCons (sVar 1) (sCons (sC (.int 4)) (sNil)))) (sNil)))))) (pSeq (pIf (sOr (sBin dNeB (sCall 14 [.int 0] (sCons (sVar 2) (sCons (sVar 7) (sNil)))) (sCall 39 [] (sCons (sVar 2) (sCons (sVar 7) (sCons (sC (.int 0)) (sNil)))))) (sBin dNeB (sCall 14 [] (sCons (sVar 2) (sCons (sVar 7) (sCons (sVar 8) (sNil))))) (sCall 39 [] (sCons (sVar 2) (sCons (sVar 7) (sCons (sVar 8) (sNil))))))) (pSeq (pRet (sC (.bl false))) (pNil)) (pNil)) (pSeq (pIf (sOr (sBin dNeB (sCall 15 [.int 0] (sCons (sVar 2) (sCons (sVar 3) (sNil)))) (sCall 40 [] (sCons (sVar 2) (sCons (sVar 3) (sCons (sC (.int 0)) (sNil)))))) (sBin dNeB (sCall 15 [] (sCons (sVar 2) (sCons (sVar 3) (sCons (sVar 6) (sNil))))) (sCall 40 [] (sCons (sVar 2) (sCons (sVar 3) (sCons (sVar 6) (sNil))))))) (pSeq (pRet (sC (.bl false))) (pNil)) (pNil)) (pSeq (pIf (sOr (sBin dNeB (sCall 15 [.int 0] (sCons (sCall 14 [.int 0] (sCons (sVar 2) (sCons (sC (.int 1)) (sNil)))) (sCons (sVar 3) (sNil)))) (sVar 2)) (sBin dNeB (sCall 15 [] (sCons (sCall 14 [] (sCons (sVar 2) (sCons (sC (.int 1)) (sCons (sVar 6) (sNil))))) (sCons (sVar 3) (sCons (sVar 6) (sNil))))) (sVar 2))) (pSeq (pRet (sC (.bl false))) (pNil)) (pNil)) (pSeq (pSet 9 (sTup (sCons (sCall 46 [] (sCons (sVar 1) (sCons (sC (.int 1)) (sNil)))) (sCons (sCall 46 [] (sCons (sVar 1) (sCons (sC (.int 1)) (sNil)))) (sNil))))) (pSeq (pIf (sOr (sBin dNeB (sCall 16 [] (sCons (sVar 2) (sCons (sVar 9) (sNil)))) (sCall 40 [] (sCons (sCall 40 [] (sCons (sVar 2) (sCons (sCall 39 [] (sCons (sBin (dIx tb) (sVar 9) (sC (.int 1))) (sCons (sC (.int 1)) (sCons (sC (.int 0)) (sNil))))) (sCons (sC (.int 0)) (sNil))))) (sCons (sBin (dIx tb) (sVar 9) (sC (.int 0))) (sCons (sC (.int 0)) (sNil)))))) (sBin dNeB (sCall 16 [] (sCons (sVar 2) (sCons (sTup (sNil)) (sNil)))) (sVar 2))) (pSeq (pRet (sC (.bl false))) (pNil)) (pNil)) (pSeq (pSet 10 (sCall 47 [] (sCons (sVar 2) (sCons (sC (.int 0)) (sNil))))) (pSeq (pIf (sUn dNot (sCall 34 [] (sCons (sCall 17 [] (sCons (sVar 2) (sNil))) (sCons (sRow (dTuple) (sCons (sComp [22] (.name 22) (iR1 (sCons (sC (.int 1001)) (sNil))) (some (sBin (dInB tb) (sVar 22) (sVar 10))) (sVar 22)) (sNil))) (sNil))))) (pSeq (pRet (sC (.bl false))) (pNil)) (pNil)) (pSeq (pIf (sUn dNot (sCall 34 [] (sCons (sCall 18 [] (sCons (sVar 2) (sNil))) (sCons (sRow (dTuple) (sCons (sComp [22] (.name 22) (iOf (sC (.str [102, 103, 104]))) (some (sRow (one dAny) (sCons (sComp [11] (.name 11) (iOf (sVar 4)) none (sBin dEqB (sCall 43 [] (sCons (sVar 2) (sCons (sVar 11) (sNil)))) (sTup (sCons (sC (.str [110, 97, 109, 101])) (sCons (sVar 22) (sNil)))))) (sNil)))) (sVar 22)) (sNil))) (sNil))))) (pSeq (pRet (sC (.bl false))) (pNil)) (pNil)) (pSeq (pSet 11 (sBin (dIx tb) (sVar 4) (sCall 31 [] (sCons (sVar 1) (sCons (sRow (dLen tb) (sCons (sVar 4) (sNil))) (sNil)))))) (pSeq (pIf (sOr (sBin dNeB (sCall 25 [] (sCons (sVar 2) (sCons (sVar 11) (sNil)))) (sCall 43 [] (sCons (sVar 2) (sCons (sVar 11) (sNil))))) (sOr (sUn dNot (sCall 34 [] (sCons (sCall 26 [] (sCons (sVar 2) (sCons (sVar 11) (sNil)))) (sCons (sCall 48 [] (sCons (sVar 2) (sCons (sVar 11) (sNil)))) (sNil))))) (sBin dNeB (sCall 27 [] (sCons (sVar 2) (sCons (sVar 11) (sCons (sVar 3) (sNil))))) (sCall 45 [] (sCons (sVar 2) (sCons (sVar 11) (sCons (sVar 3) (sNil)))))))) (pSeq (pRet (sC (.bl false))) (pNil)) (pNil)) (pSeq (pSet 12 (sBin dAdd (sVar 11) (sTup (sCons (sC (.int 3)) (sNil))))) (pSeq (pIf (sOr (sBin dNeB (sCall 35 [] (sCons (sC (.fn 25)) (sCons (sTup (sCons (sVar 2) (sCons (sVar 12) (sNil)))) (sNil)))) (sTup (sCons (sC (.str [114, 101, 102, 117, 115, 101, 100])) (sCons (sC (.str [112, 97, 116, 104])) (sCons (sTup (sNil)) (sNil)))))) (sBin dNeB (sCall 35 [] (sCons (sC (.fn 26)) (sCons (sTup (sCons (sVar 2) (sCons (sVar 12) (sNil)))) (sNil)))) (sTup (sCons (sC (.str [114, 101, 102, 117, 115, 101, 100])) (sCons (sC (.str [112, 97, 116, 104])) (sCons (sTup (sNil)) (sNil))))))) (pSeq (pRet (sC (.bl false))) (pNil)) (pNil)) (pSeq (pIf (sBin dNeB (sCall 35 [] (sCons (sC (.fn 27)) (sCons (sTup (sCons (sVar 2) (sCons (sVar 12) (sCons (sVar 3) (sNil))))) (sNil)))) (sTup (sCons (sC (.str [114, 101, 102, 117, 115, 101, 100])) (sCons (sC (.str [112, 97, 116, 104])) (sCons (sTup (sNil)) (sNil)))))) (pSeq (pRet (sC (.bl false))) (pNil)) (pNil)) (pSeq (pTup [13, 14] (sTup (sCons (sTup (sCons (sC (.str [110, 97, 109, 101])) (sCons (sC (.str [102])) (sNil)))) (sCons (sBin dAdd (sTup (sCons (sVar 3) (sNil))) (sVar 9)) (sNil))))) (pSeq (pIf (sOr (sBin dNeB (sCall 19 [] (sCons (sVar 13) (sCons (sVar 14) (sNil)))) (sCall 41 [] (sCons (sVar 13) (sCons (sVar 14) (sNil))))) (sOr (sBin dNeB (sCall 20 [] (sCons (sCall 41 [] (sCons (sVar 13) (sCons (sVar 14) (sNil)))) (sNil))) (sTup (sCons (sVar 13) (sCons (sVar 14) (sNil))))) (sBin dNeB (sCall 20 [] (sCons (sTup (sCons (sC (.str [115, 111, 114, 116])) (sCons (sC (.int 1)) (sNil)))) (sNil))) (sTup (sCons (sTup (sCons (sC (.str [115, 111, 114, 116])) (sCons (sC (.int 1)) (sNil)))) (sCons (sTup (sNil)) (sNil))))))) (pSeq (pRet (sC (.bl false))) (pNil)) (pNil)) (pSeq (pSet 15 (sTup (sCons (sC (.str [115, 111, 114, 116])) (sCons (sC (.int 0)) (sNil))))) (pSeq (pIf (sOr (sBin dNeB (sCall 21 [] (sCons (sVar 9) (sCons (sVar 15) (sNil)))) (sTup (sCons (sC (.str [112, 105])) (sCons (sBin (dIx tb) (sVar 9) (sC (.int 0))) (sCons (sTup (sCons (sC (.str [112, 105])) (sCons (sBin (dIx tb) (sVar 9) (sC (.int 1))) (sCons (sVar 15) (sNil))))) (sNil)))))) (sOr (sBin dNeB (sCall 22 [] (sCons (sVar 9) (sCons (sVar 15) (sNil)))) (sTup (sCons (sC (.str [102, 117, 110])) (sCons (sBin (dIx tb) (sVar 9) (sC (.int 0))) (sCons (sTup (sCons (sC (.str [102, 117, 110])) (sCons (sBin (dIx tb) (sVar 9) (sC (.int 1))) (sCons (sVar 15) (sNil))))) (sNil)))))) (sBin dNeB (sCall 23 [] (sCons (sCall 21 [] (sCons (sVar 14) (sCons (sVar 15) (sNil)))) (sNil))) (sTup (sCons (sVar 14) (sCons (sVar 15) (sNil))))))) (pSeq (pRet (sC (.bl false))) (pNil)) (pNil)) (pSeq (pSet 16 (sCall 31 [] (sCons (sVar 1) (sCons (sC (.int 61)) (sNil))))) (pSeq (pIf (sOr (sBin dNeB (sCall 28 [] (sCons (sVar 16) (sNil))) (sCall 42 [] (sCons (sVar 16) (sNil)))) (sOr (sUn dNot (sCall 34 [] (sCons (sCall 29 [] (sCons (sCall 28 [] (sCons (sVar 16) (sNil))) (sNil))) (sCons (sVar 16) (sNil))))) (sBin dNotN (sCall 29 [] (sCons (sTup (sCons (sC (.str [97, 112, 112])) (sCons (sTup (sCons (sC (.str [110, 97, 109, 101])) (sCons (sC (.str [115, 117, 99, 99])) (sNil)))) (sCons (sTup (sCons (sC (.str [110, 97, 109, 101])) (sCons (sC (.str [102])) (sNil)))) (sNil))))) (sNil))) (sC .non)))) (pSeq (pRet (sC (.bl false))) (pNil)) (pNil)) (pSeq (pSet 17 (sTup (sCons (sC (.str [97, 116])) (sCons (sC (.int 0)) (sNil))))) (pSeq (pFor (.name 18) (iR1 (sCons (sC (.int 101)) (sNil))) (pSeq (pSet 17 (sTup (sCons (sC (.str [111, 110, 101])) (sCons (sVar 17) (sNil))))) (pNil))) (pSeq (pSet 19 (sLst (sCons (sTup (sCons (sC (.str [110, 97, 109, 101])) (sCons (sC (.str [98, 121])) (sNil)))) (sCons (sTup (sCons (sC (.str [110, 97, 109, 101])) (sCons (sC (.int 5)) (sNil)))) (sCons (sTup (sCons (sC (.str [97, 112, 112])) (sCons (sVar 2) (sNil)))) (sCons (sTup (sCons (sC (.str [97, 112, 112])) (sCons (sVar 2) (sCons (sVar 2) (sCons (sVar 2) (sNil)))))) (sCons (sTup (sCons (sC (.str [112, 105])) (sCons (sVar 2) (sCons (sC .non) (sNil))))) (sCons (sTup (sCons (sC (.str [102, 114, 101, 101])) (sCons (sC (.int 0)) (sNil)))) (sCons (sTup (sCons (sC (.str [104, 111, 108, 101])) (sCons (sC (.int 0)) (sNil)))) (sCons (sLst (sCons (sC (.str [97, 116])) (sCons (sC (.int 0)) (sNil)))) (sCons (sTup (sCons (sC (.str [110, 111, 116, 104, 105, 110, 103])) (sCons (sC (.int 1)) (sNil)))) (sNil)))))))))))) (pSeq (pFor (.name 20) (iOf (sBin dAdd (sLst (sCons (sC .non) (sCons (sC (.int 5)) (sCons (sTup (sNil)) (sCons (sTup (sCons (sC (.str [97, 116])) (sNil))) (sCons (sTup (sCons (sC (.str [97, 116])) (sCons (sUn dNeg (sC (.int 1))) (sNil)))) (sCons (sTup (sCons (sC (.str [97, 116])) (sCons (sC (.bl true)) (sNil)))) (sCons (sTup (sCons (sC (.str [97, 116])) (sCons (sC (.int 1001)) (sNil)))) (sCons (sTup (sCons (sC (.str [115, 111, 114, 116])) (sCons (sC (.int 6)) (sNil)))) (sCons (sTup (sCons (sC (.str [115, 111, 114, 116])) (sCons (sC .non) (sNil)))) (sCons (sVar 17) (sCons (sC (.str [97, 116])) (sNil))))))))))))) (sVar 19))) (pSeq (pIf (sUn dNot (sCall 32 [] (sCons (sCall 10 [] (sCons (sVar 20) (sNil))) (sCons (sC (.bl false)) (sNil))))) (pSeq (pRet (sC (.bl false))) (pNil)) (pNil)) (pNil))) (pSeq (pFor (.tup [20, 21]) (iOf (sLst (sCons (sTup (sCons (sTup (sNil)) (sCons (sC (.bl true)) (sNil)))) (sCons (sTup (sCons (sTup (sCons (sC (.int 0)) (sCons (sC (.int 5)) (sNil)))) (sCons (sC (.bl true)) (sNil)))) (sCons (sTup (sCons (sTup (sCons (sUn dNeg (sC (.int 1))) (sNil))) (sCons (sC (.bl false)) (sNil)))) (sCons (sTup (sCons (sTup (sCons (sC (.bl true)) (sNil))) (sCons (sC (.bl false)) (sNil)))) (sCons (sTup (sCons (sLst (sCons (sC (.int 0)) (sNil))) (sCons (sC (.bl false)) (sNil)))) (sCons (sTup (sCons (sC .non) (sCons (sC (.bl false)) (sNil)))) (sCons (sTup (sCons (sBin dMul (sTup (sCons (sC (.int 0)) (sNil))) (sC (.int 201))) (sCons (sC (.bl false)) (sNil)))) (sCons (sTup (sCons (sBin dMul (sTup (sCons (sC (.int 0)) (sNil))) (sC (.int 200))) (sCons (sC (.bl true)) (sNil)))) (sNil))))))))))) (pSeq (pIf (sOr (sUn dNot (sCall 32 [] (sCons (sCall 2 [] (sCons (sVar 20) (sNil))) (sCons (sVar 21) (sNil))))) (sAnd (sUn dNot (sVar 21)) (sUn dNot (sCall 36 [] (sCons (sLst (sCons (sTup (sCons (sC (.fn 25)) (sCons (sTup (sCons (sVar 2) (sCons (sVar 20) (sNil)))) (sNil)))) (sCons (sTup (sCons (sC (.fn 26)) (sCons (sTup (sCons (sVar 2) (sCons (sVar 20) (sNil)))) (sNil)))) (sNil)))) (sNil)))))) (pSeq (pRet (sC (.bl false))) (pNil)) (pNil)) (pNil))) (pSeq (pIf (sOr (sUn dNot (sCall 32 [] (sCons (sCall 0 [] (sCons (sC (.int 5)) (sNil))) (sCons (sC (.bl true)) (sNil))))) (sUn dNot (sCall 32 [] (sCons (sCall 0 [] (sCons (sC (.bl true)) (sNil))) (sCons (sC (.bl false)) (sNil)))))) (pSeq (pRet (sC (.bl false))) (pNil)) (pNil)) (pSeq (pRet (sAnd (sCall 49 [] sNil) (sCall 36 [] (sCons (sComp [20] (.name 20) (iOf (sLst (sCons (sUn dNeg (sC (.int 1))) (sCons (sC (.int 61)) (sCons (sC (.bl true)) (sCons (sC .non) (sNil))))))) none (sTup (sCons (sC (.fn 28)) (sCons (sTup (sCons (sVar 20) (sNil))) (sNil))))) (sNil))))) (pNil))))))))))))))))))))))))))))))))))⟩ -- law
def defsL : List Def := [d0, d1, d2, d3, d4, d5, d6, d7, d8, d9, d10, d11, d12, d13, d14, d15, d16, d17, d18, d19, d20, d21, d22, d23, d24, d25, d26, d27, d28, d29, d30, d31, d32, d33, d34, d35, d36, d37, d38, d39, d40, d41, d42, d43, d44, d45, d46, d47, d48, d49, d50]
def pg : Nat → Option Def := fun n => defsL[n]?
/-- what the module holds -/
structure Fx (P : Program) (w : World) (K : PySem.W.Frag) (mg : Str → Option Value) (base : Heap) (fa ca kd : Nat → Addr) : Prop where
  d0 : DefAt K mg (lk fa ca kd) "is_integer" 0
  d1 : DefAt K mg (lk fa ca kd) "check_from" 1
  d2 : DefAt K mg (lk fa ca kd) "is_path" 2
  d3 : DefAt K mg (lk fa ca kd) "check_path" 3
  d4 : DefAt K mg (lk fa ca kd) "is_plain" 4
  d5 : DefAt K mg (lk fa ca kd) "is_local" 5
  d6 : DefAt K mg (lk fa ca kd) "is_name" 6
  d7 : DefAt K mg (lk fa ca kd) "kids_of" 7
  d8 : DefAt K mg (lk fa ca kd) "binds_of" 8
  d9 : DefAt K mg (lk fa ca kd) "rebuilt" 9
  d10 : DefAt K mg (lk fa ca kd) "is_term" 10
  d11 : DefAt K mg (lk fa ca kd) "is_node" 11
  d12 : DefAt K mg (lk fa ca kd) "size_of" 12
  d13 : DefAt K mg (lk fa ca kd) "depth_of" 13
  d14 : DefAt K mg (lk fa ca kd) "shifted" 14
  d15 : DefAt K mg (lk fa ca kd) "put" 15
  d16 : DefAt K mg (lk fa ca kd) "put_all" 16
  d17 : DefAt K mg (lk fa ca kd) "free_places" 17
  d18 : DefAt K mg (lk fa ca kd) "names_in" 18
  d19 : DefAt K mg (lk fa ca kd) "app_of" 19
  d20 : DefAt K mg (lk fa ca kd) "spine_of" 20
  d21 : DefAt K mg (lk fa ca kd) "pi_of" 21
  d22 : DefAt K mg (lk fa ca kd) "fun_of" 22
  d23 : DefAt K mg (lk fa ca kd) "split_pi" 23
  d24 : DefAt K mg (lk fa ca kd) "paths_of" 24
  d25 : DefAt K mg (lk fa ca kd) "part_at" 25
  d26 : DefAt K mg (lk fa ca kd) "binders_at" 26
  d27 : DefAt K mg (lk fa ca kd) "replaced" 27
  d28 : DefAt K mg (lk fa ca kd) "numeral" 28
  d29 : DefAt K mg (lk fa ca kd) "number_of" 29
  d30 : DefAt K mg (lk fa ca kd) "_law_state" 30
  d31 : DefAt K mg (lk fa ca kd) "_law_take" 31
  d32 : DefAt K mg (lk fa ca kd) "_law_says" 32
  d33 : DefAt K mg (lk fa ca kd) "_law_is_whole" 33
  d34 : DefAt K mg (lk fa ca kd) "_law_same" 34
  d35 : DefAt K mg (lk fa ca kd) "_law_told" 35
  d36 : DefAt K mg (lk fa ca kd) "_law_all_malformed" 36
  d37 : DefAt K mg (lk fa ca kd) "_law_kids" 37
  d38 : DefAt K mg (lk fa ca kd) "_law_binds" 38
  d39 : DefAt K mg (lk fa ca kd) "_law_shift" 39
  d40 : DefAt K mg (lk fa ca kd) "_law_put" 40
  d41 : DefAt K mg (lk fa ca kd) "_law_app" 41
  d42 : DefAt K mg (lk fa ca kd) "_law_numeral" 42
  d43 : DefAt K mg (lk fa ca kd) "_law_at" 43
  d44 : DefAt K mg (lk fa ca kd) "_law_paths" 44
  d45 : DefAt K mg (lk fa ca kd) "_law_swap" 45
  d46 : DefAt K mg (lk fa ca kd) "_law_loose" 46
  d47 : DefAt K mg (lk fa ca kd) "_law_free" 47
  d48 : DefAt K mg (lk fa ca kd) "_law_around" 48
  d49 : DefAt K mg (lk fa ca kd) "_law_names_hold" 49
  d50 : DefAt K mg (lk fa ca kd) "law" 50
  b_abs : mg "abs" = none
  b_all : mg "all" = none
  b_any : mg "any" = none
  b_bool : mg "bool" = none
  b_int : mg "int" = none
  b_isinstance : mg "isinstance" = none
  b_len : mg "len" = none
  b_list : mg "list" = none
  b_max : mg "max" = none
  b_range : mg "range" = none
  b_sorted : mg "sorted" = none
  b_str : mg "str" = none
  b_sum : mg "sum" = none
  b_tuple : mg "tuple" = none
  b_zip : mg "zip" = none
  c_LETTERS : CstOk K mg (lk fa ca kd) "LETTERS" (.str [97, 98, 99, 100, 101, 102, 103, 104, 105, 106, 107, 108, 109, 110, 111, 112, 113, 114, 115, 116, 117, 118, 119, 120, 121, 122, 65, 66, 67, 68, 69, 70, 71, 72, 73, 74, 75, 76, 77, 78, 79, 80, 81, 82, 83, 84, 85, 86, 87, 88, 89, 90])
  c_DIGITS : CstOk K mg (lk fa ca kd) "DIGITS" (.str [48, 49, 50, 51, 52, 53, 54, 55, 56, 57])
  c_WORDS : CstOk K mg (lk fa ca kd) "WORDS" (.tup [.str [100, 97, 116, 97], .str [100, 101, 102], .str [97, 120, 105, 111, 109], .str [112, 114, 111, 118, 101], .str [98, 121], .str [99, 104, 101, 99, 107], .str [101, 118, 97, 108], .str [114, 117, 110], .str [115, 97, 109, 101], .str [108, 101, 116], .str [105, 110], .str [85]])
  c_MOST_LEVEL : CstOk K mg (lk fa ca kd) "MOST_LEVEL" (.int 5)
  c_MOST_DEPTH : CstOk K mg (lk fa ca kd) "MOST_DEPTH" (.int 100)
  c_MOST_SIZE : CstOk K mg (lk fa ca kd) "MOST_SIZE" (.int 6000)
  k_KIDS : mg "KIDS" = some (.ref (kd 0))
  keep : ∀ f, PySem.W.keepIn K (.ref ((lk fa ca kd).fa f)) = true
  kdo : KdOk P w K (lk fa ca kd) tb
  m0 : mg "Fault" = some (.ref ((lk fa ca kd).ca 0))
  r0 : RaiO K mg ((lk fa ca kd).ca 0)
  x0 : ExmAt K (lk fa ca kd) 0 [0, 1, 2, 3] []
  m1 : mg "Malformed" = some (.ref ((lk fa ca kd).ca 1))
  r1 : RaiO K mg ((lk fa ca kd).ca 1)
  x1 : ExmAt K (lk fa ca kd) 1 [1] [0, 2, 3]
  m2 : mg "Refused" = some (.ref ((lk fa ca kd).ca 2))
  r2_0 : RaiI P w K mg base (lk fa ca kd) ((lk fa ca kd).ca 2) ([0, 1].map (lk fa ca kd).fn) [.tup []]
  r2_1 : RaiI P w K mg base (lk fa ca kd) ((lk fa ca kd).ca 2) ([0, 1].map (lk fa ca kd).fn) []
  xf2 : XfC K ((lk fa ca kd).ca 2)
  xn2_0 : PySem.W.findIn K (.ref ((lk fa ca kd).ca 2)) "reason" = some none
  xn2_1 : PySem.W.findIn K (.ref ((lk fa ca kd).ca 2)) "path" = some none
  x2 : ExmAt K (lk fa ca kd) 2 [2] [0, 1, 3]
  m3 : mg "NoText" = some (.ref ((lk fa ca kd).ca 3))
  r3_0 : RaiI P w K mg base (lk fa ca kd) ((lk fa ca kd).ca 3) ([2].map (lk fa ca kd).fn) []
  xf3 : XfC K ((lk fa ca kd).ca 3)
  xn3_2 : PySem.W.findIn K (.ref ((lk fa ca kd).ca 3)) "at" = some none
  x3 : ExmAt K (lk fa ca kd) 3 [3] [0, 1, 2]
def top (i : Nat) : Stmt := PySem.Challenge.pw_proofkernel_k00_whole_terms_places_and_p.main.body.getD i (.Pass ⟨0, 0, 0, 0⟩)
section
variable {P : Program} {w : World} {K : PySem.W.Frag} {mg : Str → Option Value} {base : Heap} {fa ca kd : Nat → Addr} {κ : Ctx}
theorem v0 (F : Fx P w K mg base fa ca kd) {f : Addr} {cdv : Value} {A : Around} {outer : List PySem.Env} {s : Shared} {H : Hp} {E : XK} (S : Sit (cxOf (L2.CX P w) P w K mg base [("value" : Str)] "is_integer" (defScope (top 9)) f cdv A outer s H E) (lk fa ca kd) tb κ (fun c d _ H => E c d H)) (hp : PassesOwn (model P w) (cxOf (L2.CX P w) P w K mg base [("value" : Str)] "is_integer" (defScope (top 9)) f cdv A outer s H E).A (cxOf (L2.CX P w) P w K mg base [("value" : Str)] "is_integer" (defScope (top 9)) f cdv A outer s H E).env (cxOf (L2.CX P w) P w K mg base [("value" : Str)] "is_integer" (defScope (top 9)) f cdv A outer s H E).xe) :
    DB (cxOf (L2.CX P w) P w K mg base [("value" : Str)] "is_integer" (defScope (top 9)) f cdv A outer s H E) (lk fa ca kd) κ (fun c d _ H => E c d H) (defBody (top 9)) d0.body :=
  by dsimp only [d0]; refine db_cons (ds_ret (de_and (gIsi (t := .int) (fun _ h => by cases h) PyProof.Rows.Boot.«int» F.b_isinstance F.b_int (gVL 0)) (de_one (de_not (gIsi (t := .bool) (fun _ h => by cases h) PyProof.Rows.Boot.«bool» F.b_isinstance F.b_bool (gVL 0)))))) ?_; exact db_nil
theorem sc0 : FnScope [("value" : Str)] [("value" : Str)] (defScope (top 9)) := ⟨by kernel_rfl, by kernel_rfl, by kernel_rfl, by decide +kernel, by kernel_rfl, by decide +kernel, by decide +kernel⟩
theorem v1 (F : Fx P w K mg base fa ca kd) {f : Addr} {cdv : Value} {A : Around} {outer : List PySem.Env} {s : Shared} {H : Hp} {E : XK} (S : Sit (cxOf (L2.CX P w) P w K mg base [("n" : Str), ("low" : Str), ("high" : Str)] "check_from" (defScope (top 10)) f cdv A outer s H E) (lk fa ca kd) tb κ (fun c d _ H => E c d H)) (hp : PassesOwn (model P w) (cxOf (L2.CX P w) P w K mg base [("n" : Str), ("low" : Str), ("high" : Str)] "check_from" (defScope (top 10)) f cdv A outer s H E).A (cxOf (L2.CX P w) P w K mg base [("n" : Str), ("low" : Str), ("high" : Str)] "check_from" (defScope (top 10)) f cdv A outer s H E).env (cxOf (L2.CX P w) P w K mg base [("n" : Str), ("low" : Str), ("high" : Str)] "check_from" (defScope (top 10)) f cdv A outer s H E).xe) :
    DB (cxOf (L2.CX P w) P w K mg base [("n" : Str), ("low" : Str), ("high" : Str)] "check_from" (defScope (top 10)) f cdv A outer s H E) (lk fa ca kd) κ (fun c d _ H => E c d H) (defBody (top 10)) d1.body :=
  by dsimp only [d1]; refine db_cons (ds_if (tW (dw_or (dt_not (tVal (gCall S 0 F.d0 (gCons (gVL 0) (da_nil))))) (dw_one_or (dt_not (tChain' (fun _ => op_dLe) (fun _ => op_dLe) (gVL 1) (gVL 0) (gVL 2)))))) (by refine db_cons (sRaise0 S F.r1 F.m1) ?_; exact db_nil) (by exact db_nil)) ?_; exact db_nil
theorem sc1 : FnScope [("n" : Str), ("low" : Str), ("high" : Str)] [("n" : Str), ("low" : Str), ("high" : Str)] (defScope (top 10)) := ⟨by kernel_rfl, by kernel_rfl, by kernel_rfl, by decide +kernel, by kernel_rfl, by decide +kernel, by decide +kernel⟩
theorem v2 (F : Fx P w K mg base fa ca kd) {f : Addr} {cdv : Value} {A : Around} {outer : List PySem.Env} {s : Shared} {H : Hp} {E : XK} (S : Sit (cxOf (L2.CX P w) P w K mg base [("value" : Str), ("k" : Str)] "is_path" (defScope (top 11)) f cdv A outer s H E) (lk fa ca kd) tb κ (fun c d _ H => E c d H)) (hp : PassesOwn (model P w) (cxOf (L2.CX P w) P w K mg base [("value" : Str), ("k" : Str)] "is_path" (defScope (top 11)) f cdv A outer s H E).A (cxOf (L2.CX P w) P w K mg base [("value" : Str), ("k" : Str)] "is_path" (defScope (top 11)) f cdv A outer s H E).env (cxOf (L2.CX P w) P w K mg base [("value" : Str), ("k" : Str)] "is_path" (defScope (top 11)) f cdv A outer s H E).xe) :
    DB (cxOf (L2.CX P w) P w K mg base [("value" : Str), ("k" : Str)] "is_path" (defScope (top 11)) f cdv A outer s H E) (lk fa ca kd) κ (fun c d _ H => E c d H) (defBody (top 11)) d2.body :=
  by dsimp only [d2]; refine db_cons (ds_ret (de_and (gIsi (t := .tuple) (fun _ h => by cases h) PyProof.Rows.Boot.«tuple» F.b_isinstance F.b_tuple (gVL 0)) (de_and (gCmp (fun _ => op_dLe) (gB (fun _ => call_dLen (T := tb)) PyProof.Rows.Boot.«len» F.b_len (gCons (gVL 0) (da_nil))) (de_int)) (de_one (gB (fun _ => call_dAll S.calm) PyProof.Rows.Boot.«all» F.b_all (gCons (gLc [("k", 1)] S (di_of (gVL 0)) (fun _ _ _ _ _ S => (gPL 1 S.nd)) (fun s H C cl fp S => cNone s H _ _ fp) (fun _ _ _ _ _ S => (de_and (gCall S 0 F.d0 (gCons (gVL 1) (da_nil))) (de_one (gCmp (fun _ => op_dGe) (gVL 1) (de_int)))))) (da_nil))))))) ?_; exact db_nil
theorem sc2 : FnScope [("value" : Str), ("k" : Str)] [("value" : Str)] (defScope (top 11)) := ⟨by kernel_rfl, by kernel_rfl, by kernel_rfl, by decide +kernel, by kernel_rfl, by decide +kernel, by decide +kernel⟩
theorem v3 (F : Fx P w K mg base fa ca kd) {f : Addr} {cdv : Value} {A : Around} {outer : List PySem.Env} {s : Shared} {H : Hp} {E : XK} (S : Sit (cxOf (L2.CX P w) P w K mg base [("value" : Str)] "check_path" (defScope (top 12)) f cdv A outer s H E) (lk fa ca kd) tb κ (fun c d _ H => E c d H)) (hp : PassesOwn (model P w) (cxOf (L2.CX P w) P w K mg base [("value" : Str)] "check_path" (defScope (top 12)) f cdv A outer s H E).A (cxOf (L2.CX P w) P w K mg base [("value" : Str)] "check_path" (defScope (top 12)) f cdv A outer s H E).env (cxOf (L2.CX P w) P w K mg base [("value" : Str)] "check_path" (defScope (top 12)) f cdv A outer s H E).xe) :
    DB (cxOf (L2.CX P w) P w K mg base [("value" : Str)] "check_path" (defScope (top 12)) f cdv A outer s H E) (lk fa ca kd) κ (fun c d _ H => E c d H) (defBody (top 12)) d3.body :=
  by dsimp only [d3]; refine db_cons (ds_if (dt_not (tVal (gCall S 0 F.d2 (gCons (gVL 0) (da_nil))))) (by refine db_cons (sRaise0 S F.r1 F.m1) ?_; exact db_nil) (by exact db_nil)) ?_; exact db_nil
theorem sc3 : FnScope [("value" : Str)] [("value" : Str)] (defScope (top 12)) := ⟨by kernel_rfl, by kernel_rfl, by kernel_rfl, by decide +kernel, by kernel_rfl, by decide +kernel, by decide +kernel⟩
theorem v4 (F : Fx P w K mg base fa ca kd) {f : Addr} {cdv : Value} {A : Around} {outer : List PySem.Env} {s : Shared} {H : Hp} {E : XK} (S : Sit (cxOf (L2.CX P w) P w K mg base [("text" : Str), ("c" : Str)] "is_plain" (defScope (top 13)) f cdv A outer s H E) (lk fa ca kd) tb κ (fun c d _ H => E c d H)) (hp : PassesOwn (model P w) (cxOf (L2.CX P w) P w K mg base [("text" : Str), ("c" : Str)] "is_plain" (defScope (top 13)) f cdv A outer s H E).A (cxOf (L2.CX P w) P w K mg base [("text" : Str), ("c" : Str)] "is_plain" (defScope (top 13)) f cdv A outer s H E).env (cxOf (L2.CX P w) P w K mg base [("text" : Str), ("c" : Str)] "is_plain" (defScope (top 13)) f cdv A outer s H E).xe) :
    DB (cxOf (L2.CX P w) P w K mg base [("text" : Str), ("c" : Str)] "is_plain" (defScope (top 13)) f cdv A outer s H E) (lk fa ca kd) κ (fun c d _ H => E c d H) (defBody (top 13)) d4.body :=
  by dsimp only [d4]; refine db_cons (ds_if (tW (dw_or (dt_not (tVal (gIsi (t := .str) (fun _ h => by cases h) PyProof.Rows.Boot.«str» F.b_isinstance F.b_str (gVL 0)))) (dw_or (dt_not (tChain' (fun _ => op_dLe) (fun _ => op_dLe) (de_int) (gB (fun _ => call_dLen (T := tb)) PyProof.Rows.Boot.«len» F.b_len (gCons (gVL 0) (da_nil))) (de_int))) (dw_or (tCmp (fun _ => op_dNotIn S.kd S.units) (gIx S (gVL 0) (de_int)) (de_cst (by unfold L2.Gl; kernel_rfl) F.c_LETTERS (by kernel_rfl))) (dw_one_or (tCmp (fun _ => op_dEq S.units) (gIx S (gVL 0) (de_un (de_int) (fun _ => un_dNeg))) (gStr st0))))))) (by refine db_cons (ds_ret (de_bl)) ?_; exact db_nil) (by exact db_nil)) ?_; refine db_cons (ds_ret (gB (fun _ => call_dAll S.calm) PyProof.Rows.Boot.«all» F.b_all (gCons (gLc [("c", 1)] S (di_of (gVL 0)) (fun _ _ _ _ _ S => (gPL 1 S.nd)) (fun s H C cl fp S => cNone s H _ _ fp) (fun _ _ _ _ _ S => (de_or (gCmp (fun _ => op_dIn S.kd S.units) (gVL 1) (de_cst (by unfold L2.Gl; kernel_rfl) F.c_LETTERS (by kernel_rfl))) (de_or (gCmp (fun _ => op_dIn S.kd S.units) (gVL 1) (de_cst (by unfold L2.Gl; kernel_rfl) F.c_DIGITS (by kernel_rfl))) (de_one (gCmp (fun _ => op_dIn S.kd S.units) (gVL 1) (gStr st1))))))) (da_nil)))) ?_; exact db_nil
theorem sc4 : FnScope [("text" : Str), ("c" : Str)] [("text" : Str)] (defScope (top 13)) := ⟨by kernel_rfl, by kernel_rfl, by kernel_rfl, by decide +kernel, by kernel_rfl, by decide +kernel, by decide +kernel⟩
theorem v5 (F : Fx P w K mg base fa ca kd) {f : Addr} {cdv : Value} {A : Around} {outer : List PySem.Env} {s : Shared} {H : Hp} {E : XK} (S : Sit (cxOf (L2.CX P w) P w K mg base [("text" : Str), ("c" : Str)] "is_local" (defScope (top 14)) f cdv A outer s H E) (lk fa ca kd) tb κ (fun c d _ H => E c d H)) (hp : PassesOwn (model P w) (cxOf (L2.CX P w) P w K mg base [("text" : Str), ("c" : Str)] "is_local" (defScope (top 14)) f cdv A outer s H E).A (cxOf (L2.CX P w) P w K mg base [("text" : Str), ("c" : Str)] "is_local" (defScope (top 14)) f cdv A outer s H E).env (cxOf (L2.CX P w) P w K mg base [("text" : Str), ("c" : Str)] "is_local" (defScope (top 14)) f cdv A outer s H E).xe) :
    DB (cxOf (L2.CX P w) P w K mg base [("text" : Str), ("c" : Str)] "is_local" (defScope (top 14)) f cdv A outer s H E) (lk fa ca kd) κ (fun c d _ H => E c d H) (defBody (top 14)) d5.body :=
  by dsimp only [d5]; refine db_cons (ds_ret (de_and (gIsi (t := .str) (fun _ h => by cases h) PyProof.Rows.Boot.«str» F.b_isinstance F.b_str (gVL 0)) (de_and (gCmp (fun _ => op_dGe) (gB (fun _ => call_dLen (T := tb)) PyProof.Rows.Boot.«len» F.b_len (gCons (gVL 0) (da_nil))) (de_int)) (de_and (gCmp (fun _ => op_dEq S.units) (gIx S (gVL 0) (de_int)) (gStr st2)) (de_one (gB (fun _ => call_dAll S.calm) PyProof.Rows.Boot.«all» F.b_all (gCons (gLc [("c", 1)] S (di_of (gSl0 (gVL 0) (de_int))) (fun _ _ _ _ _ S => (gPL 1 S.nd)) (fun s H C cl fp S => cNone s H _ _ fp) (fun _ _ _ _ _ S => (gCmp (fun _ => op_dIn S.kd S.units) (gVL 1) (de_cst (by unfold L2.Gl; kernel_rfl) F.c_DIGITS (by kernel_rfl))))) (da_nil)))))))) ?_; exact db_nil
theorem sc5 : FnScope [("text" : Str), ("c" : Str)] [("text" : Str)] (defScope (top 14)) := ⟨by kernel_rfl, by kernel_rfl, by kernel_rfl, by decide +kernel, by kernel_rfl, by decide +kernel, by decide +kernel⟩
theorem v6 (F : Fx P w K mg base fa ca kd) {f : Addr} {cdv : Value} {A : Around} {outer : List PySem.Env} {s : Shared} {H : Hp} {E : XK} (S : Sit (cxOf (L2.CX P w) P w K mg base [("text" : Str), ("c" : Str)] "is_name" (defScope (top 15)) f cdv A outer s H E) (lk fa ca kd) tb κ (fun c d _ H => E c d H)) (hp : PassesOwn (model P w) (cxOf (L2.CX P w) P w K mg base [("text" : Str), ("c" : Str)] "is_name" (defScope (top 15)) f cdv A outer s H E).A (cxOf (L2.CX P w) P w K mg base [("text" : Str), ("c" : Str)] "is_name" (defScope (top 15)) f cdv A outer s H E).env (cxOf (L2.CX P w) P w K mg base [("text" : Str), ("c" : Str)] "is_name" (defScope (top 15)) f cdv A outer s H E).xe) :
    DB (cxOf (L2.CX P w) P w K mg base [("text" : Str), ("c" : Str)] "is_name" (defScope (top 15)) f cdv A outer s H E) (lk fa ca kd) κ (fun c d _ H => E c d H) (defBody (top 15)) d6.body :=
  by dsimp only [d6]; refine db_cons (ds_if (tW (dw_or (dt_not (tVal (gCall S 0 F.d4 (gCons (gVL 0) (da_nil))))) (dw_or (tCmp (fun _ => op_dIn S.kd S.units) (gVL 0) (de_cst (by unfold L2.Gl; kernel_rfl) F.c_WORDS (by kernel_rfl))) (dw_one_or (tVal (gCall S 0 F.d5 (gCons (gVL 0) (da_nil)))))))) (by refine db_cons (ds_ret (de_bl)) ?_; exact db_nil) (by exact db_nil)) ?_; refine db_cons (ds_ret (de_not (de_and (gCmp (fun _ => op_dEq S.units) (gIx S (gVL 0) (de_int)) (gStr st3)) (de_one (gB (fun _ => call_dAll S.calm) PyProof.Rows.Boot.«all» F.b_all (gCons (gLc [("c", 1)] S (di_of (gSl0 (gVL 0) (de_int))) (fun _ _ _ _ _ S => (gPL 1 S.nd)) (fun s H C cl fp S => cNone s H _ _ fp) (fun _ _ _ _ _ S => (gCmp (fun _ => op_dIn S.kd S.units) (gVL 1) (de_cst (by unfold L2.Gl; kernel_rfl) F.c_DIGITS (by kernel_rfl))))) (da_nil))))))) ?_; exact db_nil
theorem sc6 : FnScope [("text" : Str), ("c" : Str)] [("text" : Str)] (defScope (top 15)) := ⟨by kernel_rfl, by kernel_rfl, by kernel_rfl, by decide +kernel, by kernel_rfl, by decide +kernel, by decide +kernel⟩
theorem v7 (F : Fx P w K mg base fa ca kd) {f : Addr} {cdv : Value} {A : Around} {outer : List PySem.Env} {s : Shared} {H : Hp} {E : XK} (S : Sit (cxOf (L2.CX P w) P w K mg base [("term" : Str), ("k" : Str), ("binds" : Str)] "kids_of" (defScope (top 21)) f cdv A outer s H E) (lk fa ca kd) tb κ (fun c d _ H => E c d H)) (hp : PassesOwn (model P w) (cxOf (L2.CX P w) P w K mg base [("term" : Str), ("k" : Str), ("binds" : Str)] "kids_of" (defScope (top 21)) f cdv A outer s H E).A (cxOf (L2.CX P w) P w K mg base [("term" : Str), ("k" : Str), ("binds" : Str)] "kids_of" (defScope (top 21)) f cdv A outer s H E).env (cxOf (L2.CX P w) P w K mg base [("term" : Str), ("k" : Str), ("binds" : Str)] "kids_of" (defScope (top 21)) f cdv A outer s H E).xe) :
    DB (cxOf (L2.CX P w) P w K mg base [("term" : Str), ("k" : Str), ("binds" : Str)] "kids_of" (defScope (top 21)) f cdv A outer s H E) (lk fa ca kd) κ (fun c d _ H => E c d H) (defBody (top 21)) d7.body :=
  by dsimp only [d7]; refine db_cons (ds_ret (gTy (fun _ => call_dTuple) PyProof.Rows.Boot.«tuple» F.b_tuple (gCons (gLc [("k", 1), ("binds", 2)] S (di_of (gIx S (de_kd (by unfold L2.Gl; kernel_rfl) F.k_KIDS (by kernel_rfl)) (gIx S (gVC 0) (de_int)))) (fun _ _ _ _ _ S => (gPT S.calm (gPs (gPL 1 S.nd) (gPs (gPL 2 S.nd) (gPs0))))) (fun s H C cl fp S => cNone s H _ _ fp) (fun _ _ _ _ _ S => (gIx S (gVC 0) (gVL 1)))) (da_nil)))) ?_; exact db_nil
theorem sc7 : FnScope [("term" : Str), ("k" : Str), ("binds" : Str)] [("term" : Str)] (defScope (top 21)) := ⟨by kernel_rfl, by kernel_rfl, by kernel_rfl, by decide +kernel, by kernel_rfl, by decide +kernel, by decide +kernel⟩
theorem v8 (F : Fx P w K mg base fa ca kd) {f : Addr} {cdv : Value} {A : Around} {outer : List PySem.Env} {s : Shared} {H : Hp} {E : XK} (S : Sit (cxOf (L2.CX P w) P w K mg base [("term" : Str), ("k" : Str), ("binds" : Str)] "binds_of" (defScope (top 22)) f cdv A outer s H E) (lk fa ca kd) tb κ (fun c d _ H => E c d H)) (hp : PassesOwn (model P w) (cxOf (L2.CX P w) P w K mg base [("term" : Str), ("k" : Str), ("binds" : Str)] "binds_of" (defScope (top 22)) f cdv A outer s H E).A (cxOf (L2.CX P w) P w K mg base [("term" : Str), ("k" : Str), ("binds" : Str)] "binds_of" (defScope (top 22)) f cdv A outer s H E).env (cxOf (L2.CX P w) P w K mg base [("term" : Str), ("k" : Str), ("binds" : Str)] "binds_of" (defScope (top 22)) f cdv A outer s H E).xe) :
    DB (cxOf (L2.CX P w) P w K mg base [("term" : Str), ("k" : Str), ("binds" : Str)] "binds_of" (defScope (top 22)) f cdv A outer s H E) (lk fa ca kd) κ (fun c d _ H => E c d H) (defBody (top 22)) d8.body :=
  by dsimp only [d8]; refine db_cons (ds_ret (gTy (fun _ => call_dTuple) PyProof.Rows.Boot.«tuple» F.b_tuple (gCons (gLc [("k", 1), ("binds", 2)] S (di_of (gIx S (de_kd (by unfold L2.Gl; kernel_rfl) F.k_KIDS (by kernel_rfl)) (gIx S (gVL 0) (de_int)))) (fun _ _ _ _ _ S => (gPT S.calm (gPs (gPL 1 S.nd) (gPs (gPL 2 S.nd) (gPs0))))) (fun s H C cl fp S => cNone s H _ _ fp) (fun _ _ _ _ _ S => (gVL 2))) (da_nil)))) ?_; exact db_nil
theorem sc8 : FnScope [("term" : Str), ("k" : Str), ("binds" : Str)] [("term" : Str)] (defScope (top 22)) := ⟨by kernel_rfl, by kernel_rfl, by kernel_rfl, by decide +kernel, by kernel_rfl, by decide +kernel, by decide +kernel⟩
theorem v9 (F : Fx P w K mg base fa ca kd) {f : Addr} {cdv : Value} {A : Around} {outer : List PySem.Env} {s : Shared} {H : Hp} {E : XK} (S : Sit (cxOf (L2.CX P w) P w K mg base [("term" : Str), ("kids" : Str)] "rebuilt" (defScope (top 23)) f cdv A outer s H E) (lk fa ca kd) tb κ (fun c d _ H => E c d H)) (hp : PassesOwn (model P w) (cxOf (L2.CX P w) P w K mg base [("term" : Str), ("kids" : Str)] "rebuilt" (defScope (top 23)) f cdv A outer s H E).A (cxOf (L2.CX P w) P w K mg base [("term" : Str), ("kids" : Str)] "rebuilt" (defScope (top 23)) f cdv A outer s H E).env (cxOf (L2.CX P w) P w K mg base [("term" : Str), ("kids" : Str)] "rebuilt" (defScope (top 23)) f cdv A outer s H E).xe) :
    DB (cxOf (L2.CX P w) P w K mg base [("term" : Str), ("kids" : Str)] "rebuilt" (defScope (top 23)) f cdv A outer s H E) (lk fa ca kd) κ (fun c d _ H => E c d H) (defBody (top 23)) d9.body :=
  by dsimp only [d9]; refine db_cons (ds_ret (de_if (tCmp (fun _ => op_dGt) (gB (fun _ => call_dLen (T := tb)) PyProof.Rows.Boot.«len» F.b_len (gCons (gVL 1) (da_nil))) (de_int)) (de_bin (de_tup (gCons (gIx S (gVL 0) (de_int)) (da_nil))) (gTy (fun _ => call_dTuple) PyProof.Rows.Boot.«tuple» F.b_tuple (gCons (gVL 1) (da_nil))) (fun _ => op_dAdd)) (gVL 0))) ?_; exact db_nil
theorem sc9 : FnScope [("term" : Str), ("kids" : Str)] [("term" : Str), ("kids" : Str)] (defScope (top 23)) := ⟨by kernel_rfl, by kernel_rfl, by kernel_rfl, by decide +kernel, by kernel_rfl, by decide +kernel, by decide +kernel⟩
theorem v10 (F : Fx P w K mg base fa ca kd) {f : Addr} {cdv : Value} {A : Around} {outer : List PySem.Env} {s : Shared} {H : Hp} {E : XK} (S : Sit (cxOf (L2.CX P w) P w K mg base [("value" : Str), ("line" : Str), ("many" : Str), ("own" : Str), ("deep" : Str), ("kid" : Str)] "is_term" (defScope (top 24)) f cdv A outer s H E) (lk fa ca kd) tb κ (fun c d _ H => E c d H)) (hp : PassesOwn (model P w) (cxOf (L2.CX P w) P w K mg base [("value" : Str), ("line" : Str), ("many" : Str), ("own" : Str), ("deep" : Str), ("kid" : Str)] "is_term" (defScope (top 24)) f cdv A outer s H E).A (cxOf (L2.CX P w) P w K mg base [("value" : Str), ("line" : Str), ("many" : Str), ("own" : Str), ("deep" : Str), ("kid" : Str)] "is_term" (defScope (top 24)) f cdv A outer s H E).env (cxOf (L2.CX P w) P w K mg base [("value" : Str), ("line" : Str), ("many" : Str), ("own" : Str), ("deep" : Str), ("kid" : Str)] "is_term" (defScope (top 24)) f cdv A outer s H E).xe) :
    DB (cxOf (L2.CX P w) P w K mg base [("value" : Str), ("line" : Str), ("many" : Str), ("own" : Str), ("deep" : Str), ("kid" : Str)] "is_term" (defScope (top 24)) f cdv A outer s H E) (lk fa ca kd) κ (fun c d _ H => E c d H) (defBody (top 24)) d10.body :=
  by dsimp only [d10]; refine db_cons (sPar S (gCons (de_lst (gCons (de_tup (gCons (gVL 0) (gCons (de_int) (da_nil)))) (da_nil))) (gCons (de_int) (da_nil)))) ?_; refine db_cons (ds_while hp (tCmp (fun _ => op_dGt) (gB (fun _ => call_dLen (T := tb)) PyProof.Rows.Boot.«len» F.b_len (gCons (gVL 1) (da_nil))) (de_int)) (by refine db_cons (sAsg (gPop (gVL 1)) (gPT S.calm (gPs (gPL 3 S.nd) (gPs (gPC 4 S.nd) (gPs0))))) ?_; refine db_cons (sSetL S (de_bin (gVL 2) (de_int) (fun _ => op_dAdd))) ?_; refine db_cons (ds_if (tW (dw_or (tCmp (fun _ => op_dGt) (gVL 2) (de_cst (by unfold L2.Gl; kernel_rfl) F.c_MOST_SIZE (by kernel_rfl))) (dw_or (tCmp (fun _ => op_dGt) (gVC 4) (de_cst (by unfold L2.Gl; kernel_rfl) F.c_MOST_DEPTH (by kernel_rfl))) (dw_one_or (dt_not (tVal (gCall S 0 F.d11 (gCons (gVL 3) (da_nil))))))))) (by refine db_cons (ds_ret (de_bl)) ?_; exact db_nil) (by exact db_nil)) ?_; refine db_cons (sExpr (gExtend (gVL 1) (gCons (gLc [("kid", 5)] S (di_of (gCall S 0 F.d7 (gCons (gVL 3) (da_nil)))) (fun _ _ _ _ _ S => (gPL 5 S.nd)) (fun s H C cl fp S => cNone s H _ _ fp) (fun _ _ _ _ _ S => (de_tup (gCons (gVL 5) (gCons (de_bin (gVC 4) (de_int) (fun _ => op_dAdd)) (da_nil)))))) (da_nil)))) ?_; exact db_nil)) ?_; refine db_cons (ds_ret (de_bl)) ?_; exact db_nil
theorem sc10 : FnScope [("value" : Str), ("line" : Str), ("many" : Str), ("own" : Str), ("deep" : Str), ("kid" : Str)] [("value" : Str)] (defScope (top 24)) := ⟨by kernel_rfl, by kernel_rfl, by kernel_rfl, by decide +kernel, by kernel_rfl, by decide +kernel, by decide +kernel⟩
theorem v11 (F : Fx P w K mg base fa ca kd) {f : Addr} {cdv : Value} {A : Around} {outer : List PySem.Env} {s : Shared} {H : Hp} {E : XK} (S : Sit (cxOf (L2.CX P w) P w K mg base [("own" : Str)] "is_node" (defScope (top 25)) f cdv A outer s H E) (lk fa ca kd) tb κ (fun c d _ H => E c d H)) (hp : PassesOwn (model P w) (cxOf (L2.CX P w) P w K mg base [("own" : Str)] "is_node" (defScope (top 25)) f cdv A outer s H E).A (cxOf (L2.CX P w) P w K mg base [("own" : Str)] "is_node" (defScope (top 25)) f cdv A outer s H E).env (cxOf (L2.CX P w) P w K mg base [("own" : Str)] "is_node" (defScope (top 25)) f cdv A outer s H E).xe) :
    DB (cxOf (L2.CX P w) P w K mg base [("own" : Str)] "is_node" (defScope (top 25)) f cdv A outer s H E) (lk fa ca kd) κ (fun c d _ H => E c d H) (defBody (top 25)) d11.body :=
  by dsimp only [d11]; refine db_cons (ds_if (tW (dw_or (dt_not (tVal (gIsi (t := .tuple) (fun _ h => by cases h) PyProof.Rows.Boot.«tuple» F.b_isinstance F.b_tuple (gVL 0)))) (dw_or (tCmp (fun _ => op_dEq S.units) (gB (fun _ => call_dLen (T := tb)) PyProof.Rows.Boot.«len» F.b_len (gCons (gVL 0) (da_nil))) (de_int)) (dw_or (dt_not (tVal (gIsi (t := .str) (fun _ h => by cases h) PyProof.Rows.Boot.«str» F.b_isinstance F.b_str (gIx S (gVL 0) (de_int))))) (dw_one_or (tCmp (fun _ => op_dNotIn S.kd S.units) (gIx S (gVL 0) (de_int)) (de_kd (by unfold L2.Gl; kernel_rfl) F.k_KIDS (by kernel_rfl)))))))) (by refine db_cons (ds_ret (de_bl)) ?_; exact db_nil) (by exact db_nil)) ?_; refine db_cons (ds_if (tCmp (fun _ => op_dIn S.kd S.units) (gIx S (gVL 0) (de_int)) (de_tup (gCons (gStr st5) (gCons (gStr st4) (da_nil))))) (by refine db_cons (ds_ret (de_bl)) ?_; exact db_nil) (by exact db_nil)) ?_; refine db_cons (ds_if (tCmp (fun _ => op_dEq S.units) (gIx S (gVL 0) (de_int)) (gStr st6)) (by refine db_cons (ds_ret (de_and (gCmp (fun _ => op_dEq S.units) (gB (fun _ => call_dLen (T := tb)) PyProof.Rows.Boot.«len» F.b_len (gCons (gVL 0) (da_nil))) (de_int)) (de_and (gCall S 0 F.d0 (gCons (gIx S (gVL 0) (de_int)) (da_nil))) (de_one (gChain (fun _ => op_dLe) (fun _ => op_dLe) (de_int) (gIx S (gVL 0) (de_int)) (de_int)))))) ?_; exact db_nil) (by exact db_nil)) ?_; refine db_cons (ds_if (tCmp (fun _ => op_dEq S.units) (gIx S (gVL 0) (de_int)) (gStr st7)) (by refine db_cons (ds_ret (de_and (gCmp (fun _ => op_dEq S.units) (gB (fun _ => call_dLen (T := tb)) PyProof.Rows.Boot.«len» F.b_len (gCons (gVL 0) (da_nil))) (de_int)) (de_one (gCall S 0 F.d6 (gCons (gIx S (gVL 0) (de_int)) (da_nil)))))) ?_; exact db_nil) (by exact db_nil)) ?_; refine db_cons (ds_if (tCmp (fun _ => op_dEq S.units) (gIx S (gVL 0) (de_int)) (gStr st8)) (by refine db_cons (ds_ret (de_and (gCmp (fun _ => op_dEq S.units) (gB (fun _ => call_dLen (T := tb)) PyProof.Rows.Boot.«len» F.b_len (gCons (gVL 0) (da_nil))) (de_int)) (de_and (gCall S 0 F.d0 (gCons (gIx S (gVL 0) (de_int)) (da_nil))) (de_one (gChain (fun _ => op_dLe) (fun _ => op_dLe) (de_int) (gIx S (gVL 0) (de_int)) (de_cst (by unfold L2.Gl; kernel_rfl) F.c_MOST_LEVEL (by kernel_rfl))))))) ?_; exact db_nil) (by exact db_nil)) ?_; refine db_cons (ds_ret (gCmp (fun _ => op_dEq S.units) (gB (fun _ => call_dLen (T := tb)) PyProof.Rows.Boot.«len» F.b_len (gCons (gVL 0) (da_nil))) (de_bin (gB (fun _ => call_dLen (T := tb)) PyProof.Rows.Boot.«len» F.b_len (gCons (gIx S (de_kd (by unfold L2.Gl; kernel_rfl) F.k_KIDS (by kernel_rfl)) (gIx S (gVL 0) (de_int))) (da_nil))) (de_int) (fun _ => op_dAdd)))) ?_; exact db_nil
theorem sc11 : FnScope [("own" : Str)] [("own" : Str)] (defScope (top 25)) := ⟨by kernel_rfl, by kernel_rfl, by kernel_rfl, by decide +kernel, by kernel_rfl, by decide +kernel, by decide +kernel⟩
theorem v12 (F : Fx P w K mg base fa ca kd) {f : Addr} {cdv : Value} {A : Around} {outer : List PySem.Env} {s : Shared} {H : Hp} {E : XK} (S : Sit (cxOf (L2.CX P w) P w K mg base [("term" : Str), ("kid" : Str)] "size_of" (defScope (top 26)) f cdv A outer s H E) (lk fa ca kd) tb κ (fun c d _ H => E c d H)) (hp : PassesOwn (model P w) (cxOf (L2.CX P w) P w K mg base [("term" : Str), ("kid" : Str)] "size_of" (defScope (top 26)) f cdv A outer s H E).A (cxOf (L2.CX P w) P w K mg base [("term" : Str), ("kid" : Str)] "size_of" (defScope (top 26)) f cdv A outer s H E).env (cxOf (L2.CX P w) P w K mg base [("term" : Str), ("kid" : Str)] "size_of" (defScope (top 26)) f cdv A outer s H E).xe) :
    DB (cxOf (L2.CX P w) P w K mg base [("term" : Str), ("kid" : Str)] "size_of" (defScope (top 26)) f cdv A outer s H E) (lk fa ca kd) κ (fun c d _ H => E c d H) (defBody (top 26)) d12.body :=
  by dsimp only [d12]; refine db_cons (ds_ret (de_bin (de_int) (gB (fun _ => call_dSum S.calm) PyProof.Rows.Boot.«sum» F.b_sum (gCons (gLc [("kid", 1)] S (di_of (gCall S 0 F.d7 (gCons (gVL 0) (da_nil)))) (fun _ _ _ _ _ S => (gPL 1 S.nd)) (fun s H C cl fp S => cNone s H _ _ fp) (fun _ _ _ _ _ S => (gCall S 0 F.d12 (gCons (gVL 1) (da_nil))))) (da_nil))) (fun _ => op_dAdd))) ?_; exact db_nil
theorem sc12 : FnScope [("term" : Str), ("kid" : Str)] [("term" : Str)] (defScope (top 26)) := ⟨by kernel_rfl, by kernel_rfl, by kernel_rfl, by decide +kernel, by kernel_rfl, by decide +kernel, by decide +kernel⟩
theorem v13 (F : Fx P w K mg base fa ca kd) {f : Addr} {cdv : Value} {A : Around} {outer : List PySem.Env} {s : Shared} {H : Hp} {E : XK} (S : Sit (cxOf (L2.CX P w) P w K mg base [("term" : Str), ("kid" : Str)] "depth_of" (defScope (top 27)) f cdv A outer s H E) (lk fa ca kd) tb κ (fun c d _ H => E c d H)) (hp : PassesOwn (model P w) (cxOf (L2.CX P w) P w K mg base [("term" : Str), ("kid" : Str)] "depth_of" (defScope (top 27)) f cdv A outer s H E).A (cxOf (L2.CX P w) P w K mg base [("term" : Str), ("kid" : Str)] "depth_of" (defScope (top 27)) f cdv A outer s H E).env (cxOf (L2.CX P w) P w K mg base [("term" : Str), ("kid" : Str)] "depth_of" (defScope (top 27)) f cdv A outer s H E).xe) :
    DB (cxOf (L2.CX P w) P w K mg base [("term" : Str), ("kid" : Str)] "depth_of" (defScope (top 27)) f cdv A outer s H E) (lk fa ca kd) κ (fun c d _ H => E c d H) (defBody (top 27)) d13.body :=
  by dsimp only [d13]; refine db_cons (ds_ret (gB (fun _ => call_dMax S.calm) PyProof.Rows.Boot.«max» F.b_max (gCons (de_bin (de_lst (gCons (de_int) (da_nil))) (gLc [("kid", 1)] S (di_of (gCall S 0 F.d7 (gCons (gVL 0) (da_nil)))) (fun _ _ _ _ _ S => (gPL 1 S.nd)) (fun s H C cl fp S => cNone s H _ _ fp) (fun _ _ _ _ _ S => (de_bin (de_int) (gCall S 0 F.d13 (gCons (gVL 1) (da_nil))) (fun _ => op_dAdd)))) (fun _ => op_dAdd)) (da_nil)))) ?_; exact db_nil
theorem sc13 : FnScope [("term" : Str), ("kid" : Str)] [("term" : Str)] (defScope (top 27)) := ⟨by kernel_rfl, by kernel_rfl, by kernel_rfl, by decide +kernel, by kernel_rfl, by decide +kernel, by decide +kernel⟩
theorem v14 (F : Fx P w K mg base fa ca kd) {f : Addr} {cdv : Value} {A : Around} {outer : List PySem.Env} {s : Shared} {H : Hp} {E : XK} (S : Sit (cxOf (L2.CX P w) P w K mg base [("term" : Str), ("by" : Str), ("low" : Str), ("kid" : Str), ("b" : Str)] "shifted" (defScope (top 28)) f cdv A outer s H E) (lk fa ca kd) tb κ (fun c d _ H => E c d H)) (hp : PassesOwn (model P w) (cxOf (L2.CX P w) P w K mg base [("term" : Str), ("by" : Str), ("low" : Str), ("kid" : Str), ("b" : Str)] "shifted" (defScope (top 28)) f cdv A outer s H E).A (cxOf (L2.CX P w) P w K mg base [("term" : Str), ("by" : Str), ("low" : Str), ("kid" : Str), ("b" : Str)] "shifted" (defScope (top 28)) f cdv A outer s H E).env (cxOf (L2.CX P w) P w K mg base [("term" : Str), ("by" : Str), ("low" : Str), ("kid" : Str), ("b" : Str)] "shifted" (defScope (top 28)) f cdv A outer s H E).xe) :
    DB (cxOf (L2.CX P w) P w K mg base [("term" : Str), ("by" : Str), ("low" : Str), ("kid" : Str), ("b" : Str)] "shifted" (defScope (top 28)) f cdv A outer s H E) (lk fa ca kd) κ (fun c d _ H => E c d H) (defBody (top 28)) d14.body :=
  by dsimp only [d14]; refine db_cons (ds_if (tCmp (fun _ => op_dEq S.units) (gIx S (gVL 0) (de_int)) (gStr st6)) (by refine db_cons (ds_ret (de_if (tCmp (fun _ => op_dGe) (gIx S (gVL 0) (de_int)) (gVC 2)) (de_tup (gCons (gStr st6) (gCons (de_bin (gIx S (gVL 0) (de_int)) (gVC 1) (fun _ => op_dAdd)) (da_nil)))) (gVL 0))) ?_; exact db_nil) (by exact db_nil)) ?_; refine db_cons (ds_ret (gCall S 0 F.d9 (gCons (gVL 0) (gCons (gLc [("kid", 3), ("b", 4)] S (iZip' F.b_zip (gCons (gCall S 0 F.d7 (gCons (gVL 0) (da_nil))) (gCons (gCall S 0 F.d8 (gCons (gVL 0) (da_nil))) (da_nil)))) (fun _ _ _ _ _ S => (gPT S.calm (gPs (gPL 3 S.nd) (gPs (gPL 4 S.nd) (gPs0))))) (fun s H C cl fp S => cNone s H _ _ fp) (fun _ _ _ _ _ S => (gCall S 1 F.d14 (gCons (gVL 3) (gCons (gVC 1) (gCons (de_bin (gVC 2) (gVL 4) (fun _ => op_dAdd)) (da_nil))))))) (da_nil))))) ?_; exact db_nil
theorem sc14 : FnScope [("term" : Str), ("by" : Str), ("low" : Str), ("kid" : Str), ("b" : Str)] [("term" : Str), ("by" : Str), ("low" : Str)] (defScope (top 28)) := ⟨by kernel_rfl, by kernel_rfl, by kernel_rfl, by decide +kernel, by kernel_rfl, by decide +kernel, by decide +kernel⟩
theorem v15 (F : Fx P w K mg base fa ca kd) {f : Addr} {cdv : Value} {A : Around} {outer : List PySem.Env} {s : Shared} {H : Hp} {E : XK} (S : Sit (cxOf (L2.CX P w) P w K mg base [("term" : Str), ("value" : Str), ("k" : Str), ("kid" : Str), ("b" : Str)] "put" (defScope (top 29)) f cdv A outer s H E) (lk fa ca kd) tb κ (fun c d _ H => E c d H)) (hp : PassesOwn (model P w) (cxOf (L2.CX P w) P w K mg base [("term" : Str), ("value" : Str), ("k" : Str), ("kid" : Str), ("b" : Str)] "put" (defScope (top 29)) f cdv A outer s H E).A (cxOf (L2.CX P w) P w K mg base [("term" : Str), ("value" : Str), ("k" : Str), ("kid" : Str), ("b" : Str)] "put" (defScope (top 29)) f cdv A outer s H E).env (cxOf (L2.CX P w) P w K mg base [("term" : Str), ("value" : Str), ("k" : Str), ("kid" : Str), ("b" : Str)] "put" (defScope (top 29)) f cdv A outer s H E).xe) :
    DB (cxOf (L2.CX P w) P w K mg base [("term" : Str), ("value" : Str), ("k" : Str), ("kid" : Str), ("b" : Str)] "put" (defScope (top 29)) f cdv A outer s H E) (lk fa ca kd) κ (fun c d _ H => E c d H) (defBody (top 29)) d15.body :=
  by dsimp only [d15]; refine db_cons (ds_if (tCmp (fun _ => op_dEq S.units) (gIx S (gVL 0) (de_int)) (gStr st6)) (by refine db_cons (ds_if (tCmp (fun _ => op_dEq S.units) (gIx S (gVL 0) (de_int)) (gVC 2)) (by refine db_cons (ds_ret (gCall S 0 F.d14 (gCons (gVC 1) (gCons (gVC 2) (da_nil))))) ?_; exact db_nil) (by exact db_nil)) ?_; refine db_cons (ds_ret (de_if (tCmp (fun _ => op_dGt) (gIx S (gVL 0) (de_int)) (gVC 2)) (de_tup (gCons (gStr st6) (gCons (de_bin (gIx S (gVL 0) (de_int)) (de_int) (fun _ => op_dSub)) (da_nil)))) (gVL 0))) ?_; exact db_nil) (by exact db_nil)) ?_; refine db_cons (ds_ret (gCall S 0 F.d9 (gCons (gVL 0) (gCons (gLc [("kid", 3), ("b", 4)] S (iZip' F.b_zip (gCons (gCall S 0 F.d7 (gCons (gVL 0) (da_nil))) (gCons (gCall S 0 F.d8 (gCons (gVL 0) (da_nil))) (da_nil)))) (fun _ _ _ _ _ S => (gPT S.calm (gPs (gPL 3 S.nd) (gPs (gPL 4 S.nd) (gPs0))))) (fun s H C cl fp S => cNone s H _ _ fp) (fun _ _ _ _ _ S => (gCall S 1 F.d15 (gCons (gVL 3) (gCons (gVC 1) (gCons (de_bin (gVC 2) (gVL 4) (fun _ => op_dAdd)) (da_nil))))))) (da_nil))))) ?_; exact db_nil
theorem sc15 : FnScope [("term" : Str), ("value" : Str), ("k" : Str), ("kid" : Str), ("b" : Str)] [("term" : Str), ("value" : Str), ("k" : Str)] (defScope (top 29)) := ⟨by kernel_rfl, by kernel_rfl, by kernel_rfl, by decide +kernel, by kernel_rfl, by decide +kernel, by decide +kernel⟩
theorem v16 (F : Fx P w K mg base fa ca kd) {f : Addr} {cdv : Value} {A : Around} {outer : List PySem.Env} {s : Shared} {H : Hp} {E : XK} (S : Sit (cxOf (L2.CX P w) P w K mg base [("term" : Str), ("values" : Str), ("found" : Str), ("k" : Str)] "put_all" (defScope (top 30)) f cdv A outer s H E) (lk fa ca kd) tb κ (fun c d _ H => E c d H)) (hp : PassesOwn (model P w) (cxOf (L2.CX P w) P w K mg base [("term" : Str), ("values" : Str), ("found" : Str), ("k" : Str)] "put_all" (defScope (top 30)) f cdv A outer s H E).A (cxOf (L2.CX P w) P w K mg base [("term" : Str), ("values" : Str), ("found" : Str), ("k" : Str)] "put_all" (defScope (top 30)) f cdv A outer s H E).env (cxOf (L2.CX P w) P w K mg base [("term" : Str), ("values" : Str), ("found" : Str), ("k" : Str)] "put_all" (defScope (top 30)) f cdv A outer s H E).xe) :
    DB (cxOf (L2.CX P w) P w K mg base [("term" : Str), ("values" : Str), ("found" : Str), ("k" : Str)] "put_all" (defScope (top 30)) f cdv A outer s H E) (lk fa ca kd) κ (fun c d _ H => E c d H) (defBody (top 30)) d16.body :=
  by dsimp only [d16]; refine db_cons (sSetL S (gVL 0)) ?_; refine db_cons (sFor S hp (iR3' F.b_range (gCons (de_bin (gB (fun _ => call_dLen (T := tb)) PyProof.Rows.Boot.«len» F.b_len (gCons (gVL 1) (da_nil))) (de_int) (fun _ => op_dSub)) (gCons (de_un (de_int) (fun _ => un_dNeg)) (gCons (de_un (de_int) (fun _ => un_dNeg)) (da_nil))))) (gPL 3 S.nd) (by refine db_cons (sSetL S (gCall S 0 F.d15 (gCons (gVL 2) (gCons (gCall S 0 F.d14 (gCons (gIx S (gVL 1) (gVL 3)) (gCons (gVL 3) (da_nil)))) (da_nil))))) ?_; exact db_nil)) ?_; refine db_cons (ds_ret (gVL 2)) ?_; exact db_nil
theorem sc16 : FnScope [("term" : Str), ("values" : Str), ("found" : Str), ("k" : Str)] [("term" : Str), ("values" : Str)] (defScope (top 30)) := ⟨by kernel_rfl, by kernel_rfl, by kernel_rfl, by decide +kernel, by kernel_rfl, by decide +kernel, by decide +kernel⟩
theorem v17 (F : Fx P w K mg base fa ca kd) {f : Addr} {cdv : Value} {A : Around} {outer : List PySem.Env} {s : Shared} {H : Hp} {E : XK} (S : Sit (cxOf (L2.CX P w) P w K mg base [("term" : Str), ("found" : Str), ("line" : Str), ("own" : Str), ("deep" : Str), ("kid" : Str), ("b" : Str)] "free_places" (defScope (top 31)) f cdv A outer s H E) (lk fa ca kd) tb κ (fun c d _ H => E c d H)) (hp : PassesOwn (model P w) (cxOf (L2.CX P w) P w K mg base [("term" : Str), ("found" : Str), ("line" : Str), ("own" : Str), ("deep" : Str), ("kid" : Str), ("b" : Str)] "free_places" (defScope (top 31)) f cdv A outer s H E).A (cxOf (L2.CX P w) P w K mg base [("term" : Str), ("found" : Str), ("line" : Str), ("own" : Str), ("deep" : Str), ("kid" : Str), ("b" : Str)] "free_places" (defScope (top 31)) f cdv A outer s H E).env (cxOf (L2.CX P w) P w K mg base [("term" : Str), ("found" : Str), ("line" : Str), ("own" : Str), ("deep" : Str), ("kid" : Str), ("b" : Str)] "free_places" (defScope (top 31)) f cdv A outer s H E).xe) :
    DB (cxOf (L2.CX P w) P w K mg base [("term" : Str), ("found" : Str), ("line" : Str), ("own" : Str), ("deep" : Str), ("kid" : Str), ("b" : Str)] "free_places" (defScope (top 31)) f cdv A outer s H E) (lk fa ca kd) κ (fun c d _ H => E c d H) (defBody (top 31)) d17.body :=
  by dsimp only [d17]; refine db_cons (sPar S (gCons (de_dict) (gCons (de_lst (gCons (de_tup (gCons (gVL 0) (gCons (de_int) (da_nil)))) (da_nil))) (da_nil)))) ?_; refine db_cons (ds_while hp (tCmp (fun _ => op_dGt) (gB (fun _ => call_dLen (T := tb)) PyProof.Rows.Boot.«len» F.b_len (gCons (gVL 2) (da_nil))) (de_int)) (by refine db_cons (sAsg (gPop (gVL 2)) (gPT S.calm (gPs (gPL 3 S.nd) (gPs (gPC 4 S.nd) (gPs0))))) ?_; refine db_cons (ds_if (tW (dw_and (tCmp (fun _ => op_dEq S.units) (gIx S (gVL 3) (de_int)) (gStr st6)) (dw_one_and (tCmp (fun _ => op_dGe) (gIx S (gVL 3) (de_int)) (gVC 4))))) (by refine db_cons (sPut S (gVL 1) (de_bin (gIx S (gVL 3) (de_int)) (gVC 4) (fun _ => op_dSub)) (de_bl)) ?_; exact db_nil) (by exact db_nil)) ?_; refine db_cons (sExpr (gExtend (gVL 2) (gCons (gLc [("kid", 5), ("b", 6)] S (iZip' F.b_zip (gCons (gCall S 0 F.d7 (gCons (gVL 3) (da_nil))) (gCons (gCall S 0 F.d8 (gCons (gVL 3) (da_nil))) (da_nil)))) (fun _ _ _ _ _ S => (gPT S.calm (gPs (gPL 5 S.nd) (gPs (gPL 6 S.nd) (gPs0))))) (fun s H C cl fp S => cNone s H _ _ fp) (fun _ _ _ _ _ S => (de_tup (gCons (gVL 5) (gCons (de_bin (gVC 4) (gVL 6) (fun _ => op_dAdd)) (da_nil)))))) (da_nil)))) ?_; exact db_nil)) ?_; refine db_cons (ds_ret (gTy (fun _ => call_dTuple) PyProof.Rows.Boot.«tuple» F.b_tuple (gCons (gB (fun _ => call_dSorted S.calm) PyProof.Rows.Boot.«sorted» F.b_sorted (gCons (gVL 1) (da_nil))) (da_nil)))) ?_; exact db_nil
theorem sc17 : FnScope [("term" : Str), ("found" : Str), ("line" : Str), ("own" : Str), ("deep" : Str), ("kid" : Str), ("b" : Str)] [("term" : Str)] (defScope (top 31)) := ⟨by kernel_rfl, by kernel_rfl, by kernel_rfl, by decide +kernel, by kernel_rfl, by decide +kernel, by decide +kernel⟩
theorem v18 (F : Fx P w K mg base fa ca kd) {f : Addr} {cdv : Value} {A : Around} {outer : List PySem.Env} {s : Shared} {H : Hp} {E : XK} (S : Sit (cxOf (L2.CX P w) P w K mg base [("term" : Str), ("found" : Str), ("line" : Str), ("own" : Str)] "names_in" (defScope (top 32)) f cdv A outer s H E) (lk fa ca kd) tb κ (fun c d _ H => E c d H)) (hp : PassesOwn (model P w) (cxOf (L2.CX P w) P w K mg base [("term" : Str), ("found" : Str), ("line" : Str), ("own" : Str)] "names_in" (defScope (top 32)) f cdv A outer s H E).A (cxOf (L2.CX P w) P w K mg base [("term" : Str), ("found" : Str), ("line" : Str), ("own" : Str)] "names_in" (defScope (top 32)) f cdv A outer s H E).env (cxOf (L2.CX P w) P w K mg base [("term" : Str), ("found" : Str), ("line" : Str), ("own" : Str)] "names_in" (defScope (top 32)) f cdv A outer s H E).xe) :
    DB (cxOf (L2.CX P w) P w K mg base [("term" : Str), ("found" : Str), ("line" : Str), ("own" : Str)] "names_in" (defScope (top 32)) f cdv A outer s H E) (lk fa ca kd) κ (fun c d _ H => E c d H) (defBody (top 32)) d18.body :=
  by dsimp only [d18]; refine db_cons (sPar S (gCons (de_dict) (gCons (de_lst (gCons (gVL 0) (da_nil))) (da_nil)))) ?_; refine db_cons (ds_while hp (tCmp (fun _ => op_dGt) (gB (fun _ => call_dLen (T := tb)) PyProof.Rows.Boot.«len» F.b_len (gCons (gVL 2) (da_nil))) (de_int)) (by refine db_cons (sSetL S (gPop (gVL 2))) ?_; refine db_cons (ds_if (tCmp (fun _ => op_dEq S.units) (gIx S (gVL 3) (de_int)) (gStr st7)) (by refine db_cons (sPut S (gVL 1) (gIx S (gVL 3) (de_int)) (de_bl)) ?_; exact db_nil) (by exact db_nil)) ?_; refine db_cons (sExpr (gExtend (gVL 2) (gCons (gTy (fun _ => call_dList) PyProof.Rows.Boot.«list» F.b_list (gCons (gCall S 0 F.d7 (gCons (gVL 3) (da_nil))) (da_nil))) (da_nil)))) ?_; exact db_nil)) ?_; refine db_cons (ds_ret (gTy (fun _ => call_dTuple) PyProof.Rows.Boot.«tuple» F.b_tuple (gCons (gB (fun _ => call_dSorted S.calm) PyProof.Rows.Boot.«sorted» F.b_sorted (gCons (gVL 1) (da_nil))) (da_nil)))) ?_; exact db_nil
theorem sc18 : FnScope [("term" : Str), ("found" : Str), ("line" : Str), ("own" : Str)] [("term" : Str)] (defScope (top 32)) := ⟨by kernel_rfl, by kernel_rfl, by kernel_rfl, by decide +kernel, by kernel_rfl, by decide +kernel, by decide +kernel⟩
theorem v19 (F : Fx P w K mg base fa ca kd) {f : Addr} {cdv : Value} {A : Around} {outer : List PySem.Env} {s : Shared} {H : Hp} {E : XK} (S : Sit (cxOf (L2.CX P w) P w K mg base [("head" : Str), ("args" : Str), ("found" : Str), ("own" : Str)] "app_of" (defScope (top 33)) f cdv A outer s H E) (lk fa ca kd) tb κ (fun c d _ H => E c d H)) (hp : PassesOwn (model P w) (cxOf (L2.CX P w) P w K mg base [("head" : Str), ("args" : Str), ("found" : Str), ("own" : Str)] "app_of" (defScope (top 33)) f cdv A outer s H E).A (cxOf (L2.CX P w) P w K mg base [("head" : Str), ("args" : Str), ("found" : Str), ("own" : Str)] "app_of" (defScope (top 33)) f cdv A outer s H E).env (cxOf (L2.CX P w) P w K mg base [("head" : Str), ("args" : Str), ("found" : Str), ("own" : Str)] "app_of" (defScope (top 33)) f cdv A outer s H E).xe) :
    DB (cxOf (L2.CX P w) P w K mg base [("head" : Str), ("args" : Str), ("found" : Str), ("own" : Str)] "app_of" (defScope (top 33)) f cdv A outer s H E) (lk fa ca kd) κ (fun c d _ H => E c d H) (defBody (top 33)) d19.body :=
  by dsimp only [d19]; refine db_cons (sSetL S (gVL 0)) ?_; refine db_cons (sFor S hp (di_of (gVL 1)) (gPL 3 S.nd) (by refine db_cons (sSetL S (de_tup (gCons (gStr st9) (gCons (gVL 2) (gCons (gVL 3) (da_nil)))))) ?_; exact db_nil)) ?_; refine db_cons (ds_ret (gVL 2)) ?_; exact db_nil
theorem sc19 : FnScope [("head" : Str), ("args" : Str), ("found" : Str), ("own" : Str)] [("head" : Str), ("args" : Str)] (defScope (top 33)) := ⟨by kernel_rfl, by kernel_rfl, by kernel_rfl, by decide +kernel, by kernel_rfl, by decide +kernel, by decide +kernel⟩
theorem v20 (F : Fx P w K mg base fa ca kd) {f : Addr} {cdv : Value} {A : Around} {outer : List PySem.Env} {s : Shared} {H : Hp} {E : XK} (S : Sit (cxOf (L2.CX P w) P w K mg base [("term" : Str), ("args" : Str)] "spine_of" (defScope (top 34)) f cdv A outer s H E) (lk fa ca kd) tb κ (fun c d _ H => E c d H)) (hp : PassesOwn (model P w) (cxOf (L2.CX P w) P w K mg base [("term" : Str), ("args" : Str)] "spine_of" (defScope (top 34)) f cdv A outer s H E).A (cxOf (L2.CX P w) P w K mg base [("term" : Str), ("args" : Str)] "spine_of" (defScope (top 34)) f cdv A outer s H E).env (cxOf (L2.CX P w) P w K mg base [("term" : Str), ("args" : Str)] "spine_of" (defScope (top 34)) f cdv A outer s H E).xe) :
    DB (cxOf (L2.CX P w) P w K mg base [("term" : Str), ("args" : Str)] "spine_of" (defScope (top 34)) f cdv A outer s H E) (lk fa ca kd) κ (fun c d _ H => E c d H) (defBody (top 34)) d20.body :=
  by dsimp only [d20]; refine db_cons (sSetL S (de_lst (da_nil))) ?_; refine db_cons (ds_while hp (tCmp (fun _ => op_dEq S.units) (gIx S (gVL 0) (de_int)) (gStr st9)) (by refine db_cons (sExpr (gAppend (gVL 1) (gCons (gIx S (gVL 0) (de_int)) (da_nil)))) ?_; refine db_cons (sSetL S (gIx S (gVL 0) (de_int))) ?_; exact db_nil)) ?_; refine db_cons (ds_ret (de_tup (gCons (gVL 0) (gCons (gTy (fun _ => call_dTuple) PyProof.Rows.Boot.«tuple» F.b_tuple (gCons (de_rev (gVL 1)) (da_nil))) (da_nil))))) ?_; exact db_nil
theorem sc20 : FnScope [("term" : Str), ("args" : Str)] [("term" : Str)] (defScope (top 34)) := ⟨by kernel_rfl, by kernel_rfl, by kernel_rfl, by decide +kernel, by kernel_rfl, by decide +kernel, by decide +kernel⟩
theorem v21 (F : Fx P w K mg base fa ca kd) {f : Addr} {cdv : Value} {A : Around} {outer : List PySem.Env} {s : Shared} {H : Hp} {E : XK} (S : Sit (cxOf (L2.CX P w) P w K mg base [("types" : Str), ("body" : Str), ("found" : Str), ("own" : Str)] "pi_of" (defScope (top 35)) f cdv A outer s H E) (lk fa ca kd) tb κ (fun c d _ H => E c d H)) (hp : PassesOwn (model P w) (cxOf (L2.CX P w) P w K mg base [("types" : Str), ("body" : Str), ("found" : Str), ("own" : Str)] "pi_of" (defScope (top 35)) f cdv A outer s H E).A (cxOf (L2.CX P w) P w K mg base [("types" : Str), ("body" : Str), ("found" : Str), ("own" : Str)] "pi_of" (defScope (top 35)) f cdv A outer s H E).env (cxOf (L2.CX P w) P w K mg base [("types" : Str), ("body" : Str), ("found" : Str), ("own" : Str)] "pi_of" (defScope (top 35)) f cdv A outer s H E).xe) :
    DB (cxOf (L2.CX P w) P w K mg base [("types" : Str), ("body" : Str), ("found" : Str), ("own" : Str)] "pi_of" (defScope (top 35)) f cdv A outer s H E) (lk fa ca kd) κ (fun c d _ H => E c d H) (defBody (top 35)) d21.body :=
  by dsimp only [d21]; refine db_cons (sSetL S (gVL 1)) ?_; refine db_cons (sFor S hp (di_of (de_rev (gVL 0))) (gPL 3 S.nd) (by refine db_cons (sSetL S (de_tup (gCons (gStr st10) (gCons (gVL 3) (gCons (gVL 2) (da_nil)))))) ?_; exact db_nil)) ?_; refine db_cons (ds_ret (gVL 2)) ?_; exact db_nil
theorem sc21 : FnScope [("types" : Str), ("body" : Str), ("found" : Str), ("own" : Str)] [("types" : Str), ("body" : Str)] (defScope (top 35)) := ⟨by kernel_rfl, by kernel_rfl, by kernel_rfl, by decide +kernel, by kernel_rfl, by decide +kernel, by decide +kernel⟩
theorem v22 (F : Fx P w K mg base fa ca kd) {f : Addr} {cdv : Value} {A : Around} {outer : List PySem.Env} {s : Shared} {H : Hp} {E : XK} (S : Sit (cxOf (L2.CX P w) P w K mg base [("types" : Str), ("body" : Str), ("found" : Str), ("own" : Str)] "fun_of" (defScope (top 36)) f cdv A outer s H E) (lk fa ca kd) tb κ (fun c d _ H => E c d H)) (hp : PassesOwn (model P w) (cxOf (L2.CX P w) P w K mg base [("types" : Str), ("body" : Str), ("found" : Str), ("own" : Str)] "fun_of" (defScope (top 36)) f cdv A outer s H E).A (cxOf (L2.CX P w) P w K mg base [("types" : Str), ("body" : Str), ("found" : Str), ("own" : Str)] "fun_of" (defScope (top 36)) f cdv A outer s H E).env (cxOf (L2.CX P w) P w K mg base [("types" : Str), ("body" : Str), ("found" : Str), ("own" : Str)] "fun_of" (defScope (top 36)) f cdv A outer s H E).xe) :
    DB (cxOf (L2.CX P w) P w K mg base [("types" : Str), ("body" : Str), ("found" : Str), ("own" : Str)] "fun_of" (defScope (top 36)) f cdv A outer s H E) (lk fa ca kd) κ (fun c d _ H => E c d H) (defBody (top 36)) d22.body :=
  by dsimp only [d22]; refine db_cons (sSetL S (gVL 1)) ?_; refine db_cons (sFor S hp (di_of (de_rev (gVL 0))) (gPL 3 S.nd) (by refine db_cons (sSetL S (de_tup (gCons (gStr st11) (gCons (gVL 3) (gCons (gVL 2) (da_nil)))))) ?_; exact db_nil)) ?_; refine db_cons (ds_ret (gVL 2)) ?_; exact db_nil
theorem sc22 : FnScope [("types" : Str), ("body" : Str), ("found" : Str), ("own" : Str)] [("types" : Str), ("body" : Str)] (defScope (top 36)) := ⟨by kernel_rfl, by kernel_rfl, by kernel_rfl, by decide +kernel, by kernel_rfl, by decide +kernel, by decide +kernel⟩
theorem v23 (F : Fx P w K mg base fa ca kd) {f : Addr} {cdv : Value} {A : Around} {outer : List PySem.Env} {s : Shared} {H : Hp} {E : XK} (S : Sit (cxOf (L2.CX P w) P w K mg base [("term" : Str), ("types" : Str)] "split_pi" (defScope (top 37)) f cdv A outer s H E) (lk fa ca kd) tb κ (fun c d _ H => E c d H)) (hp : PassesOwn (model P w) (cxOf (L2.CX P w) P w K mg base [("term" : Str), ("types" : Str)] "split_pi" (defScope (top 37)) f cdv A outer s H E).A (cxOf (L2.CX P w) P w K mg base [("term" : Str), ("types" : Str)] "split_pi" (defScope (top 37)) f cdv A outer s H E).env (cxOf (L2.CX P w) P w K mg base [("term" : Str), ("types" : Str)] "split_pi" (defScope (top 37)) f cdv A outer s H E).xe) :
    DB (cxOf (L2.CX P w) P w K mg base [("term" : Str), ("types" : Str)] "split_pi" (defScope (top 37)) f cdv A outer s H E) (lk fa ca kd) κ (fun c d _ H => E c d H) (defBody (top 37)) d23.body :=
  by dsimp only [d23]; refine db_cons (sSetL S (de_lst (da_nil))) ?_; refine db_cons (ds_while hp (tCmp (fun _ => op_dEq S.units) (gIx S (gVL 0) (de_int)) (gStr st10)) (by refine db_cons (sExpr (gAppend (gVL 1) (gCons (gIx S (gVL 0) (de_int)) (da_nil)))) ?_; refine db_cons (sSetL S (gIx S (gVL 0) (de_int))) ?_; exact db_nil)) ?_; refine db_cons (ds_ret (de_tup (gCons (gTy (fun _ => call_dTuple) PyProof.Rows.Boot.«tuple» F.b_tuple (gCons (gVL 1) (da_nil))) (gCons (gVL 0) (da_nil))))) ?_; exact db_nil
theorem sc23 : FnScope [("term" : Str), ("types" : Str)] [("term" : Str)] (defScope (top 37)) := ⟨by kernel_rfl, by kernel_rfl, by kernel_rfl, by decide +kernel, by kernel_rfl, by decide +kernel, by decide +kernel⟩
theorem v24 (F : Fx P w K mg base fa ca kd) {f : Addr} {cdv : Value} {A : Around} {outer : List PySem.Env} {s : Shared} {H : Hp} {E : XK} (S : Sit (cxOf (L2.CX P w) P w K mg base [("term" : Str), ("found" : Str), ("line" : Str), ("path" : Str), ("own" : Str), ("kids" : Str), ("k" : Str)] "paths_of" (defScope (top 38)) f cdv A outer s H E) (lk fa ca kd) tb κ (fun c d _ H => E c d H)) (hp : PassesOwn (model P w) (cxOf (L2.CX P w) P w K mg base [("term" : Str), ("found" : Str), ("line" : Str), ("path" : Str), ("own" : Str), ("kids" : Str), ("k" : Str)] "paths_of" (defScope (top 38)) f cdv A outer s H E).A (cxOf (L2.CX P w) P w K mg base [("term" : Str), ("found" : Str), ("line" : Str), ("path" : Str), ("own" : Str), ("kids" : Str), ("k" : Str)] "paths_of" (defScope (top 38)) f cdv A outer s H E).env (cxOf (L2.CX P w) P w K mg base [("term" : Str), ("found" : Str), ("line" : Str), ("path" : Str), ("own" : Str), ("kids" : Str), ("k" : Str)] "paths_of" (defScope (top 38)) f cdv A outer s H E).xe) :
    DB (cxOf (L2.CX P w) P w K mg base [("term" : Str), ("found" : Str), ("line" : Str), ("path" : Str), ("own" : Str), ("kids" : Str), ("k" : Str)] "paths_of" (defScope (top 38)) f cdv A outer s H E) (lk fa ca kd) κ (fun c d _ H => E c d H) (defBody (top 38)) d24.body :=
  by dsimp only [d24]; refine db_cons (sPar S (gCons (de_lst (da_nil)) (gCons (de_lst (gCons (de_tup (gCons (de_tup (da_nil)) (gCons (gVL 0) (da_nil)))) (da_nil))) (da_nil)))) ?_; refine db_cons (ds_while hp (tCmp (fun _ => op_dGt) (gB (fun _ => call_dLen (T := tb)) PyProof.Rows.Boot.«len» F.b_len (gCons (gVL 2) (da_nil))) (de_int)) (by refine db_cons (sAsg (gPop (gVL 2)) (gPT S.calm (gPs (gPC 3 S.nd) (gPs (gPL 4 S.nd) (gPs0))))) ?_; refine db_cons (sExpr (gAppend (gVL 1) (gCons (gVC 3) (da_nil)))) ?_; refine db_cons (sSetC S (gCall S 0 F.d7 (gCons (gVL 4) (da_nil)))) ?_; refine db_cons (sExpr (gExtend (gVL 2) (gCons (gLc [("k", 6)] S (iR3' F.b_range (gCons (de_bin (gB (fun _ => call_dLen (T := tb)) PyProof.Rows.Boot.«len» F.b_len (gCons (gVC 5) (da_nil))) (de_int) (fun _ => op_dSub)) (gCons (de_un (de_int) (fun _ => un_dNeg)) (gCons (de_un (de_int) (fun _ => un_dNeg)) (da_nil))))) (fun _ _ _ _ _ S => (gPL 6 S.nd)) (fun s H C cl fp S => cNone s H _ _ fp) (fun _ _ _ _ _ S => (de_tup (gCons (de_bin (gVC 3) (de_tup (gCons (gVL 6) (da_nil))) (fun _ => op_dAdd)) (gCons (gIx S (gVC 5) (gVL 6)) (da_nil)))))) (da_nil)))) ?_; exact db_nil)) ?_; refine db_cons (ds_ret (gVL 1)) ?_; exact db_nil
theorem sc24 : FnScope [("term" : Str), ("found" : Str), ("line" : Str), ("path" : Str), ("own" : Str), ("kids" : Str), ("k" : Str)] [("term" : Str)] (defScope (top 38)) := ⟨by kernel_rfl, by kernel_rfl, by kernel_rfl, by decide +kernel, by kernel_rfl, by decide +kernel, by decide +kernel⟩
theorem v25 (F : Fx P w K mg base fa ca kd) {f : Addr} {cdv : Value} {A : Around} {outer : List PySem.Env} {s : Shared} {H : Hp} {E : XK} (S : Sit (cxOf (L2.CX P w) P w K mg base [("term" : Str), ("path" : Str), ("k" : Str), ("kids" : Str)] "part_at" (defScope (top 39)) f cdv A outer s H E) (lk fa ca kd) tb κ (fun c d _ H => E c d H)) (hp : PassesOwn (model P w) (cxOf (L2.CX P w) P w K mg base [("term" : Str), ("path" : Str), ("k" : Str), ("kids" : Str)] "part_at" (defScope (top 39)) f cdv A outer s H E).A (cxOf (L2.CX P w) P w K mg base [("term" : Str), ("path" : Str), ("k" : Str), ("kids" : Str)] "part_at" (defScope (top 39)) f cdv A outer s H E).env (cxOf (L2.CX P w) P w K mg base [("term" : Str), ("path" : Str), ("k" : Str), ("kids" : Str)] "part_at" (defScope (top 39)) f cdv A outer s H E).xe) :
    DB (cxOf (L2.CX P w) P w K mg base [("term" : Str), ("path" : Str), ("k" : Str), ("kids" : Str)] "part_at" (defScope (top 39)) f cdv A outer s H E) (lk fa ca kd) κ (fun c d _ H => E c d H) (defBody (top 39)) d25.body :=
  by dsimp only [d25]; refine db_cons (sExpr (gCall S 0 F.d3 (gCons (gVL 1) (da_nil)))) ?_; refine db_cons (sFor S hp (di_of (gVL 1)) (gPL 2 S.nd) (by refine db_cons (sSetL S (gCall S 0 F.d7 (gCons (gVL 0) (da_nil)))) ?_; refine db_cons (ds_if (tCmp (fun _ => op_dGe) (gVL 2) (gB (fun _ => call_dLen (T := tb)) PyProof.Rows.Boot.«len» F.b_len (gCons (gVL 3) (da_nil)))) (by refine db_cons (sRaise S (F.r2_0) F.m2 (gCons (gStr st12) (da_nil))) ?_; exact db_nil) (by exact db_nil)) ?_; refine db_cons (sSetL S (gIx S (gVL 3) (gVL 2))) ?_; exact db_nil)) ?_; refine db_cons (ds_ret (gVL 0)) ?_; exact db_nil
theorem sc25 : FnScope [("term" : Str), ("path" : Str), ("k" : Str), ("kids" : Str)] [("term" : Str), ("path" : Str)] (defScope (top 39)) := ⟨by kernel_rfl, by kernel_rfl, by kernel_rfl, by decide +kernel, by kernel_rfl, by decide +kernel, by decide +kernel⟩
theorem v26 (F : Fx P w K mg base fa ca kd) {f : Addr} {cdv : Value} {A : Around} {outer : List PySem.Env} {s : Shared} {H : Hp} {E : XK} (S : Sit (cxOf (L2.CX P w) P w K mg base [("term" : Str), ("path" : Str), ("found" : Str), ("k" : Str), ("kids" : Str)] "binders_at" (defScope (top 40)) f cdv A outer s H E) (lk fa ca kd) tb κ (fun c d _ H => E c d H)) (hp : PassesOwn (model P w) (cxOf (L2.CX P w) P w K mg base [("term" : Str), ("path" : Str), ("found" : Str), ("k" : Str), ("kids" : Str)] "binders_at" (defScope (top 40)) f cdv A outer s H E).A (cxOf (L2.CX P w) P w K mg base [("term" : Str), ("path" : Str), ("found" : Str), ("k" : Str), ("kids" : Str)] "binders_at" (defScope (top 40)) f cdv A outer s H E).env (cxOf (L2.CX P w) P w K mg base [("term" : Str), ("path" : Str), ("found" : Str), ("k" : Str), ("kids" : Str)] "binders_at" (defScope (top 40)) f cdv A outer s H E).xe) :
    DB (cxOf (L2.CX P w) P w K mg base [("term" : Str), ("path" : Str), ("found" : Str), ("k" : Str), ("kids" : Str)] "binders_at" (defScope (top 40)) f cdv A outer s H E) (lk fa ca kd) κ (fun c d _ H => E c d H) (defBody (top 40)) d26.body :=
  by dsimp only [d26]; refine db_cons (sExpr (gCall S 0 F.d3 (gCons (gVL 1) (da_nil)))) ?_; refine db_cons (sSetL S (de_int)) ?_; refine db_cons (sFor S hp (di_of (gVL 1)) (gPL 3 S.nd) (by refine db_cons (sSetL S (gCall S 0 F.d7 (gCons (gVL 0) (da_nil)))) ?_; refine db_cons (ds_if (tCmp (fun _ => op_dGe) (gVL 3) (gB (fun _ => call_dLen (T := tb)) PyProof.Rows.Boot.«len» F.b_len (gCons (gVL 4) (da_nil)))) (by refine db_cons (sRaise S (F.r2_0) F.m2 (gCons (gStr st12) (da_nil))) ?_; exact db_nil) (by exact db_nil)) ?_; refine db_cons (sAug S (fun _ => aug_add) (gIx S (gCall S 0 F.d8 (gCons (gVL 0) (da_nil))) (gVL 3))) ?_; refine db_cons (sSetL S (gIx S (gVL 4) (gVL 3))) ?_; exact db_nil)) ?_; refine db_cons (ds_ret (gVL 2)) ?_; exact db_nil
theorem sc26 : FnScope [("term" : Str), ("path" : Str), ("found" : Str), ("k" : Str), ("kids" : Str)] [("term" : Str), ("path" : Str)] (defScope (top 40)) := ⟨by kernel_rfl, by kernel_rfl, by kernel_rfl, by decide +kernel, by kernel_rfl, by decide +kernel, by decide +kernel⟩
theorem v27 (F : Fx P w K mg base fa ca kd) {f : Addr} {cdv : Value} {A : Around} {outer : List PySem.Env} {s : Shared} {H : Hp} {E : XK} (S : Sit (cxOf (L2.CX P w) P w K mg base [("term" : Str), ("path" : Str), ("new" : Str), ("kids" : Str)] "replaced" (defScope (top 41)) f cdv A outer s H E) (lk fa ca kd) tb κ (fun c d _ H => E c d H)) (hp : PassesOwn (model P w) (cxOf (L2.CX P w) P w K mg base [("term" : Str), ("path" : Str), ("new" : Str), ("kids" : Str)] "replaced" (defScope (top 41)) f cdv A outer s H E).A (cxOf (L2.CX P w) P w K mg base [("term" : Str), ("path" : Str), ("new" : Str), ("kids" : Str)] "replaced" (defScope (top 41)) f cdv A outer s H E).env (cxOf (L2.CX P w) P w K mg base [("term" : Str), ("path" : Str), ("new" : Str), ("kids" : Str)] "replaced" (defScope (top 41)) f cdv A outer s H E).xe) :
    DB (cxOf (L2.CX P w) P w K mg base [("term" : Str), ("path" : Str), ("new" : Str), ("kids" : Str)] "replaced" (defScope (top 41)) f cdv A outer s H E) (lk fa ca kd) κ (fun c d _ H => E c d H) (defBody (top 41)) d27.body :=
  by dsimp only [d27]; refine db_cons (ds_if (tCmp (fun _ => op_dEq S.units) (gB (fun _ => call_dLen (T := tb)) PyProof.Rows.Boot.«len» F.b_len (gCons (gVL 1) (da_nil))) (de_int)) (by refine db_cons (ds_ret (gVL 2)) ?_; exact db_nil) (by exact db_nil)) ?_; refine db_cons (sSetL S (gTy (fun _ => call_dList) PyProof.Rows.Boot.«list» F.b_list (gCons (gCall S 0 F.d7 (gCons (gVL 0) (da_nil))) (da_nil)))) ?_; refine db_cons (ds_if (tCmp (fun _ => op_dGe) (gIx S (gVL 1) (de_int)) (gB (fun _ => call_dLen (T := tb)) PyProof.Rows.Boot.«len» F.b_len (gCons (gVL 3) (da_nil)))) (by refine db_cons (sRaise S (F.r2_0) F.m2 (gCons (gStr st12) (da_nil))) ?_; exact db_nil) (by exact db_nil)) ?_; refine db_cons (sPut S (gVL 3) (gIx S (gVL 1) (de_int)) (gCall S 0 F.d27 (gCons (gIx S (gVL 3) (gIx S (gVL 1) (de_int))) (gCons (gSl0 (gVL 1) (de_int)) (gCons (gVL 2) (da_nil)))))) ?_; refine db_cons (ds_ret (gCall S 0 F.d9 (gCons (gVL 0) (gCons (gVL 3) (da_nil))))) ?_; exact db_nil
theorem sc27 : FnScope [("term" : Str), ("path" : Str), ("new" : Str), ("kids" : Str)] [("term" : Str), ("path" : Str), ("new" : Str)] (defScope (top 41)) := ⟨by kernel_rfl, by kernel_rfl, by kernel_rfl, by decide +kernel, by kernel_rfl, by decide +kernel, by decide +kernel⟩
theorem v28 (F : Fx P w K mg base fa ca kd) {f : Addr} {cdv : Value} {A : Around} {outer : List PySem.Env} {s : Shared} {H : Hp} {E : XK} (S : Sit (cxOf (L2.CX P w) P w K mg base [("n" : Str), ("found" : Str), ("_" : Str)] "numeral" (defScope (top 42)) f cdv A outer s H E) (lk fa ca kd) tb κ (fun c d _ H => E c d H)) (hp : PassesOwn (model P w) (cxOf (L2.CX P w) P w K mg base [("n" : Str), ("found" : Str), ("_" : Str)] "numeral" (defScope (top 42)) f cdv A outer s H E).A (cxOf (L2.CX P w) P w K mg base [("n" : Str), ("found" : Str), ("_" : Str)] "numeral" (defScope (top 42)) f cdv A outer s H E).env (cxOf (L2.CX P w) P w K mg base [("n" : Str), ("found" : Str), ("_" : Str)] "numeral" (defScope (top 42)) f cdv A outer s H E).xe) :
    DB (cxOf (L2.CX P w) P w K mg base [("n" : Str), ("found" : Str), ("_" : Str)] "numeral" (defScope (top 42)) f cdv A outer s H E) (lk fa ca kd) κ (fun c d _ H => E c d H) (defBody (top 42)) d28.body :=
  by dsimp only [d28]; refine db_cons (sExpr (gCall S 0 F.d1 (gCons (gVL 0) (gCons (de_int) (gCons (de_int) (da_nil)))))) ?_; refine db_cons (sSetL S (de_tup (gCons (gStr st7) (gCons (gStr st13) (da_nil))))) ?_; refine db_cons (sFor S hp (iR1' F.b_range (gCons (gVL 0) (da_nil))) (gPL 2 S.nd) (by refine db_cons (sSetL S (de_tup (gCons (gStr st9) (gCons (de_tup (gCons (gStr st7) (gCons (gStr st14) (da_nil)))) (gCons (gVL 1) (da_nil)))))) ?_; exact db_nil)) ?_; refine db_cons (ds_ret (gVL 1)) ?_; exact db_nil
theorem sc28 : FnScope [("n" : Str), ("found" : Str), ("_" : Str)] [("n" : Str)] (defScope (top 42)) := ⟨by kernel_rfl, by kernel_rfl, by kernel_rfl, by decide +kernel, by kernel_rfl, by decide +kernel, by decide +kernel⟩
theorem v29 (F : Fx P w K mg base fa ca kd) {f : Addr} {cdv : Value} {A : Around} {outer : List PySem.Env} {s : Shared} {H : Hp} {E : XK} (S : Sit (cxOf (L2.CX P w) P w K mg base [("term" : Str), ("found" : Str)] "number_of" (defScope (top 43)) f cdv A outer s H E) (lk fa ca kd) tb κ (fun c d _ H => E c d H)) (hp : PassesOwn (model P w) (cxOf (L2.CX P w) P w K mg base [("term" : Str), ("found" : Str)] "number_of" (defScope (top 43)) f cdv A outer s H E).A (cxOf (L2.CX P w) P w K mg base [("term" : Str), ("found" : Str)] "number_of" (defScope (top 43)) f cdv A outer s H E).env (cxOf (L2.CX P w) P w K mg base [("term" : Str), ("found" : Str)] "number_of" (defScope (top 43)) f cdv A outer s H E).xe) :
    DB (cxOf (L2.CX P w) P w K mg base [("term" : Str), ("found" : Str)] "number_of" (defScope (top 43)) f cdv A outer s H E) (lk fa ca kd) κ (fun c d _ H => E c d H) (defBody (top 43)) d29.body :=
  by dsimp only [d29]; refine db_cons (sSetL S (de_int)) ?_; refine db_cons (ds_while hp (tW (dw_and (tCmp (fun _ => op_dEq S.units) (gIx S (gVL 0) (de_int)) (gStr st9)) (dw_one_and (tCmp (fun _ => op_dEq S.units) (gIx S (gVL 0) (de_int)) (de_tup (gCons (gStr st7) (gCons (gStr st14) (da_nil)))))))) (by refine db_cons (sPar S (gCons (de_bin (gVL 1) (de_int) (fun _ => op_dAdd)) (gCons (gIx S (gVL 0) (de_int)) (da_nil)))) ?_; exact db_nil)) ?_; refine db_cons (ds_ret (de_if (tCmp (fun _ => op_dEq S.units) (gVL 0) (de_tup (gCons (gStr st7) (gCons (gStr st13) (da_nil))))) (gVL 1) (de_non))) ?_; exact db_nil
theorem sc29 : FnScope [("term" : Str), ("found" : Str)] [("term" : Str)] (defScope (top 43)) := ⟨by kernel_rfl, by kernel_rfl, by kernel_rfl, by decide +kernel, by kernel_rfl, by decide +kernel, by decide +kernel⟩
theorem v30 (F : Fx P w K mg base fa ca kd) {f : Addr} {cdv : Value} {A : Around} {outer : List PySem.Env} {s : Shared} {H : Hp} {E : XK} (S : Sit (cxOf (L2.CX P w) P w K mg base [("script" : Str), ("seed" : Str), ("total" : Str), ("cell" : Str)] "_law_state" (defScope (top 45)) f cdv A outer s H E) (lk fa ca kd) tb κ (fun c d _ H => E c d H)) (hp : PassesOwn (model P w) (cxOf (L2.CX P w) P w K mg base [("script" : Str), ("seed" : Str), ("total" : Str), ("cell" : Str)] "_law_state" (defScope (top 45)) f cdv A outer s H E).A (cxOf (L2.CX P w) P w K mg base [("script" : Str), ("seed" : Str), ("total" : Str), ("cell" : Str)] "_law_state" (defScope (top 45)) f cdv A outer s H E).env (cxOf (L2.CX P w) P w K mg base [("script" : Str), ("seed" : Str), ("total" : Str), ("cell" : Str)] "_law_state" (defScope (top 45)) f cdv A outer s H E).xe) :
    DB (cxOf (L2.CX P w) P w K mg base [("script" : Str), ("seed" : Str), ("total" : Str), ("cell" : Str)] "_law_state" (defScope (top 45)) f cdv A outer s H E) (lk fa ca kd) κ (fun c d _ H => E c d H) (defBody (top 45)) d30.body :=
  by dsimp only [d30]; refine db_cons (sSetL S (de_int)) ?_; refine db_cons (sSetL S (de_int)) ?_; refine db_cons (sFor S hp (di_of (gSl1 (gVL 0) (de_int))) (gPL 3 S.nd) (by refine db_cons (sSetL S (de_bin (de_bin (gVL 1) (de_int) (fun _ => op_dMul)) (gB (fun _ => call_dAbs) PyProof.Rows.Boot.«abs» F.b_abs (gCons (gVL 3) (da_nil))) (fun _ => op_dAdd))) ?_; refine db_cons (sSetL S (de_bin (gTy (fun _ => call_dToInt) PyProof.Rows.Boot.«int» F.b_int (gCons (de_bin (de_bin (gVL 2) (de_int) (fun _ => op_dMul)) (gVL 3) (fun _ => op_dAdd)) (da_nil))) (de_int) (fun _ => op_dMod))) ?_; exact db_nil)) ?_; refine db_cons (ds_ret (de_lst (gCons (gVL 1) (gCons (de_if (tCmp (fun _ => op_dNe S.units) (gVL 2) (de_int)) (gVL 2) (de_int)) (da_nil))))) ?_; exact db_nil
theorem sc30 : FnScope [("script" : Str), ("seed" : Str), ("total" : Str), ("cell" : Str)] [("script" : Str)] (defScope (top 45)) := ⟨by kernel_rfl, by kernel_rfl, by kernel_rfl, by decide +kernel, by kernel_rfl, by decide +kernel, by decide +kernel⟩
theorem v31 (F : Fx P w K mg base fa ca kd) {f : Addr} {cdv : Value} {A : Around} {outer : List PySem.Env} {s : Shared} {H : Hp} {E : XK} (S : Sit (cxOf (L2.CX P w) P w K mg base [("state" : Str), ("m" : Str), ("value" : Str)] "_law_take" (defScope (top 46)) f cdv A outer s H E) (lk fa ca kd) tb κ (fun c d _ H => E c d H)) (hp : PassesOwn (model P w) (cxOf (L2.CX P w) P w K mg base [("state" : Str), ("m" : Str), ("value" : Str)] "_law_take" (defScope (top 46)) f cdv A outer s H E).A (cxOf (L2.CX P w) P w K mg base [("state" : Str), ("m" : Str), ("value" : Str)] "_law_take" (defScope (top 46)) f cdv A outer s H E).env (cxOf (L2.CX P w) P w K mg base [("state" : Str), ("m" : Str), ("value" : Str)] "_law_take" (defScope (top 46)) f cdv A outer s H E).xe) :
    DB (cxOf (L2.CX P w) P w K mg base [("state" : Str), ("m" : Str), ("value" : Str)] "_law_take" (defScope (top 46)) f cdv A outer s H E) (lk fa ca kd) κ (fun c d _ H => E c d H) (defBody (top 46)) d31.body :=
  by dsimp only [d31]; refine db_cons (ds_if (tCmp (fun _ => op_dGt) (gIx S (gVL 0) (de_int)) (de_int)) (by refine db_cons (sSetL S (de_bin (gTy (fun _ => call_dToInt) PyProof.Rows.Boot.«int» F.b_int (gCons (gIx S (gVL 0) (de_int)) (da_nil))) (gVL 1) (fun _ => op_dMod))) ?_; refine db_cons (sPut S (gVL 0) (de_int) (de_bin (gIx S (gVL 0) (de_int)) (gVL 1) (fun _ => op_dFdiv))) ?_; refine db_cons (ds_ret (gVL 2)) ?_; exact db_nil) (by exact db_nil)) ?_; refine db_cons (sPut S (gVL 0) (de_int) (de_bin (gTy (fun _ => call_dToInt) PyProof.Rows.Boot.«int» F.b_int (gCons (de_bin (de_bin (gIx S (gVL 0) (de_int)) (de_int) (fun _ => op_dMul)) (de_int) (fun _ => op_dAdd)) (da_nil))) (de_int) (fun _ => op_dMod))) ?_; refine db_cons (ds_ret (de_bin (gTy (fun _ => call_dToInt) PyProof.Rows.Boot.«int» F.b_int (gCons (de_bin (gIx S (gVL 0) (de_int)) (de_int) (fun _ => op_dFdiv)) (da_nil))) (gVL 1) (fun _ => op_dMod))) ?_; exact db_nil
theorem sc31 : FnScope [("state" : Str), ("m" : Str), ("value" : Str)] [("state" : Str), ("m" : Str)] (defScope (top 46)) := ⟨by kernel_rfl, by kernel_rfl, by kernel_rfl, by decide +kernel, by kernel_rfl, by decide +kernel, by decide +kernel⟩
theorem v32 (F : Fx P w K mg base fa ca kd) {f : Addr} {cdv : Value} {A : Around} {outer : List PySem.Env} {s : Shared} {H : Hp} {E : XK} (S : Sit (cxOf (L2.CX P w) P w K mg base [("value" : Str), ("due" : Str)] "_law_says" (defScope (top 47)) f cdv A outer s H E) (lk fa ca kd) tb κ (fun c d _ H => E c d H)) (hp : PassesOwn (model P w) (cxOf (L2.CX P w) P w K mg base [("value" : Str), ("due" : Str)] "_law_says" (defScope (top 47)) f cdv A outer s H E).A (cxOf (L2.CX P w) P w K mg base [("value" : Str), ("due" : Str)] "_law_says" (defScope (top 47)) f cdv A outer s H E).env (cxOf (L2.CX P w) P w K mg base [("value" : Str), ("due" : Str)] "_law_says" (defScope (top 47)) f cdv A outer s H E).xe) :
    DB (cxOf (L2.CX P w) P w K mg base [("value" : Str), ("due" : Str)] "_law_says" (defScope (top 47)) f cdv A outer s H E) (lk fa ca kd) κ (fun c d _ H => E c d H) (defBody (top 47)) d32.body :=
  by dsimp only [d32]; refine db_cons (ds_ret (de_and (gIsi (t := .bool) (fun _ h => by cases h) PyProof.Rows.Boot.«bool» F.b_isinstance F.b_bool (gVL 0)) (de_one (gCmp (fun _ => op_dEq S.units) (gVL 0) (gVL 1))))) ?_; exact db_nil
theorem sc32 : FnScope [("value" : Str), ("due" : Str)] [("value" : Str), ("due" : Str)] (defScope (top 47)) := ⟨by kernel_rfl, by kernel_rfl, by kernel_rfl, by decide +kernel, by kernel_rfl, by decide +kernel, by decide +kernel⟩
theorem v33 (F : Fx P w K mg base fa ca kd) {f : Addr} {cdv : Value} {A : Around} {outer : List PySem.Env} {s : Shared} {H : Hp} {E : XK} (S : Sit (cxOf (L2.CX P w) P w K mg base [("value" : Str)] "_law_is_whole" (defScope (top 48)) f cdv A outer s H E) (lk fa ca kd) tb κ (fun c d _ H => E c d H)) (hp : PassesOwn (model P w) (cxOf (L2.CX P w) P w K mg base [("value" : Str)] "_law_is_whole" (defScope (top 48)) f cdv A outer s H E).A (cxOf (L2.CX P w) P w K mg base [("value" : Str)] "_law_is_whole" (defScope (top 48)) f cdv A outer s H E).env (cxOf (L2.CX P w) P w K mg base [("value" : Str)] "_law_is_whole" (defScope (top 48)) f cdv A outer s H E).xe) :
    DB (cxOf (L2.CX P w) P w K mg base [("value" : Str)] "_law_is_whole" (defScope (top 48)) f cdv A outer s H E) (lk fa ca kd) κ (fun c d _ H => E c d H) (defBody (top 48)) d33.body :=
  by dsimp only [d33]; refine db_cons (ds_ret (de_and (gIsi (t := .int) (fun _ h => by cases h) PyProof.Rows.Boot.«int» F.b_isinstance F.b_int (gVL 0)) (de_one (de_not (gIsi (t := .bool) (fun _ h => by cases h) PyProof.Rows.Boot.«bool» F.b_isinstance F.b_bool (gVL 0)))))) ?_; exact db_nil
theorem sc33 : FnScope [("value" : Str)] [("value" : Str)] (defScope (top 48)) := ⟨by kernel_rfl, by kernel_rfl, by kernel_rfl, by decide +kernel, by kernel_rfl, by decide +kernel, by decide +kernel⟩
theorem v34 (F : Fx P w K mg base fa ca kd) {f : Addr} {cdv : Value} {A : Around} {outer : List PySem.Env} {s : Shared} {H : Hp} {E : XK} (S : Sit (cxOf (L2.CX P w) P w K mg base [("one" : Str), ("two" : Str), ("k" : Str)] "_law_same" (defScope (top 49)) f cdv A outer s H E) (lk fa ca kd) tb κ (fun c d _ H => E c d H)) (hp : PassesOwn (model P w) (cxOf (L2.CX P w) P w K mg base [("one" : Str), ("two" : Str), ("k" : Str)] "_law_same" (defScope (top 49)) f cdv A outer s H E).A (cxOf (L2.CX P w) P w K mg base [("one" : Str), ("two" : Str), ("k" : Str)] "_law_same" (defScope (top 49)) f cdv A outer s H E).env (cxOf (L2.CX P w) P w K mg base [("one" : Str), ("two" : Str), ("k" : Str)] "_law_same" (defScope (top 49)) f cdv A outer s H E).xe) :
    DB (cxOf (L2.CX P w) P w K mg base [("one" : Str), ("two" : Str), ("k" : Str)] "_law_same" (defScope (top 49)) f cdv A outer s H E) (lk fa ca kd) κ (fun c d _ H => E c d H) (defBody (top 49)) d34.body :=
  by dsimp only [d34]; refine db_cons (ds_if (tVal (gIsi (t := .bool) (fun _ h => by cases h) PyProof.Rows.Boot.«bool» F.b_isinstance F.b_bool (gVC 1))) (by refine db_cons (ds_ret (de_and (gIsi (t := .bool) (fun _ h => by cases h) PyProof.Rows.Boot.«bool» F.b_isinstance F.b_bool (gVC 0)) (de_one (gCmp (fun _ => op_dEq S.units) (gVC 0) (gVC 1))))) ?_; exact db_nil) (by exact db_nil)) ?_; refine db_cons (ds_if (tVal (gIsi (t := .tuple) (fun _ h => by cases h) PyProof.Rows.Boot.«tuple» F.b_isinstance F.b_tuple (gVC 1))) (by refine db_cons (ds_ret (de_and (gIsi (t := .tuple) (fun _ h => by cases h) PyProof.Rows.Boot.«tuple» F.b_isinstance F.b_tuple (gVC 0)) (de_and (gCmp (fun _ => op_dEq S.units) (gB (fun _ => call_dLen (T := tb)) PyProof.Rows.Boot.«len» F.b_len (gCons (gVC 0) (da_nil))) (gB (fun _ => call_dLen (T := tb)) PyProof.Rows.Boot.«len» F.b_len (gCons (gVC 1) (da_nil)))) (de_one (gB (fun _ => call_dAll S.calm) PyProof.Rows.Boot.«all» F.b_all (gCons (gLc [("k", 2)] S (iR1' F.b_range (gCons (gB (fun _ => call_dLen (T := tb)) PyProof.Rows.Boot.«len» F.b_len (gCons (gVC 1) (da_nil))) (da_nil))) (fun _ _ _ _ _ S => (gPL 2 S.nd)) (fun s H C cl fp S => cNone s H _ _ fp) (fun _ _ _ _ _ S => (gCall S 0 F.d34 (gCons (gIx S (gVC 0) (gVL 2)) (gCons (gIx S (gVC 1) (gVL 2)) (da_nil)))))) (da_nil))))))) ?_; exact db_nil) (by exact db_nil)) ?_; refine db_cons (ds_if (tVal (gIsi (t := .list) (fun _ h => by cases h) PyProof.Rows.Boot.«list» F.b_isinstance F.b_list (gVC 1))) (by refine db_cons (ds_ret (de_and (gIsi (t := .tuple) (fun _ h => by cases h) PyProof.Rows.Boot.«tuple» F.b_isinstance F.b_tuple (gVC 0)) (de_one (gCall S 0 F.d34 (gCons (gVC 0) (gCons (gTy (fun _ => call_dTuple) PyProof.Rows.Boot.«tuple» F.b_tuple (gCons (gVC 1) (da_nil))) (da_nil))))))) ?_; exact db_nil) (by exact db_nil)) ?_; refine db_cons (ds_if (tVal (gIsi (t := .str) (fun _ h => by cases h) PyProof.Rows.Boot.«str» F.b_isinstance F.b_str (gVC 1))) (by refine db_cons (ds_ret (de_and (gIsi (t := .str) (fun _ h => by cases h) PyProof.Rows.Boot.«str» F.b_isinstance F.b_str (gVC 0)) (de_one (gCmp (fun _ => op_dEq S.units) (gVC 0) (gVC 1))))) ?_; exact db_nil) (by exact db_nil)) ?_; refine db_cons (ds_if (tCmp (fun _ => op_dIsN) (gVC 1) (de_non)) (by refine db_cons (ds_ret (gCmp (fun _ => op_dIsN) (gVC 0) (de_non))) ?_; exact db_nil) (by exact db_nil)) ?_; refine db_cons (ds_ret (de_and (gCall S 0 F.d33 (gCons (gVC 0) (da_nil))) (de_one (gCmp (fun _ => op_dEq S.units) (gVC 0) (gVC 1))))) ?_; exact db_nil
theorem sc34 : FnScope [("one" : Str), ("two" : Str), ("k" : Str)] [("one" : Str), ("two" : Str)] (defScope (top 49)) := ⟨by kernel_rfl, by kernel_rfl, by kernel_rfl, by decide +kernel, by kernel_rfl, by decide +kernel, by decide +kernel⟩
theorem v35 (F : Fx P w K mg base fa ca kd) {f : Addr} {cdv : Value} {A : Around} {outer : List PySem.Env} {s : Shared} {H : Hp} {E : XK} (S : Sit (cxOf (L2.CX P w) P w K mg base [("act" : Str), ("given" : Str), ("wrong" : Str), ("refused" : Str)] "_law_told" (defScope (top 50)) f cdv A outer s H E) (lk fa ca kd) tb κ (fun c d _ H => E c d H)) (hp : PassesOwn (model P w) (cxOf (L2.CX P w) P w K mg base [("act" : Str), ("given" : Str), ("wrong" : Str), ("refused" : Str)] "_law_told" (defScope (top 50)) f cdv A outer s H E).A (cxOf (L2.CX P w) P w K mg base [("act" : Str), ("given" : Str), ("wrong" : Str), ("refused" : Str)] "_law_told" (defScope (top 50)) f cdv A outer s H E).env (cxOf (L2.CX P w) P w K mg base [("act" : Str), ("given" : Str), ("wrong" : Str), ("refused" : Str)] "_law_told" (defScope (top 50)) f cdv A outer s H E).xe) :
    DB (cxOf (L2.CX P w) P w K mg base [("act" : Str), ("given" : Str), ("wrong" : Str), ("refused" : Str)] "_law_told" (defScope (top 50)) f cdv A outer s H E) (lk fa ca kd) κ (fun c d _ H => E c d H) (defBody (top 50)) d35.body :=
  by dsimp only [d35]; refine db_cons (ds_try rfl rfl (fun _ _ _ tk hp => let S := S.tr tk; (by refine db_cons (ds_if (tCmp (fun _ => op_dGt) (gB (fun _ => call_dLen (T := tb)) PyProof.Rows.Boot.«len» F.b_len (gCons (gVL 1) (da_nil))) (de_int)) (by refine db_cons (ds_ret (de_tup (gCons (gStr st15) (gCons (de_if (tCmp (fun _ => op_dEq S.units) (gB (fun _ => call_dLen (T := tb)) PyProof.Rows.Boot.«len» F.b_len (gCons (gVL 1) (da_nil))) (de_int)) (gCallV S 0 F.keep (gCons (gIx S (gVL 1) (de_int)) (gCons (gIx S (gVL 1) (de_int)) (gCons (gIx S (gVL 1) (de_int)) (gCons (gIx S (gVL 1) (de_int)) (da_nil)))))) (gCallV S 0 F.keep (gCons (gIx S (gVL 1) (de_int)) (gCons (gIx S (gVL 1) (de_int)) (gCons (gIx S (gVL 1) (de_int)) (gCons (gIx S (gVL 1) (de_int)) (gCons (gIx S (gVL 1) (de_int)) (da_nil)))))))) (da_nil))))) ?_; exact db_nil) (by exact db_nil)) ?_; refine db_cons (ds_ret (de_tup (gCons (gStr st15) (gCons (de_if (tCmp (fun _ => op_dEq S.units) (gB (fun _ => call_dLen (T := tb)) PyProof.Rows.Boot.«len» F.b_len (gCons (gVL 1) (da_nil))) (de_int)) (gCallV S 0 F.keep (gCons (gIx S (gVL 1) (de_int)) (da_nil))) (de_if (tCmp (fun _ => op_dEq S.units) (gB (fun _ => call_dLen (T := tb)) PyProof.Rows.Boot.«len» F.b_len (gCons (gVL 1) (da_nil))) (de_int)) (gCallV S 0 F.keep (gCons (gIx S (gVL 1) (de_int)) (gCons (gIx S (gVL 1) (de_int)) (da_nil)))) (gCallV S 0 F.keep (gCons (gIx S (gVL 1) (de_int)) (gCons (gIx S (gVL 1) (de_int)) (gCons (gIx S (gVL 1) (de_int)) (da_nil))))))) (da_nil))))) ?_; exact db_nil)) (dcl_cons rfl ⟨by unfold L2.Gl; kernel_rfl, by kernel_rfl, .inl F.m1⟩ rfl F.x1.ok (su_ret (hvs_cons (hvStr st16) (hvs_cons (hv_non) (hvs_cons (hv_non) (hvs_nil) (by kernel_rfl)) (by kernel_rfl)) (by kernel_rfl))) (dcl_as rfl S.nd (by kernel_rfl) (by kernel_rfl) ⟨by unfold L2.Gl; kernel_rfl, by kernel_rfl, .inl F.m3⟩ rfl F.x3.ok (su_never) (dcl_as rfl S.nd (by kernel_rfl) (by kernel_rfl) ⟨by unfold L2.Gl; kernel_rfl, by kernel_rfl, .inl F.m2⟩ rfl F.x2.ok (su_ret (hvs_cons (hvStr st17) (hvs_cons (hv_fld rfl (by kernel_rfl) (by kernel_rfl) (by kernel_rfl) (by kernel_rfl) F.xf2 rfl F.xn2_0 (by kernel_rfl)) (hvs_cons (hv_fld rfl (by kernel_rfl) (by kernel_rfl) (by kernel_rfl) (by kernel_rfl) F.xf2 rfl F.xn2_1 (by kernel_rfl)) (hvs_nil) (by kernel_rfl)) (by kernel_rfl)) (by kernel_rfl))) (dcl_nil rfl rfl S.tk))))) ?_; exact db_nil
theorem sc35 : FnScope [("act" : Str), ("given" : Str), ("wrong" : Str), ("refused" : Str)] [("act" : Str), ("given" : Str)] (defScope (top 50)) := ⟨by kernel_rfl, by kernel_rfl, by kernel_rfl, by decide +kernel, by kernel_rfl, by decide +kernel, by decide +kernel⟩
theorem v36 (F : Fx P w K mg base fa ca kd) {f : Addr} {cdv : Value} {A : Around} {outer : List PySem.Env} {s : Shared} {H : Hp} {E : XK} (S : Sit (cxOf (L2.CX P w) P w K mg base [("tried" : Str), ("act" : Str), ("given" : Str)] "_law_all_malformed" (defScope (top 51)) f cdv A outer s H E) (lk fa ca kd) tb κ (fun c d _ H => E c d H)) (hp : PassesOwn (model P w) (cxOf (L2.CX P w) P w K mg base [("tried" : Str), ("act" : Str), ("given" : Str)] "_law_all_malformed" (defScope (top 51)) f cdv A outer s H E).A (cxOf (L2.CX P w) P w K mg base [("tried" : Str), ("act" : Str), ("given" : Str)] "_law_all_malformed" (defScope (top 51)) f cdv A outer s H E).env (cxOf (L2.CX P w) P w K mg base [("tried" : Str), ("act" : Str), ("given" : Str)] "_law_all_malformed" (defScope (top 51)) f cdv A outer s H E).xe) :
    DB (cxOf (L2.CX P w) P w K mg base [("tried" : Str), ("act" : Str), ("given" : Str)] "_law_all_malformed" (defScope (top 51)) f cdv A outer s H E) (lk fa ca kd) κ (fun c d _ H => E c d H) (defBody (top 51)) d36.body :=
  by dsimp only [d36]; refine db_cons (ds_ret (gB (fun _ => call_dAll S.calm) PyProof.Rows.Boot.«all» F.b_all (gCons (gLc [("act", 1), ("given", 2)] S (di_of (gVL 0)) (fun _ _ _ _ _ S => (gPT S.calm (gPs (gPL 1 S.nd) (gPs (gPL 2 S.nd) (gPs0))))) (fun s H C cl fp S => cNone s H _ _ fp) (fun _ _ _ _ _ S => (gCmp (fun _ => op_dEq S.units) (gCall S 0 F.d35 (gCons (gVL 1) (gCons (gVL 2) (da_nil)))) (de_tup (gCons (gStr st16) (gCons (de_non) (gCons (de_non) (da_nil)))))))) (da_nil)))) ?_; exact db_nil
theorem sc36 : FnScope [("tried" : Str), ("act" : Str), ("given" : Str)] [("tried" : Str)] (defScope (top 51)) := ⟨by kernel_rfl, by kernel_rfl, by kernel_rfl, by decide +kernel, by kernel_rfl, by decide +kernel, by decide +kernel⟩
theorem v37 (F : Fx P w K mg base fa ca kd) {f : Addr} {cdv : Value} {A : Around} {outer : List PySem.Env} {s : Shared} {H : Hp} {E : XK} (S : Sit (cxOf (L2.CX P w) P w K mg base [("term" : Str)] "_law_kids" (defScope (top 52)) f cdv A outer s H E) (lk fa ca kd) tb κ (fun c d _ H => E c d H)) (hp : PassesOwn (model P w) (cxOf (L2.CX P w) P w K mg base [("term" : Str)] "_law_kids" (defScope (top 52)) f cdv A outer s H E).A (cxOf (L2.CX P w) P w K mg base [("term" : Str)] "_law_kids" (defScope (top 52)) f cdv A outer s H E).env (cxOf (L2.CX P w) P w K mg base [("term" : Str)] "_law_kids" (defScope (top 52)) f cdv A outer s H E).xe) :
    DB (cxOf (L2.CX P w) P w K mg base [("term" : Str)] "_law_kids" (defScope (top 52)) f cdv A outer s H E) (lk fa ca kd) κ (fun c d _ H => E c d H) (defBody (top 52)) d37.body :=
  by dsimp only [d37]; refine db_cons (ds_if (tCmp (fun _ => op_dIn S.kd S.units) (gIx S (gVL 0) (de_int)) (de_tup (gCons (gStr st6) (gCons (gStr st7) (gCons (gStr st8) (da_nil)))))) (by refine db_cons (ds_ret (de_tup (da_nil))) ?_; exact db_nil) (by exact db_nil)) ?_; refine db_cons (ds_ret (gSl0 (gVL 0) (de_int))) ?_; exact db_nil
theorem sc37 : FnScope [("term" : Str)] [("term" : Str)] (defScope (top 52)) := ⟨by kernel_rfl, by kernel_rfl, by kernel_rfl, by decide +kernel, by kernel_rfl, by decide +kernel, by decide +kernel⟩
theorem v38 (F : Fx P w K mg base fa ca kd) {f : Addr} {cdv : Value} {A : Around} {outer : List PySem.Env} {s : Shared} {H : Hp} {E : XK} (S : Sit (cxOf (L2.CX P w) P w K mg base [("term" : Str)] "_law_binds" (defScope (top 53)) f cdv A outer s H E) (lk fa ca kd) tb κ (fun c d _ H => E c d H)) (hp : PassesOwn (model P w) (cxOf (L2.CX P w) P w K mg base [("term" : Str)] "_law_binds" (defScope (top 53)) f cdv A outer s H E).A (cxOf (L2.CX P w) P w K mg base [("term" : Str)] "_law_binds" (defScope (top 53)) f cdv A outer s H E).env (cxOf (L2.CX P w) P w K mg base [("term" : Str)] "_law_binds" (defScope (top 53)) f cdv A outer s H E).xe) :
    DB (cxOf (L2.CX P w) P w K mg base [("term" : Str)] "_law_binds" (defScope (top 53)) f cdv A outer s H E) (lk fa ca kd) κ (fun c d _ H => E c d H) (defBody (top 53)) d38.body :=
  by dsimp only [d38]; refine db_cons (ds_if (tCmp (fun _ => op_dIn S.kd S.units) (gIx S (gVL 0) (de_int)) (de_tup (gCons (gStr st10) (gCons (gStr st11) (gCons (gStr st18) (da_nil)))))) (by refine db_cons (ds_ret (de_tup (gCons (de_int) (gCons (de_int) (da_nil))))) ?_; exact db_nil) (by exact db_nil)) ?_; refine db_cons (ds_ret (de_if (tCmp (fun _ => op_dEq S.units) (gIx S (gVL 0) (de_int)) (gStr st19)) (de_tup (gCons (de_int) (gCons (de_int) (gCons (de_int) (da_nil))))) (de_bin (de_tup (gCons (de_int) (da_nil))) (gB (fun _ => call_dLen (T := tb)) PyProof.Rows.Boot.«len» F.b_len (gCons (gCall S 0 F.d37 (gCons (gVL 0) (da_nil))) (da_nil))) (fun _ => op_dMul)))) ?_; exact db_nil
theorem sc38 : FnScope [("term" : Str)] [("term" : Str)] (defScope (top 53)) := ⟨by kernel_rfl, by kernel_rfl, by kernel_rfl, by decide +kernel, by kernel_rfl, by decide +kernel, by decide +kernel⟩
theorem v39 (F : Fx P w K mg base fa ca kd) {f : Addr} {cdv : Value} {A : Around} {outer : List PySem.Env} {s : Shared} {H : Hp} {E : XK} (S : Sit (cxOf (L2.CX P w) P w K mg base [("term" : Str), ("by" : Str), ("low" : Str), ("kids" : Str), ("binds" : Str), ("k" : Str)] "_law_shift" (defScope (top 54)) f cdv A outer s H E) (lk fa ca kd) tb κ (fun c d _ H => E c d H)) (hp : PassesOwn (model P w) (cxOf (L2.CX P w) P w K mg base [("term" : Str), ("by" : Str), ("low" : Str), ("kids" : Str), ("binds" : Str), ("k" : Str)] "_law_shift" (defScope (top 54)) f cdv A outer s H E).A (cxOf (L2.CX P w) P w K mg base [("term" : Str), ("by" : Str), ("low" : Str), ("kids" : Str), ("binds" : Str), ("k" : Str)] "_law_shift" (defScope (top 54)) f cdv A outer s H E).env (cxOf (L2.CX P w) P w K mg base [("term" : Str), ("by" : Str), ("low" : Str), ("kids" : Str), ("binds" : Str), ("k" : Str)] "_law_shift" (defScope (top 54)) f cdv A outer s H E).xe) :
    DB (cxOf (L2.CX P w) P w K mg base [("term" : Str), ("by" : Str), ("low" : Str), ("kids" : Str), ("binds" : Str), ("k" : Str)] "_law_shift" (defScope (top 54)) f cdv A outer s H E) (lk fa ca kd) κ (fun c d _ H => E c d H) (defBody (top 54)) d39.body :=
  by dsimp only [d39]; refine db_cons (ds_if (tCmp (fun _ => op_dEq S.units) (gIx S (gVL 0) (de_int)) (gStr st6)) (by refine db_cons (ds_ret (de_if (tCmp (fun _ => op_dGe) (gIx S (gVL 0) (de_int)) (gVC 2)) (de_tup (gCons (gStr st6) (gCons (de_bin (gIx S (gVL 0) (de_int)) (gVC 1) (fun _ => op_dAdd)) (da_nil)))) (gVL 0))) ?_; exact db_nil) (by exact db_nil)) ?_; refine db_cons (sAsg (de_tup (gCons (gCall S 0 F.d37 (gCons (gVL 0) (da_nil))) (gCons (gCall S 0 F.d38 (gCons (gVL 0) (da_nil))) (da_nil)))) (gPT S.calm (gPs (gPC 3 S.nd) (gPs (gPC 4 S.nd) (gPs0))))) ?_; refine db_cons (ds_if (tCmp (fun _ => op_dEq S.units) (gB (fun _ => call_dLen (T := tb)) PyProof.Rows.Boot.«len» F.b_len (gCons (gVC 3) (da_nil))) (de_int)) (by refine db_cons (ds_ret (gVL 0)) ?_; exact db_nil) (by exact db_nil)) ?_; refine db_cons (ds_ret (de_bin (de_tup (gCons (gIx S (gVL 0) (de_int)) (da_nil))) (gTy (fun _ => call_dTuple) PyProof.Rows.Boot.«tuple» F.b_tuple (gCons (gLc [("k", 5)] S (iR1' F.b_range (gCons (gB (fun _ => call_dLen (T := tb)) PyProof.Rows.Boot.«len» F.b_len (gCons (gVC 3) (da_nil))) (da_nil))) (fun _ _ _ _ _ S => (gPL 5 S.nd)) (fun s H C cl fp S => cNone s H _ _ fp) (fun _ _ _ _ _ S => (gCall S 0 F.d39 (gCons (gIx S (gVC 3) (gVL 5)) (gCons (gVC 1) (gCons (de_bin (gVC 2) (gIx S (gVC 4) (gVL 5)) (fun _ => op_dAdd)) (da_nil))))))) (da_nil))) (fun _ => op_dAdd))) ?_; exact db_nil
theorem sc39 : FnScope [("term" : Str), ("by" : Str), ("low" : Str), ("kids" : Str), ("binds" : Str), ("k" : Str)] [("term" : Str), ("by" : Str), ("low" : Str)] (defScope (top 54)) := ⟨by kernel_rfl, by kernel_rfl, by kernel_rfl, by decide +kernel, by kernel_rfl, by decide +kernel, by decide +kernel⟩
theorem v40 (F : Fx P w K mg base fa ca kd) {f : Addr} {cdv : Value} {A : Around} {outer : List PySem.Env} {s : Shared} {H : Hp} {E : XK} (S : Sit (cxOf (L2.CX P w) P w K mg base [("term" : Str), ("value" : Str), ("k" : Str), ("kids" : Str), ("binds" : Str), ("t" : Str)] "_law_put" (defScope (top 55)) f cdv A outer s H E) (lk fa ca kd) tb κ (fun c d _ H => E c d H)) (hp : PassesOwn (model P w) (cxOf (L2.CX P w) P w K mg base [("term" : Str), ("value" : Str), ("k" : Str), ("kids" : Str), ("binds" : Str), ("t" : Str)] "_law_put" (defScope (top 55)) f cdv A outer s H E).A (cxOf (L2.CX P w) P w K mg base [("term" : Str), ("value" : Str), ("k" : Str), ("kids" : Str), ("binds" : Str), ("t" : Str)] "_law_put" (defScope (top 55)) f cdv A outer s H E).env (cxOf (L2.CX P w) P w K mg base [("term" : Str), ("value" : Str), ("k" : Str), ("kids" : Str), ("binds" : Str), ("t" : Str)] "_law_put" (defScope (top 55)) f cdv A outer s H E).xe) :
    DB (cxOf (L2.CX P w) P w K mg base [("term" : Str), ("value" : Str), ("k" : Str), ("kids" : Str), ("binds" : Str), ("t" : Str)] "_law_put" (defScope (top 55)) f cdv A outer s H E) (lk fa ca kd) κ (fun c d _ H => E c d H) (defBody (top 55)) d40.body :=
  by dsimp only [d40]; refine db_cons (ds_if (tCmp (fun _ => op_dEq S.units) (gIx S (gVL 0) (de_int)) (gStr st6)) (by refine db_cons (ds_ret (de_if (tCmp (fun _ => op_dEq S.units) (gIx S (gVL 0) (de_int)) (gVC 2)) (gCall S 0 F.d39 (gCons (gVC 1) (gCons (gVC 2) (gCons (de_int) (da_nil))))) (de_if (tCmp (fun _ => op_dGt) (gIx S (gVL 0) (de_int)) (gVC 2)) (de_tup (gCons (gStr st6) (gCons (de_bin (gIx S (gVL 0) (de_int)) (de_int) (fun _ => op_dSub)) (da_nil)))) (gVL 0)))) ?_; exact db_nil) (by exact db_nil)) ?_; refine db_cons (sAsg (de_tup (gCons (gCall S 0 F.d37 (gCons (gVL 0) (da_nil))) (gCons (gCall S 0 F.d38 (gCons (gVL 0) (da_nil))) (da_nil)))) (gPT S.calm (gPs (gPC 3 S.nd) (gPs (gPC 4 S.nd) (gPs0))))) ?_; refine db_cons (ds_if (tCmp (fun _ => op_dEq S.units) (gB (fun _ => call_dLen (T := tb)) PyProof.Rows.Boot.«len» F.b_len (gCons (gVC 3) (da_nil))) (de_int)) (by refine db_cons (ds_ret (gVL 0)) ?_; exact db_nil) (by exact db_nil)) ?_; refine db_cons (ds_ret (de_bin (de_tup (gCons (gIx S (gVL 0) (de_int)) (da_nil))) (gTy (fun _ => call_dTuple) PyProof.Rows.Boot.«tuple» F.b_tuple (gCons (gLc [("t", 5)] S (iR1' F.b_range (gCons (gB (fun _ => call_dLen (T := tb)) PyProof.Rows.Boot.«len» F.b_len (gCons (gVC 3) (da_nil))) (da_nil))) (fun _ _ _ _ _ S => (gPL 5 S.nd)) (fun s H C cl fp S => cNone s H _ _ fp) (fun _ _ _ _ _ S => (gCall S 0 F.d40 (gCons (gIx S (gVC 3) (gVL 5)) (gCons (gVC 1) (gCons (de_bin (gVC 2) (gIx S (gVC 4) (gVL 5)) (fun _ => op_dAdd)) (da_nil))))))) (da_nil))) (fun _ => op_dAdd))) ?_; exact db_nil
theorem sc40 : FnScope [("term" : Str), ("value" : Str), ("k" : Str), ("kids" : Str), ("binds" : Str), ("t" : Str)] [("term" : Str), ("value" : Str), ("k" : Str)] (defScope (top 55)) := ⟨by kernel_rfl, by kernel_rfl, by kernel_rfl, by decide +kernel, by kernel_rfl, by decide +kernel, by decide +kernel⟩
theorem v41 (F : Fx P w K mg base fa ca kd) {f : Addr} {cdv : Value} {A : Around} {outer : List PySem.Env} {s : Shared} {H : Hp} {E : XK} (S : Sit (cxOf (L2.CX P w) P w K mg base [("head" : Str), ("args" : Str), ("found" : Str), ("own" : Str)] "_law_app" (defScope (top 56)) f cdv A outer s H E) (lk fa ca kd) tb κ (fun c d _ H => E c d H)) (hp : PassesOwn (model P w) (cxOf (L2.CX P w) P w K mg base [("head" : Str), ("args" : Str), ("found" : Str), ("own" : Str)] "_law_app" (defScope (top 56)) f cdv A outer s H E).A (cxOf (L2.CX P w) P w K mg base [("head" : Str), ("args" : Str), ("found" : Str), ("own" : Str)] "_law_app" (defScope (top 56)) f cdv A outer s H E).env (cxOf (L2.CX P w) P w K mg base [("head" : Str), ("args" : Str), ("found" : Str), ("own" : Str)] "_law_app" (defScope (top 56)) f cdv A outer s H E).xe) :
    DB (cxOf (L2.CX P w) P w K mg base [("head" : Str), ("args" : Str), ("found" : Str), ("own" : Str)] "_law_app" (defScope (top 56)) f cdv A outer s H E) (lk fa ca kd) κ (fun c d _ H => E c d H) (defBody (top 56)) d41.body :=
  by dsimp only [d41]; refine db_cons (sSetL S (gVL 0)) ?_; refine db_cons (sFor S hp (di_of (gVL 1)) (gPL 3 S.nd) (by refine db_cons (sSetL S (de_tup (gCons (gStr st9) (gCons (gVL 2) (gCons (gVL 3) (da_nil)))))) ?_; exact db_nil)) ?_; refine db_cons (ds_ret (gVL 2)) ?_; exact db_nil
theorem sc41 : FnScope [("head" : Str), ("args" : Str), ("found" : Str), ("own" : Str)] [("head" : Str), ("args" : Str)] (defScope (top 56)) := ⟨by kernel_rfl, by kernel_rfl, by kernel_rfl, by decide +kernel, by kernel_rfl, by decide +kernel, by decide +kernel⟩
theorem v42 (F : Fx P w K mg base fa ca kd) {f : Addr} {cdv : Value} {A : Around} {outer : List PySem.Env} {s : Shared} {H : Hp} {E : XK} (S : Sit (cxOf (L2.CX P w) P w K mg base [("n" : Str), ("found" : Str), ("k" : Str)] "_law_numeral" (defScope (top 57)) f cdv A outer s H E) (lk fa ca kd) tb κ (fun c d _ H => E c d H)) (hp : PassesOwn (model P w) (cxOf (L2.CX P w) P w K mg base [("n" : Str), ("found" : Str), ("k" : Str)] "_law_numeral" (defScope (top 57)) f cdv A outer s H E).A (cxOf (L2.CX P w) P w K mg base [("n" : Str), ("found" : Str), ("k" : Str)] "_law_numeral" (defScope (top 57)) f cdv A outer s H E).env (cxOf (L2.CX P w) P w K mg base [("n" : Str), ("found" : Str), ("k" : Str)] "_law_numeral" (defScope (top 57)) f cdv A outer s H E).xe) :
    DB (cxOf (L2.CX P w) P w K mg base [("n" : Str), ("found" : Str), ("k" : Str)] "_law_numeral" (defScope (top 57)) f cdv A outer s H E) (lk fa ca kd) κ (fun c d _ H => E c d H) (defBody (top 57)) d42.body :=
  by dsimp only [d42]; refine db_cons (sSetL S (de_tup (gCons (gStr st7) (gCons (gStr st13) (da_nil))))) ?_; refine db_cons (sFor S hp (iR1' F.b_range (gCons (gVL 0) (da_nil))) (gPL 2 S.nd) (by refine db_cons (sSetL S (de_tup (gCons (gStr st9) (gCons (de_tup (gCons (gStr st7) (gCons (gStr st14) (da_nil)))) (gCons (gVL 1) (da_nil)))))) ?_; exact db_nil)) ?_; refine db_cons (ds_ret (gVL 1)) ?_; exact db_nil
theorem sc42 : FnScope [("n" : Str), ("found" : Str), ("k" : Str)] [("n" : Str)] (defScope (top 57)) := ⟨by kernel_rfl, by kernel_rfl, by kernel_rfl, by decide +kernel, by kernel_rfl, by decide +kernel, by decide +kernel⟩
theorem v43 (F : Fx P w K mg base fa ca kd) {f : Addr} {cdv : Value} {A : Around} {outer : List PySem.Env} {s : Shared} {H : Hp} {E : XK} (S : Sit (cxOf (L2.CX P w) P w K mg base [("term" : Str), ("path" : Str), ("k" : Str)] "_law_at" (defScope (top 58)) f cdv A outer s H E) (lk fa ca kd) tb κ (fun c d _ H => E c d H)) (hp : PassesOwn (model P w) (cxOf (L2.CX P w) P w K mg base [("term" : Str), ("path" : Str), ("k" : Str)] "_law_at" (defScope (top 58)) f cdv A outer s H E).A (cxOf (L2.CX P w) P w K mg base [("term" : Str), ("path" : Str), ("k" : Str)] "_law_at" (defScope (top 58)) f cdv A outer s H E).env (cxOf (L2.CX P w) P w K mg base [("term" : Str), ("path" : Str), ("k" : Str)] "_law_at" (defScope (top 58)) f cdv A outer s H E).xe) :
    DB (cxOf (L2.CX P w) P w K mg base [("term" : Str), ("path" : Str), ("k" : Str)] "_law_at" (defScope (top 58)) f cdv A outer s H E) (lk fa ca kd) κ (fun c d _ H => E c d H) (defBody (top 58)) d43.body :=
  by dsimp only [d43]; refine db_cons (sFor S hp (di_of (gVL 1)) (gPL 2 S.nd) (by refine db_cons (sSetL S (gIx S (gCall S 0 F.d37 (gCons (gVL 0) (da_nil))) (gVL 2))) ?_; exact db_nil)) ?_; refine db_cons (ds_ret (gVL 0)) ?_; exact db_nil
theorem sc43 : FnScope [("term" : Str), ("path" : Str), ("k" : Str)] [("term" : Str), ("path" : Str)] (defScope (top 58)) := ⟨by kernel_rfl, by kernel_rfl, by kernel_rfl, by decide +kernel, by kernel_rfl, by decide +kernel, by decide +kernel⟩
theorem v44 (F : Fx P w K mg base fa ca kd) {f : Addr} {cdv : Value} {A : Around} {outer : List PySem.Env} {s : Shared} {H : Hp} {E : XK} (S : Sit (cxOf (L2.CX P w) P w K mg base [("term" : Str), ("found" : Str), ("kids" : Str), ("k" : Str), ("own" : Str)] "_law_paths" (defScope (top 59)) f cdv A outer s H E) (lk fa ca kd) tb κ (fun c d _ H => E c d H)) (hp : PassesOwn (model P w) (cxOf (L2.CX P w) P w K mg base [("term" : Str), ("found" : Str), ("kids" : Str), ("k" : Str), ("own" : Str)] "_law_paths" (defScope (top 59)) f cdv A outer s H E).A (cxOf (L2.CX P w) P w K mg base [("term" : Str), ("found" : Str), ("kids" : Str), ("k" : Str), ("own" : Str)] "_law_paths" (defScope (top 59)) f cdv A outer s H E).env (cxOf (L2.CX P w) P w K mg base [("term" : Str), ("found" : Str), ("kids" : Str), ("k" : Str), ("own" : Str)] "_law_paths" (defScope (top 59)) f cdv A outer s H E).xe) :
    DB (cxOf (L2.CX P w) P w K mg base [("term" : Str), ("found" : Str), ("kids" : Str), ("k" : Str), ("own" : Str)] "_law_paths" (defScope (top 59)) f cdv A outer s H E) (lk fa ca kd) κ (fun c d _ H => E c d H) (defBody (top 59)) d44.body :=
  by dsimp only [d44]; refine db_cons (sSetL S (de_lst (gCons (de_tup (da_nil)) (da_nil)))) ?_; refine db_cons (sSetL S (gCall S 0 F.d37 (gCons (gVL 0) (da_nil)))) ?_; refine db_cons (sFor S hp (iR1' F.b_range (gCons (gB (fun _ => call_dLen (T := tb)) PyProof.Rows.Boot.«len» F.b_len (gCons (gVL 2) (da_nil))) (da_nil))) (gPC 3 S.nd) (by refine db_cons (sSetL S (de_bin (gVL 1) (gLc [("own", 4)] S (di_of (gCall S 0 F.d44 (gCons (gIx S (gVL 2) (gVC 3)) (da_nil)))) (fun _ _ _ _ _ S => (gPL 4 S.nd)) (fun s H C cl fp S => cNone s H _ _ fp) (fun _ _ _ _ _ S => (de_bin (de_tup (gCons (gVC 3) (da_nil))) (gVL 4) (fun _ => op_dAdd)))) (fun _ => op_dAdd))) ?_; exact db_nil)) ?_; refine db_cons (ds_ret (gVL 1)) ?_; exact db_nil
theorem sc44 : FnScope [("term" : Str), ("found" : Str), ("kids" : Str), ("k" : Str), ("own" : Str)] [("term" : Str)] (defScope (top 59)) := ⟨by kernel_rfl, by kernel_rfl, by kernel_rfl, by decide +kernel, by kernel_rfl, by decide +kernel, by decide +kernel⟩
theorem v45 (F : Fx P w K mg base fa ca kd) {f : Addr} {cdv : Value} {A : Around} {outer : List PySem.Env} {s : Shared} {H : Hp} {E : XK} (S : Sit (cxOf (L2.CX P w) P w K mg base [("term" : Str), ("path" : Str), ("new" : Str), ("kids" : Str)] "_law_swap" (defScope (top 60)) f cdv A outer s H E) (lk fa ca kd) tb κ (fun c d _ H => E c d H)) (hp : PassesOwn (model P w) (cxOf (L2.CX P w) P w K mg base [("term" : Str), ("path" : Str), ("new" : Str), ("kids" : Str)] "_law_swap" (defScope (top 60)) f cdv A outer s H E).A (cxOf (L2.CX P w) P w K mg base [("term" : Str), ("path" : Str), ("new" : Str), ("kids" : Str)] "_law_swap" (defScope (top 60)) f cdv A outer s H E).env (cxOf (L2.CX P w) P w K mg base [("term" : Str), ("path" : Str), ("new" : Str), ("kids" : Str)] "_law_swap" (defScope (top 60)) f cdv A outer s H E).xe) :
    DB (cxOf (L2.CX P w) P w K mg base [("term" : Str), ("path" : Str), ("new" : Str), ("kids" : Str)] "_law_swap" (defScope (top 60)) f cdv A outer s H E) (lk fa ca kd) κ (fun c d _ H => E c d H) (defBody (top 60)) d45.body :=
  by dsimp only [d45]; refine db_cons (ds_if (tCmp (fun _ => op_dEq S.units) (gB (fun _ => call_dLen (T := tb)) PyProof.Rows.Boot.«len» F.b_len (gCons (gVL 1) (da_nil))) (de_int)) (by refine db_cons (ds_ret (gVL 2)) ?_; exact db_nil) (by exact db_nil)) ?_; refine db_cons (sSetL S (gCall S 0 F.d37 (gCons (gVL 0) (da_nil)))) ?_; refine db_cons (ds_ret (de_bin (de_bin (de_bin (de_tup (gCons (gIx S (gVL 0) (de_int)) (da_nil))) (gSl1 (gVL 3) (gIx S (gVL 1) (de_int))) (fun _ => op_dAdd)) (de_tup (gCons (gCall S 0 F.d45 (gCons (gIx S (gVL 3) (gIx S (gVL 1) (de_int))) (gCons (gSl0 (gVL 1) (de_int)) (gCons (gVL 2) (da_nil))))) (da_nil))) (fun _ => op_dAdd)) (gSl0 (gVL 3) (de_bin (gIx S (gVL 1) (de_int)) (de_int) (fun _ => op_dAdd))) (fun _ => op_dAdd))) ?_; exact db_nil
theorem sc45 : FnScope [("term" : Str), ("path" : Str), ("new" : Str), ("kids" : Str)] [("term" : Str), ("path" : Str), ("new" : Str)] (defScope (top 60)) := ⟨by kernel_rfl, by kernel_rfl, by kernel_rfl, by decide +kernel, by kernel_rfl, by decide +kernel, by decide +kernel⟩
theorem v46 (F : Fx P w K mg base fa ca kd) {f : Addr} {cdv : Value} {A : Around} {outer : List PySem.Env} {s : Shared} {H : Hp} {E : XK} (S : Sit (cxOf (L2.CX P w) P w K mg base [("state" : Str), ("deep" : Str), ("k" : Str), ("form" : Str), ("many" : Str), ("t" : Str)] "_law_loose" (defScope (top 61)) f cdv A outer s H E) (lk fa ca kd) tb κ (fun c d _ H => E c d H)) (hp : PassesOwn (model P w) (cxOf (L2.CX P w) P w K mg base [("state" : Str), ("deep" : Str), ("k" : Str), ("form" : Str), ("many" : Str), ("t" : Str)] "_law_loose" (defScope (top 61)) f cdv A outer s H E).A (cxOf (L2.CX P w) P w K mg base [("state" : Str), ("deep" : Str), ("k" : Str), ("form" : Str), ("many" : Str), ("t" : Str)] "_law_loose" (defScope (top 61)) f cdv A outer s H E).env (cxOf (L2.CX P w) P w K mg base [("state" : Str), ("deep" : Str), ("k" : Str), ("form" : Str), ("many" : Str), ("t" : Str)] "_law_loose" (defScope (top 61)) f cdv A outer s H E).xe) :
    DB (cxOf (L2.CX P w) P w K mg base [("state" : Str), ("deep" : Str), ("k" : Str), ("form" : Str), ("many" : Str), ("t" : Str)] "_law_loose" (defScope (top 61)) f cdv A outer s H E) (lk fa ca kd) κ (fun c d _ H => E c d H) (defBody (top 61)) d46.body :=
  by dsimp only [d46]; refine db_cons (sSetL S (de_if (tCmp (fun _ => op_dGt) (gVC 1) (de_int)) (gCall S 0 F.d31 (gCons (gVC 0) (gCons (de_int) (da_nil)))) (gCall S 0 F.d31 (gCons (gVC 0) (gCons (de_int) (da_nil)))))) ?_; refine db_cons (ds_if (tCmp (fun _ => op_dLt) (gVL 2) (de_int)) (by refine db_cons (ds_ret (gIx S (de_tup (gCons (de_tup (gCons (gStr st6) (gCons (gCall S 0 F.d31 (gCons (gVC 0) (gCons (de_int) (da_nil)))) (da_nil)))) (gCons (de_tup (gCons (gStr st7) (gCons (gIx S (gStr st20) (gCall S 0 F.d31 (gCons (gVC 0) (gCons (de_int) (da_nil))))) (da_nil)))) (gCons (de_tup (gCons (gStr st8) (gCons (gCall S 0 F.d31 (gCons (gVC 0) (gCons (de_int) (da_nil)))) (da_nil)))) (da_nil))))) (gVL 2))) ?_; exact db_nil) (by exact db_nil)) ?_; refine db_cons (sSetL S (gIx S (de_tup (gCons (gStr st10) (gCons (gStr st11) (gCons (gStr st9) (gCons (gStr st18) (gCons (gStr st23) (gCons (gStr st22) (gCons (gStr st21) (gCons (gStr st19) (da_nil)))))))))) (de_bin (gVL 2) (de_int) (fun _ => op_dSub)))) ?_; refine db_cons (sSetL S (de_if (tCmp (fun _ => op_dIn S.kd S.units) (gVL 3) (de_tup (gCons (gStr st22) (gCons (gStr st21) (da_nil))))) (de_int) (de_if (tCmp (fun _ => op_dIn S.kd S.units) (gVL 3) (de_tup (gCons (gStr st23) (gCons (gStr st19) (da_nil))))) (de_int) (de_int)))) ?_; refine db_cons (ds_ret (de_bin (de_tup (gCons (gVL 3) (da_nil))) (gTy (fun _ => call_dTuple) PyProof.Rows.Boot.«tuple» F.b_tuple (gCons (gLc [("t", 5)] S (iR1' F.b_range (gCons (gVL 4) (da_nil))) (fun _ _ _ _ _ S => (gPL 5 S.nd)) (fun s H C cl fp S => cNone s H _ _ fp) (fun _ _ _ _ _ S => (gCall S 0 F.d46 (gCons (gVC 0) (gCons (de_bin (gVC 1) (de_int) (fun _ => op_dSub)) (da_nil)))))) (da_nil))) (fun _ => op_dAdd))) ?_; exact db_nil
theorem sc46 : FnScope [("state" : Str), ("deep" : Str), ("k" : Str), ("form" : Str), ("many" : Str), ("t" : Str)] [("state" : Str), ("deep" : Str)] (defScope (top 61)) := ⟨by kernel_rfl, by kernel_rfl, by kernel_rfl, by decide +kernel, by kernel_rfl, by decide +kernel, by decide +kernel⟩
theorem v47 (F : Fx P w K mg base fa ca kd) {f : Addr} {cdv : Value} {A : Around} {outer : List PySem.Env} {s : Shared} {H : Hp} {E : XK} (S : Sit (cxOf (L2.CX P w) P w K mg base [("term" : Str), ("deep" : Str), ("found" : Str), ("kids" : Str), ("binds" : Str), ("k" : Str)] "_law_free" (defScope (top 63)) f cdv A outer s H E) (lk fa ca kd) tb κ (fun c d _ H => E c d H)) (hp : PassesOwn (model P w) (cxOf (L2.CX P w) P w K mg base [("term" : Str), ("deep" : Str), ("found" : Str), ("kids" : Str), ("binds" : Str), ("k" : Str)] "_law_free" (defScope (top 63)) f cdv A outer s H E).A (cxOf (L2.CX P w) P w K mg base [("term" : Str), ("deep" : Str), ("found" : Str), ("kids" : Str), ("binds" : Str), ("k" : Str)] "_law_free" (defScope (top 63)) f cdv A outer s H E).env (cxOf (L2.CX P w) P w K mg base [("term" : Str), ("deep" : Str), ("found" : Str), ("kids" : Str), ("binds" : Str), ("k" : Str)] "_law_free" (defScope (top 63)) f cdv A outer s H E).xe) :
    DB (cxOf (L2.CX P w) P w K mg base [("term" : Str), ("deep" : Str), ("found" : Str), ("kids" : Str), ("binds" : Str), ("k" : Str)] "_law_free" (defScope (top 63)) f cdv A outer s H E) (lk fa ca kd) κ (fun c d _ H => E c d H) (defBody (top 63)) d47.body :=
  by dsimp only [d47]; refine db_cons (ds_if (tCmp (fun _ => op_dEq S.units) (gIx S (gVL 0) (de_int)) (gStr st6)) (by refine db_cons (ds_ret (de_if (tCmp (fun _ => op_dGe) (gIx S (gVL 0) (de_int)) (gVL 1)) (de_lst (gCons (de_bin (gIx S (gVL 0) (de_int)) (gVL 1) (fun _ => op_dSub)) (da_nil))) (de_lst (da_nil)))) ?_; exact db_nil) (by exact db_nil)) ?_; refine db_cons (sPar3 S (gCons (de_lst (da_nil)) (gCons (gCall S 0 F.d37 (gCons (gVL 0) (da_nil))) (gCons (gCall S 0 F.d38 (gCons (gVL 0) (da_nil))) (da_nil))))) ?_; refine db_cons (sFor S hp (iR1' F.b_range (gCons (gB (fun _ => call_dLen (T := tb)) PyProof.Rows.Boot.«len» F.b_len (gCons (gVL 3) (da_nil))) (da_nil))) (gPL 5 S.nd) (by refine db_cons (sSetL S (de_bin (gVL 2) (gCall S 0 F.d47 (gCons (gIx S (gVL 3) (gVL 5)) (gCons (de_bin (gVL 1) (gIx S (gVL 4) (gVL 5)) (fun _ => op_dAdd)) (da_nil)))) (fun _ => op_dAdd))) ?_; exact db_nil)) ?_; refine db_cons (ds_ret (gVL 2)) ?_; exact db_nil
theorem sc47 : FnScope [("term" : Str), ("deep" : Str), ("found" : Str), ("kids" : Str), ("binds" : Str), ("k" : Str)] [("term" : Str), ("deep" : Str)] (defScope (top 63)) := ⟨by kernel_rfl, by kernel_rfl, by kernel_rfl, by decide +kernel, by kernel_rfl, by decide +kernel, by decide +kernel⟩
theorem v48 (F : Fx P w K mg base fa ca kd) {f : Addr} {cdv : Value} {A : Around} {outer : List PySem.Env} {s : Shared} {H : Hp} {E : XK} (S : Sit (cxOf (L2.CX P w) P w K mg base [("term" : Str), ("path" : Str), ("found" : Str), ("k" : Str)] "_law_around" (defScope (top 64)) f cdv A outer s H E) (lk fa ca kd) tb κ (fun c d _ H => E c d H)) (hp : PassesOwn (model P w) (cxOf (L2.CX P w) P w K mg base [("term" : Str), ("path" : Str), ("found" : Str), ("k" : Str)] "_law_around" (defScope (top 64)) f cdv A outer s H E).A (cxOf (L2.CX P w) P w K mg base [("term" : Str), ("path" : Str), ("found" : Str), ("k" : Str)] "_law_around" (defScope (top 64)) f cdv A outer s H E).env (cxOf (L2.CX P w) P w K mg base [("term" : Str), ("path" : Str), ("found" : Str), ("k" : Str)] "_law_around" (defScope (top 64)) f cdv A outer s H E).xe) :
    DB (cxOf (L2.CX P w) P w K mg base [("term" : Str), ("path" : Str), ("found" : Str), ("k" : Str)] "_law_around" (defScope (top 64)) f cdv A outer s H E) (lk fa ca kd) κ (fun c d _ H => E c d H) (defBody (top 64)) d48.body :=
  by dsimp only [d48]; refine db_cons (sSetL S (de_int)) ?_; refine db_cons (sFor S hp (di_of (gVL 1)) (gPL 3 S.nd) (by refine db_cons (sPar S (gCons (de_bin (gVL 2) (gIx S (gCall S 0 F.d38 (gCons (gVL 0) (da_nil))) (gVL 3)) (fun _ => op_dAdd)) (gCons (gIx S (gCall S 0 F.d37 (gCons (gVL 0) (da_nil))) (gVL 3)) (da_nil)))) ?_; exact db_nil)) ?_; refine db_cons (ds_ret (gVL 2)) ?_; exact db_nil
theorem sc48 : FnScope [("term" : Str), ("path" : Str), ("found" : Str), ("k" : Str)] [("term" : Str), ("path" : Str)] (defScope (top 64)) := ⟨by kernel_rfl, by kernel_rfl, by kernel_rfl, by decide +kernel, by kernel_rfl, by decide +kernel, by decide +kernel⟩
theorem v49 (F : Fx P w K mg base fa ca kd) {f : Addr} {cdv : Value} {A : Around} {outer : List PySem.Env} {s : Shared} {H : Hp} {E : XK} (S : Sit (cxOf (L2.CX P w) P w K mg base [("names" : Str), ("text" : Str), ("plain" : Str), ("told" : Str), ("value" : Str)] "_law_names_hold" (defScope (top 65)) f cdv A outer s H E) (lk fa ca kd) tb κ (fun c d _ H => E c d H)) (hp : PassesOwn (model P w) (cxOf (L2.CX P w) P w K mg base [("names" : Str), ("text" : Str), ("plain" : Str), ("told" : Str), ("value" : Str)] "_law_names_hold" (defScope (top 65)) f cdv A outer s H E).A (cxOf (L2.CX P w) P w K mg base [("names" : Str), ("text" : Str), ("plain" : Str), ("told" : Str), ("value" : Str)] "_law_names_hold" (defScope (top 65)) f cdv A outer s H E).env (cxOf (L2.CX P w) P w K mg base [("names" : Str), ("text" : Str), ("plain" : Str), ("told" : Str), ("value" : Str)] "_law_names_hold" (defScope (top 65)) f cdv A outer s H E).xe) :
    DB (cxOf (L2.CX P w) P w K mg base [("names" : Str), ("text" : Str), ("plain" : Str), ("told" : Str), ("value" : Str)] "_law_names_hold" (defScope (top 65)) f cdv A outer s H E) (lk fa ca kd) κ (fun c d _ H => E c d H) (defBody (top 65)) d49.body :=
  by dsimp only [d49]; refine db_cons (sSetL S (de_lst (gCons (de_tup (gCons (gStr st28) (gCons (de_bl) (gCons (de_bl) (da_nil))))) (gCons (de_tup (gCons (gStr st27) (gCons (de_bl) (gCons (de_bl) (da_nil))))) (gCons (de_tup (gCons (gStr st2) (gCons (de_bl) (gCons (de_bl) (da_nil))))) (gCons (de_tup (gCons (gStr st26) (gCons (de_bl) (gCons (de_bl) (da_nil))))) (gCons (de_tup (gCons (gStr st25) (gCons (de_bl) (gCons (de_bl) (da_nil))))) (gCons (de_tup (gCons (gStr st3) (gCons (de_bl) (gCons (de_bl) (da_nil))))) (gCons (de_tup (gCons (gStr st24) (gCons (de_bl) (gCons (de_bl) (da_nil))))) (da_nil)))))))))) ?_; refine db_cons (sFor S hp (di_of (de_bin (gVL 0) (de_lst (gCons (de_tup (gCons (gStr st32) (gCons (de_bl) (gCons (de_bl) (da_nil))))) (gCons (de_tup (gCons (gStr st31) (gCons (de_bl) (gCons (de_bl) (da_nil))))) (gCons (de_tup (gCons (gStr st30) (gCons (de_bl) (gCons (de_bl) (da_nil))))) (gCons (de_tup (gCons (gStr st29) (gCons (de_bl) (gCons (de_bl) (da_nil))))) (da_nil)))))) (fun _ => op_dAdd))) (gPT S.calm (gPs (gPL 1 S.nd) (gPs (gPL 2 S.nd) (gPs (gPL 3 S.nd) (gPs0))))) (by refine db_cons (ds_if (tW (dw_or (dt_not (tVal (gCall S 0 F.d32 (gCons (gCall S 0 F.d4 (gCons (gVL 1) (da_nil))) (gCons (gVL 2) (da_nil)))))) (dw_one_or (dt_not (tVal (gCall S 0 F.d32 (gCons (gCall S 0 F.d6 (gCons (gVL 1) (da_nil))) (gCons (gVL 3) (da_nil))))))))) (by refine db_cons (ds_ret (de_bl)) ?_; exact db_nil) (by exact db_nil)) ?_; exact db_nil)) ?_; refine db_cons (sFor S hp (di_of (de_lst (gCons (gStr st36) (gCons (gStr st35) (gCons (de_bin (gStr st28) (de_int) (fun _ => op_dMul)) (gCons (de_non) (gCons (de_int) (gCons (de_tup (gCons (gStr st28) (da_nil))) (gCons (gStr st34) (gCons (gStr st33) (gCons (de_lst (gCons (gStr st28) (da_nil))) (da_nil)))))))))))) (gPL 4 S.nd) (by refine db_cons (ds_if (tW (dw_or (dt_not (tVal (gCall S 0 F.d32 (gCons (gCall S 0 F.d4 (gCons (gVL 4) (da_nil))) (gCons (de_bl) (da_nil)))))) (dw_or (dt_not (tVal (gCall S 0 F.d32 (gCons (gCall S 0 F.d6 (gCons (gVL 4) (da_nil))) (gCons (de_bl) (da_nil)))))) (dw_one_or (dt_not (tVal (gCall S 0 F.d32 (gCons (gCall S 0 F.d5 (gCons (gVL 4) (da_nil))) (gCons (de_bl) (da_nil)))))))))) (by refine db_cons (ds_ret (de_bl)) ?_; exact db_nil) (by exact db_nil)) ?_; exact db_nil)) ?_; refine db_cons (ds_ret (de_and (gCall S 0 F.d32 (gCons (gCall S 0 F.d5 (gCons (gStr st37) (da_nil))) (gCons (de_bl) (da_nil)))) (de_and (gCall S 0 F.d32 (gCons (gCall S 0 F.d5 (gCons (gStr st2) (da_nil))) (gCons (de_bl) (da_nil)))) (de_one (gCall S 0 F.d32 (gCons (gCall S 0 F.d6 (gCons (de_bin (gStr st28) (de_int) (fun _ => op_dMul)) (da_nil))) (gCons (de_bl) (da_nil)))))))) ?_; exact db_nil
theorem sc49 : FnScope [("names" : Str), ("text" : Str), ("plain" : Str), ("told" : Str), ("value" : Str)] [] (defScope (top 65)) := ⟨by kernel_rfl, by kernel_rfl, by kernel_rfl, by decide +kernel, by kernel_rfl, by decide +kernel, by decide +kernel⟩
theorem v50 (F : Fx P w K mg base fa ca kd) {f : Addr} {cdv : Value} {A : Around} {outer : List PySem.Env} {s : Shared} {H : Hp} {E : XK} (S : Sit (cxOf (L2.CX P w) P w K mg base [("script" : Str), ("state" : Str), ("term" : Str), ("value" : Str), ("paths" : Str), ("told" : Str), ("k" : Str), ("by" : Str), ("low" : Str), ("two" : Str), ("free" : Str), ("path" : Str), ("far" : Str), ("head" : Str), ("args" : Str), ("end" : Str), ("n" : Str), ("deep" : Str), ("t" : Str), ("others" : Str), ("bad" : Str), ("good" : Str), ("c" : Str)] "law" (defScope (top 66)) f cdv A outer s H E) (lk fa ca kd) tb κ (fun c d _ H => E c d H)) (hp : PassesOwn (model P w) (cxOf (L2.CX P w) P w K mg base [("script" : Str), ("state" : Str), ("term" : Str), ("value" : Str), ("paths" : Str), ("told" : Str), ("k" : Str), ("by" : Str), ("low" : Str), ("two" : Str), ("free" : Str), ("path" : Str), ("far" : Str), ("head" : Str), ("args" : Str), ("end" : Str), ("n" : Str), ("deep" : Str), ("t" : Str), ("others" : Str), ("bad" : Str), ("good" : Str), ("c" : Str)] "law" (defScope (top 66)) f cdv A outer s H E).A (cxOf (L2.CX P w) P w K mg base [("script" : Str), ("state" : Str), ("term" : Str), ("value" : Str), ("paths" : Str), ("told" : Str), ("k" : Str), ("by" : Str), ("low" : Str), ("two" : Str), ("free" : Str), ("path" : Str), ("far" : Str), ("head" : Str), ("args" : Str), ("end" : Str), ("n" : Str), ("deep" : Str), ("t" : Str), ("others" : Str), ("bad" : Str), ("good" : Str), ("c" : Str)] "law" (defScope (top 66)) f cdv A outer s H E).env (cxOf (L2.CX P w) P w K mg base [("script" : Str), ("state" : Str), ("term" : Str), ("value" : Str), ("paths" : Str), ("told" : Str), ("k" : Str), ("by" : Str), ("low" : Str), ("two" : Str), ("free" : Str), ("path" : Str), ("far" : Str), ("head" : Str), ("args" : Str), ("end" : Str), ("n" : Str), ("deep" : Str), ("t" : Str), ("others" : Str), ("bad" : Str), ("good" : Str), ("c" : Str)] "law" (defScope (top 66)) f cdv A outer s H E).xe) :
    DB (cxOf (L2.CX P w) P w K mg base [("script" : Str), ("state" : Str), ("term" : Str), ("value" : Str), ("paths" : Str), ("told" : Str), ("k" : Str), ("by" : Str), ("low" : Str), ("two" : Str), ("free" : Str), ("path" : Str), ("far" : Str), ("head" : Str), ("args" : Str), ("end" : Str), ("n" : Str), ("deep" : Str), ("t" : Str), ("others" : Str), ("bad" : Str), ("good" : Str), ("c" : Str)] "law" (defScope (top 66)) f cdv A outer s H E) (lk fa ca kd) κ (fun c d _ H => E c d H) (defBody (top 66)) d50.body :=
  by dsimp only [d50]; refine db_cons (sSetL S (gCall S 0 F.d30 (gCons (gVL 0) (da_nil)))) ?_; refine db_cons (sAsg (de_tup (gCons (gCall S 0 F.d46 (gCons (gVL 1) (gCons (de_int) (da_nil)))) (gCons (gCall S 0 F.d46 (gCons (gVL 1) (gCons (de_int) (da_nil)))) (da_nil)))) (gPT S.calm (gPs (gPC 2 S.nd) (gPs (gPL 3 S.nd) (gPs0))))) ?_; refine db_cons (sSetC S (gCall S 0 F.d44 (gCons (gVC 2) (da_nil)))) ?_; refine db_cons (sSetL S (gCall S 0 F.d24 (gCons (gVC 2) (da_nil)))) ?_; refine db_cons (ds_if (tW (dw_or (dt_not (tVal (gIsi (t := .list) (fun _ h => by cases h) PyProof.Rows.Boot.«list» F.b_isinstance F.b_list (gVL 5)))) (dw_or (dt_not (tVal (gCall S 0 F.d34 (gCons (gTy (fun _ => call_dTuple) PyProof.Rows.Boot.«tuple» F.b_tuple (gCons (gVL 5) (da_nil))) (gCons (gTy (fun _ => call_dTuple) PyProof.Rows.Boot.«tuple» F.b_tuple (gCons (gVC 4) (da_nil))) (da_nil)))))) (dw_or (dt_not (tVal (gCall S 0 F.d34 (gCons (gCall S 0 F.d12 (gCons (gVC 2) (da_nil))) (gCons (gB (fun _ => call_dLen (T := tb)) PyProof.Rows.Boot.«len» F.b_len (gCons (gVC 4) (da_nil))) (da_nil)))))) (dw_one_or (dt_not (tVal (gCall S 0 F.d34 (gCons (gCall S 0 F.d13 (gCons (gVC 2) (da_nil))) (gCons (gB (fun _ => call_dMax S.calm) PyProof.Rows.Boot.«max» F.b_max (gCons (gLc [("path", 11)] S (di_of (gVC 4)) (fun _ _ _ _ _ S => (gPL 11 S.nd)) (fun s H C cl fp S => cNone s H _ _ fp) (fun _ _ _ _ _ S => (gB (fun _ => call_dLen (T := tb)) PyProof.Rows.Boot.«len» F.b_len (gCons (gVL 11) (da_nil))))) (da_nil))) (da_nil))))))))))) (by refine db_cons (ds_ret (de_bl)) ?_; exact db_nil) (by exact db_nil)) ?_; refine db_cons (ds_if (tW (dw_or (tCmp (fun _ => op_dNe S.units) (gCall S 0 F.d7 (gCons (gVC 2) (da_nil))) (gCall S 0 F.d37 (gCons (gVC 2) (da_nil)))) (dw_or (tCmp (fun _ => op_dNe S.units) (gCall S 0 F.d8 (gCons (gVC 2) (da_nil))) (gCall S 0 F.d38 (gCons (gVC 2) (da_nil)))) (dw_or (tCmp (fun _ => op_dNe S.units) (gCall S 0 F.d9 (gCons (gVC 2) (gCons (gTy (fun _ => call_dList) PyProof.Rows.Boot.«list» F.b_list (gCons (gCall S 0 F.d7 (gCons (gVC 2) (da_nil))) (da_nil))) (da_nil)))) (gVC 2)) (dw_one_or (dt_not (tVal (gCall S 0 F.d32 (gCons (gCall S 0 F.d10 (gCons (gVC 2) (da_nil))) (gCons (de_bl) (da_nil))))))))))) (by refine db_cons (ds_ret (de_bl)) ?_; exact db_nil) (by exact db_nil)) ?_; refine db_cons (sPar3 S (gCons (gCall S 0 F.d31 (gCons (gVL 1) (gCons (de_int) (da_nil)))) (gCons (gCall S 0 F.d31 (gCons (gVL 1) (gCons (de_int) (da_nil)))) (gCons (gCall S 0 F.d31 (gCons (gVL 1) (gCons (de_int) (da_nil)))) (da_nil))))) ?_; refine db_cons (ds_if (tW (dw_or (tCmp (fun _ => op_dNe S.units) (gCall S 0 F.d14 (gCons (gVC 2) (gCons (gVL 7) (da_nil)))) (gCall S 0 F.d39 (gCons (gVC 2) (gCons (gVL 7) (gCons (de_int) (da_nil)))))) (dw_one_or (tCmp (fun _ => op_dNe S.units) (gCall S 1 F.d14 (gCons (gVC 2) (gCons (gVL 7) (gCons (gVL 8) (da_nil))))) (gCall S 0 F.d39 (gCons (gVC 2) (gCons (gVL 7) (gCons (gVL 8) (da_nil))))))))) (by refine db_cons (ds_ret (de_bl)) ?_; exact db_nil) (by exact db_nil)) ?_; refine db_cons (ds_if (tW (dw_or (tCmp (fun _ => op_dNe S.units) (gCall S 0 F.d15 (gCons (gVC 2) (gCons (gVL 3) (da_nil)))) (gCall S 0 F.d40 (gCons (gVC 2) (gCons (gVL 3) (gCons (de_int) (da_nil)))))) (dw_one_or (tCmp (fun _ => op_dNe S.units) (gCall S 1 F.d15 (gCons (gVC 2) (gCons (gVL 3) (gCons (gVL 6) (da_nil))))) (gCall S 0 F.d40 (gCons (gVC 2) (gCons (gVL 3) (gCons (gVL 6) (da_nil))))))))) (by refine db_cons (ds_ret (de_bl)) ?_; exact db_nil) (by exact db_nil)) ?_; refine db_cons (ds_if (tW (dw_or (tCmp (fun _ => op_dNe S.units) (gCall S 0 F.d15 (gCons (gCall S 0 F.d14 (gCons (gVC 2) (gCons (de_int) (da_nil)))) (gCons (gVL 3) (da_nil)))) (gVC 2)) (dw_one_or (tCmp (fun _ => op_dNe S.units) (gCall S 1 F.d15 (gCons (gCall S 1 F.d14 (gCons (gVC 2) (gCons (de_int) (gCons (gVL 6) (da_nil))))) (gCons (gVL 3) (gCons (gVL 6) (da_nil))))) (gVC 2))))) (by refine db_cons (ds_ret (de_bl)) ?_; exact db_nil) (by exact db_nil)) ?_; refine db_cons (sSetL S (de_tup (gCons (gCall S 0 F.d46 (gCons (gVL 1) (gCons (de_int) (da_nil)))) (gCons (gCall S 0 F.d46 (gCons (gVL 1) (gCons (de_int) (da_nil)))) (da_nil))))) ?_; refine db_cons (ds_if (tW (dw_or (tCmp (fun _ => op_dNe S.units) (gCall S 0 F.d16 (gCons (gVC 2) (gCons (gVL 9) (da_nil)))) (gCall S 0 F.d40 (gCons (gCall S 0 F.d40 (gCons (gVC 2) (gCons (gCall S 0 F.d39 (gCons (gIx S (gVL 9) (de_int)) (gCons (de_int) (gCons (de_int) (da_nil))))) (gCons (de_int) (da_nil))))) (gCons (gIx S (gVL 9) (de_int)) (gCons (de_int) (da_nil)))))) (dw_one_or (tCmp (fun _ => op_dNe S.units) (gCall S 0 F.d16 (gCons (gVC 2) (gCons (de_tup (da_nil)) (da_nil)))) (gVC 2))))) (by refine db_cons (ds_ret (de_bl)) ?_; exact db_nil) (by exact db_nil)) ?_; refine db_cons (sSetC S (gCall S 0 F.d47 (gCons (gVC 2) (gCons (de_int) (da_nil))))) ?_; refine db_cons (ds_if (dt_not (tVal (gCall S 0 F.d34 (gCons (gCall S 0 F.d17 (gCons (gVC 2) (da_nil))) (gCons (gTy (fun _ => call_dTuple) PyProof.Rows.Boot.«tuple» F.b_tuple (gCons (gLc [("c", 22)] S (iR1' F.b_range (gCons (de_int) (da_nil))) (fun _ _ _ _ _ S => (gPL 22 S.nd)) (fun _ _ _ _ _ S => pts_one (tCmp (fun _ => op_dIn S.kd S.units) (gVL 22) (gVC 10))) (fun _ _ _ _ _ S => (gVL 22))) (da_nil))) (da_nil)))))) (by refine db_cons (ds_ret (de_bl)) ?_; exact db_nil) (by exact db_nil)) ?_; refine db_cons (ds_if (dt_not (tVal (gCall S 0 F.d34 (gCons (gCall S 0 F.d18 (gCons (gVC 2) (da_nil))) (gCons (gTy (fun _ => call_dTuple) PyProof.Rows.Boot.«tuple» F.b_tuple (gCons (gLc [("c", 22)] S (di_of (gStr st20)) (fun _ _ _ _ _ S => (gPC 22 S.nd)) (fun _ _ _ _ _ S => pts_one (tVal (gB (fun _ => call_dAny S.calm) PyProof.Rows.Boot.«any» F.b_any (gCons (gLc [("path", 11)] S (di_of (gVC 4)) (fun _ _ _ _ _ S => (gPL 11 S.nd)) (fun s H C cl fp S => cNone s H _ _ fp) (fun _ _ _ _ _ S => (gCmp (fun _ => op_dEq S.units) (gCall S 0 F.d43 (gCons (gVC 2) (gCons (gVL 11) (da_nil)))) (de_tup (gCons (gStr st7) (gCons (gVC 22) (da_nil))))))) (da_nil))))) (fun _ _ _ _ _ S => (gVC 22))) (da_nil))) (da_nil)))))) (by refine db_cons (ds_ret (de_bl)) ?_; exact db_nil) (by exact db_nil)) ?_; refine db_cons (sSetL S (gIx S (gVC 4) (gCall S 0 F.d31 (gCons (gVL 1) (gCons (gB (fun _ => call_dLen (T := tb)) PyProof.Rows.Boot.«len» F.b_len (gCons (gVC 4) (da_nil))) (da_nil)))))) ?_; refine db_cons (ds_if (tW (dw_or (tCmp (fun _ => op_dNe S.units) (gCall S 0 F.d25 (gCons (gVC 2) (gCons (gVL 11) (da_nil)))) (gCall S 0 F.d43 (gCons (gVC 2) (gCons (gVL 11) (da_nil))))) (dw_or (dt_not (tVal (gCall S 0 F.d34 (gCons (gCall S 0 F.d26 (gCons (gVC 2) (gCons (gVL 11) (da_nil)))) (gCons (gCall S 0 F.d48 (gCons (gVC 2) (gCons (gVL 11) (da_nil)))) (da_nil)))))) (dw_one_or (tCmp (fun _ => op_dNe S.units) (gCall S 0 F.d27 (gCons (gVC 2) (gCons (gVL 11) (gCons (gVL 3) (da_nil))))) (gCall S 0 F.d45 (gCons (gVC 2) (gCons (gVL 11) (gCons (gVL 3) (da_nil)))))))))) (by refine db_cons (ds_ret (de_bl)) ?_; exact db_nil) (by exact db_nil)) ?_; refine db_cons (sSetL S (de_bin (gVL 11) (de_tup (gCons (de_int) (da_nil))) (fun _ => op_dAdd))) ?_; refine db_cons (ds_if (tW (dw_or (tCmp (fun _ => op_dNe S.units) (gCall S 0 F.d35 (gCons (gFn F.d25) (gCons (de_tup (gCons (gVC 2) (gCons (gVL 12) (da_nil)))) (da_nil)))) (de_tup (gCons (gStr st17) (gCons (gStr st12) (gCons (de_tup (da_nil)) (da_nil)))))) (dw_one_or (tCmp (fun _ => op_dNe S.units) (gCall S 0 F.d35 (gCons (gFn F.d26) (gCons (de_tup (gCons (gVC 2) (gCons (gVL 12) (da_nil)))) (da_nil)))) (de_tup (gCons (gStr st17) (gCons (gStr st12) (gCons (de_tup (da_nil)) (da_nil))))))))) (by refine db_cons (ds_ret (de_bl)) ?_; exact db_nil) (by exact db_nil)) ?_; refine db_cons (ds_if (tCmp (fun _ => op_dNe S.units) (gCall S 0 F.d35 (gCons (gFn F.d27) (gCons (de_tup (gCons (gVC 2) (gCons (gVL 12) (gCons (gVL 3) (da_nil))))) (da_nil)))) (de_tup (gCons (gStr st17) (gCons (gStr st12) (gCons (de_tup (da_nil)) (da_nil)))))) (by refine db_cons (ds_ret (de_bl)) ?_; exact db_nil) (by exact db_nil)) ?_; refine db_cons (sPar S (gCons (de_tup (gCons (gStr st7) (gCons (gStr st38) (da_nil)))) (gCons (de_bin (de_tup (gCons (gVL 3) (da_nil))) (gVL 9) (fun _ => op_dAdd)) (da_nil)))) ?_; refine db_cons (ds_if (tW (dw_or (tCmp (fun _ => op_dNe S.units) (gCall S 0 F.d19 (gCons (gVL 13) (gCons (gVL 14) (da_nil)))) (gCall S 0 F.d41 (gCons (gVL 13) (gCons (gVL 14) (da_nil))))) (dw_or (tCmp (fun _ => op_dNe S.units) (gCall S 0 F.d20 (gCons (gCall S 0 F.d41 (gCons (gVL 13) (gCons (gVL 14) (da_nil)))) (da_nil))) (de_tup (gCons (gVL 13) (gCons (gVL 14) (da_nil))))) (dw_one_or (tCmp (fun _ => op_dNe S.units) (gCall S 0 F.d20 (gCons (de_tup (gCons (gStr st8) (gCons (de_int) (da_nil)))) (da_nil))) (de_tup (gCons (de_tup (gCons (gStr st8) (gCons (de_int) (da_nil)))) (gCons (de_tup (da_nil)) (da_nil))))))))) (by refine db_cons (ds_ret (de_bl)) ?_; exact db_nil) (by exact db_nil)) ?_; refine db_cons (sSetL S (de_tup (gCons (gStr st8) (gCons (de_int) (da_nil))))) ?_; refine db_cons (ds_if (tW (dw_or (tCmp (fun _ => op_dNe S.units) (gCall S 0 F.d21 (gCons (gVL 9) (gCons (gVL 15) (da_nil)))) (de_tup (gCons (gStr st10) (gCons (gIx S (gVL 9) (de_int)) (gCons (de_tup (gCons (gStr st10) (gCons (gIx S (gVL 9) (de_int)) (gCons (gVL 15) (da_nil))))) (da_nil)))))) (dw_or (tCmp (fun _ => op_dNe S.units) (gCall S 0 F.d22 (gCons (gVL 9) (gCons (gVL 15) (da_nil)))) (de_tup (gCons (gStr st11) (gCons (gIx S (gVL 9) (de_int)) (gCons (de_tup (gCons (gStr st11) (gCons (gIx S (gVL 9) (de_int)) (gCons (gVL 15) (da_nil))))) (da_nil)))))) (dw_one_or (tCmp (fun _ => op_dNe S.units) (gCall S 0 F.d23 (gCons (gCall S 0 F.d21 (gCons (gVL 14) (gCons (gVL 15) (da_nil)))) (da_nil))) (de_tup (gCons (gVL 14) (gCons (gVL 15) (da_nil))))))))) (by refine db_cons (ds_ret (de_bl)) ?_; exact db_nil) (by exact db_nil)) ?_; refine db_cons (sSetL S (gCall S 0 F.d31 (gCons (gVL 1) (gCons (de_int) (da_nil))))) ?_; refine db_cons (ds_if (tW (dw_or (tCmp (fun _ => op_dNe S.units) (gCall S 0 F.d28 (gCons (gVL 16) (da_nil))) (gCall S 0 F.d42 (gCons (gVL 16) (da_nil)))) (dw_or (dt_not (tVal (gCall S 0 F.d34 (gCons (gCall S 0 F.d29 (gCons (gCall S 0 F.d28 (gCons (gVL 16) (da_nil))) (da_nil))) (gCons (gVL 16) (da_nil)))))) (dw_one_or (tCmp (fun _ => op_dNotN) (gCall S 0 F.d29 (gCons (de_tup (gCons (gStr st9) (gCons (de_tup (gCons (gStr st7) (gCons (gStr st14) (da_nil)))) (gCons (de_tup (gCons (gStr st7) (gCons (gStr st38) (da_nil)))) (da_nil))))) (da_nil))) (de_non)))))) (by refine db_cons (ds_ret (de_bl)) ?_; exact db_nil) (by exact db_nil)) ?_; refine db_cons (sSetL S (de_tup (gCons (gStr st6) (gCons (de_int) (da_nil))))) ?_; refine db_cons (sFor S hp (iR1' F.b_range (gCons (de_int) (da_nil))) (gPL 18 S.nd) (by refine db_cons (sSetL S (de_tup (gCons (gStr st22) (gCons (gVL 17) (da_nil))))) ?_; exact db_nil)) ?_; refine db_cons (sSetL S (de_lst (gCons (de_tup (gCons (gStr st7) (gCons (gStr st32) (da_nil)))) (gCons (de_tup (gCons (gStr st7) (gCons (de_int) (da_nil)))) (gCons (de_tup (gCons (gStr st9) (gCons (gVC 2) (da_nil)))) (gCons (de_tup (gCons (gStr st9) (gCons (gVC 2) (gCons (gVC 2) (gCons (gVC 2) (da_nil)))))) (gCons (de_tup (gCons (gStr st10) (gCons (gVC 2) (gCons (de_non) (da_nil))))) (gCons (de_tup (gCons (gStr st5) (gCons (de_int) (da_nil)))) (gCons (de_tup (gCons (gStr st4) (gCons (de_int) (da_nil)))) (gCons (de_lst (gCons (gStr st6) (gCons (de_int) (da_nil)))) (gCons (de_tup (gCons (gStr st39) (gCons (de_int) (da_nil)))) (da_nil)))))))))))) ?_; refine db_cons (sFor S hp (di_of (de_bin (de_lst (gCons (de_non) (gCons (de_int) (gCons (de_tup (da_nil)) (gCons (de_tup (gCons (gStr st6) (da_nil))) (gCons (de_tup (gCons (gStr st6) (gCons (de_un (de_int) (fun _ => un_dNeg)) (da_nil)))) (gCons (de_tup (gCons (gStr st6) (gCons (de_bl) (da_nil)))) (gCons (de_tup (gCons (gStr st6) (gCons (de_int) (da_nil)))) (gCons (de_tup (gCons (gStr st8) (gCons (de_int) (da_nil)))) (gCons (de_tup (gCons (gStr st8) (gCons (de_non) (da_nil)))) (gCons (gVL 17) (gCons (gStr st6) (da_nil))))))))))))) (gVL 19) (fun _ => op_dAdd))) (gPL 20 S.nd) (by refine db_cons (ds_if (dt_not (tVal (gCall S 0 F.d32 (gCons (gCall S 0 F.d10 (gCons (gVL 20) (da_nil))) (gCons (de_bl) (da_nil)))))) (by refine db_cons (ds_ret (de_bl)) ?_; exact db_nil) (by exact db_nil)) ?_; exact db_nil)) ?_; refine db_cons (sFor S hp (di_of (de_lst (gCons (de_tup (gCons (de_tup (da_nil)) (gCons (de_bl) (da_nil)))) (gCons (de_tup (gCons (de_tup (gCons (de_int) (gCons (de_int) (da_nil)))) (gCons (de_bl) (da_nil)))) (gCons (de_tup (gCons (de_tup (gCons (de_un (de_int) (fun _ => un_dNeg)) (da_nil))) (gCons (de_bl) (da_nil)))) (gCons (de_tup (gCons (de_tup (gCons (de_bl) (da_nil))) (gCons (de_bl) (da_nil)))) (gCons (de_tup (gCons (de_lst (gCons (de_int) (da_nil))) (gCons (de_bl) (da_nil)))) (gCons (de_tup (gCons (de_non) (gCons (de_bl) (da_nil)))) (gCons (de_tup (gCons (de_bin (de_tup (gCons (de_int) (da_nil))) (de_int) (fun _ => op_dMul)) (gCons (de_bl) (da_nil)))) (gCons (de_tup (gCons (de_bin (de_tup (gCons (de_int) (da_nil))) (de_int) (fun _ => op_dMul)) (gCons (de_bl) (da_nil)))) (da_nil))))))))))) (gPT S.calm (gPs (gPL 20 S.nd) (gPs (gPL 21 S.nd) (gPs0)))) (by refine db_cons (ds_if (tW (dw_or (dt_not (tVal (gCall S 0 F.d32 (gCons (gCall S 0 F.d2 (gCons (gVL 20) (da_nil))) (gCons (gVL 21) (da_nil)))))) (dw_one_or (tW (dw_and (dt_not (tVal (gVL 21))) (dw_one_and (dt_not (tVal (gCall S 0 F.d36 (gCons (de_lst (gCons (de_tup (gCons (gFn F.d25) (gCons (de_tup (gCons (gVC 2) (gCons (gVL 20) (da_nil)))) (da_nil)))) (gCons (de_tup (gCons (gFn F.d26) (gCons (de_tup (gCons (gVC 2) (gCons (gVL 20) (da_nil)))) (da_nil)))) (da_nil)))) (da_nil))))))))))) (by refine db_cons (ds_ret (de_bl)) ?_; exact db_nil) (by exact db_nil)) ?_; exact db_nil)) ?_; refine db_cons (ds_if (tW (dw_or (dt_not (tVal (gCall S 0 F.d32 (gCons (gCall S 0 F.d0 (gCons (de_int) (da_nil))) (gCons (de_bl) (da_nil)))))) (dw_one_or (dt_not (tVal (gCall S 0 F.d32 (gCons (gCall S 0 F.d0 (gCons (de_bl) (da_nil))) (gCons (de_bl) (da_nil))))))))) (by refine db_cons (ds_ret (de_bl)) ?_; exact db_nil) (by exact db_nil)) ?_; refine db_cons (ds_ret (de_and (gCall0 S 0 F.d49) (de_one (gCall S 0 F.d36 (gCons (gLc [("bad", 20)] S (di_of (de_lst (gCons (de_un (de_int) (fun _ => un_dNeg)) (gCons (de_int) (gCons (de_bl) (gCons (de_non) (da_nil))))))) (fun _ _ _ _ _ S => (gPL 20 S.nd)) (fun s H C cl fp S => cNone s H _ _ fp) (fun _ _ _ _ _ S => (de_tup (gCons (gFn F.d28) (gCons (de_tup (gCons (gVL 20) (da_nil))) (da_nil)))))) (da_nil)))))) ?_; exact db_nil
theorem sc50 : FnScope [("script" : Str), ("state" : Str), ("term" : Str), ("value" : Str), ("paths" : Str), ("told" : Str), ("k" : Str), ("by" : Str), ("low" : Str), ("two" : Str), ("free" : Str), ("path" : Str), ("far" : Str), ("head" : Str), ("args" : Str), ("end" : Str), ("n" : Str), ("deep" : Str), ("t" : Str), ("others" : Str), ("bad" : Str), ("good" : Str), ("c" : Str)] [("script" : Str)] (defScope (top 66)) := ⟨by kernel_rfl, by kernel_rfl, by kernel_rfl, by decide +kernel, by kernel_rfl, by decide +kernel, by decide +kernel⟩
def initOf (i : Nat) : Stmt := match top i with
  | .ClassDef _ _ _ b _ _ _ _ _ _ _ => b.getD 0 (.Pass ⟨0, 0, 0, 0⟩)
  | _ => .Pass ⟨0, 0, 0, 0⟩
/-- what the written part holds of the classes -/
structure ClsAll (K : PySem.W.Frag) (c0 c1 c2 c3 : Addr) : Prop where
  a0 : ClsM K "Fault" c0
  e0 : PySem.W.excIn K c0 [.type "ValueError", .type "Exception", .type "BaseException", .type "object"] "ValueError.__new__" = true
  x0_0 : PySem.W.exmOne K (.ref c0) (.ref c0) = some true
  x0_1 : PySem.W.exmOne K (.ref c1) (.ref c0) = some true
  x0_2 : PySem.W.exmOne K (.ref c2) (.ref c0) = some true
  x0_3 : PySem.W.exmOne K (.ref c3) (.ref c0) = some true
  a1 : ClsM K "Malformed" c1
  e1 : PySem.W.excIn K c1 [.type "ValueError", .type "Exception", .type "BaseException", .type "object"] "ValueError.__new__" = true
  x1_0 : PySem.W.exmOne K (.ref c0) (.ref c1) = some false
  x1_1 : PySem.W.exmOne K (.ref c1) (.ref c1) = some true
  x1_2 : PySem.W.exmOne K (.ref c2) (.ref c1) = some false
  x1_3 : PySem.W.exmOne K (.ref c3) (.ref c1) = some false
  a2 : ClsM K "Refused" c2
  i2 : InitM K c2 (defArgs (initOf 3)) (defBody (initOf 3)) (defScope (initOf 3)) "Refused.__init__" [.tup []]
  n2_0 : PySem.W.findIn K (.ref c2) "reason" = some none
  n2_1 : PySem.W.findIn K (.ref c2) "path" = some none
  x2_0 : PySem.W.exmOne K (.ref c0) (.ref c2) = some false
  x2_1 : PySem.W.exmOne K (.ref c1) (.ref c2) = some false
  x2_2 : PySem.W.exmOne K (.ref c2) (.ref c2) = some true
  x2_3 : PySem.W.exmOne K (.ref c3) (.ref c2) = some false
  a3 : ClsM K "NoText" c3
  i3 : InitM K c3 (defArgs (initOf 4)) (defBody (initOf 4)) (defScope (initOf 4)) "NoText.__init__" []
  n3_2 : PySem.W.findIn K (.ref c3) "at" = some none
  x3_0 : PySem.W.exmOne K (.ref c0) (.ref c3) = some false
  x3_1 : PySem.W.exmOne K (.ref c1) (.ref c3) = some false
  x3_2 : PySem.W.exmOne K (.ref c2) (.ref c3) = some false
  x3_3 : PySem.W.exmOne K (.ref c3) (.ref c3) = some true
  b0 : InB K c0
theorem ok0 {wf : Nat} (F : Fx P w K mg base fa ca kd) (D : DefM K "is_integer" (defArgs (top 9)) (defBody (top 9)) (defScope (top 9)) [] (fa 0)) : DOk P w K mg base (lk fa ca kd) tb pg wf 0 d0 :=
  dok_of (f := 0) (L := lk fa ca kd) D sc0 rfl rfl (fun κ cdv A outer s H E S hp => v0 F S hp) (fun F0 hl j => binds_no F0 hl (fun _ _ _ _ _ _ us hl => match us, hl with | [_], _ => rfl) j) rfl
theorem ok1 {wf : Nat} (F : Fx P w K mg base fa ca kd) (D : DefM K "check_from" (defArgs (top 10)) (defBody (top 10)) (defScope (top 10)) [] (fa 1)) : DOk P w K mg base (lk fa ca kd) tb pg wf 1 d1 :=
  dok_of (f := 1) (L := lk fa ca kd) D sc1 rfl rfl (fun κ cdv A outer s H E S hp => v1 F S hp) (fun F0 hl j => binds_no F0 hl (fun _ _ _ _ _ _ us hl => match us, hl with | [_, _, _], _ => rfl) j) rfl
theorem ok2 {wf : Nat} (F : Fx P w K mg base fa ca kd) (D : DefM K "is_path" (defArgs (top 11)) (defBody (top 11)) (defScope (top 11)) [] (fa 2)) : DOk P w K mg base (lk fa ca kd) tb pg wf 2 d2 :=
  dok_of (f := 2) (L := lk fa ca kd) D sc2 rfl rfl (fun κ cdv A outer s H E S hp => v2 F S hp) (fun F0 hl j => binds_no F0 hl (fun _ _ _ _ _ _ us hl => match us, hl with | [_], _ => rfl) j) rfl
theorem ok3 {wf : Nat} (F : Fx P w K mg base fa ca kd) (D : DefM K "check_path" (defArgs (top 12)) (defBody (top 12)) (defScope (top 12)) [] (fa 3)) : DOk P w K mg base (lk fa ca kd) tb pg wf 3 d3 :=
  dok_of (f := 3) (L := lk fa ca kd) D sc3 rfl rfl (fun κ cdv A outer s H E S hp => v3 F S hp) (fun F0 hl j => binds_no F0 hl (fun _ _ _ _ _ _ us hl => match us, hl with | [_], _ => rfl) j) rfl
theorem ok4 {wf : Nat} (F : Fx P w K mg base fa ca kd) (D : DefM K "is_plain" (defArgs (top 13)) (defBody (top 13)) (defScope (top 13)) [] (fa 4)) : DOk P w K mg base (lk fa ca kd) tb pg wf 4 d4 :=
  dok_of (f := 4) (L := lk fa ca kd) D sc4 rfl rfl (fun κ cdv A outer s H E S hp => v4 F S hp) (fun F0 hl j => binds_no F0 hl (fun _ _ _ _ _ _ us hl => match us, hl with | [_], _ => rfl) j) rfl
theorem ok5 {wf : Nat} (F : Fx P w K mg base fa ca kd) (D : DefM K "is_local" (defArgs (top 14)) (defBody (top 14)) (defScope (top 14)) [] (fa 5)) : DOk P w K mg base (lk fa ca kd) tb pg wf 5 d5 :=
  dok_of (f := 5) (L := lk fa ca kd) D sc5 rfl rfl (fun κ cdv A outer s H E S hp => v5 F S hp) (fun F0 hl j => binds_no F0 hl (fun _ _ _ _ _ _ us hl => match us, hl with | [_], _ => rfl) j) rfl
theorem ok6 {wf : Nat} (F : Fx P w K mg base fa ca kd) (D : DefM K "is_name" (defArgs (top 15)) (defBody (top 15)) (defScope (top 15)) [] (fa 6)) : DOk P w K mg base (lk fa ca kd) tb pg wf 6 d6 :=
  dok_of (f := 6) (L := lk fa ca kd) D sc6 rfl rfl (fun κ cdv A outer s H E S hp => v6 F S hp) (fun F0 hl j => binds_no F0 hl (fun _ _ _ _ _ _ us hl => match us, hl with | [_], _ => rfl) j) rfl
theorem ok7 {wf : Nat} (F : Fx P w K mg base fa ca kd) (D : DefM K "kids_of" (defArgs (top 21)) (defBody (top 21)) (defScope (top 21)) [] (fa 7)) : DOk P w K mg base (lk fa ca kd) tb pg wf 7 d7 :=
  dok_of (f := 7) (L := lk fa ca kd) D sc7 rfl rfl (fun κ cdv A outer s H E S hp => v7 F S hp) (fun F0 hl j => binds_no F0 hl (fun _ _ _ _ _ _ us hl => match us, hl with | [_], _ => rfl) j) rfl
theorem ok8 {wf : Nat} (F : Fx P w K mg base fa ca kd) (D : DefM K "binds_of" (defArgs (top 22)) (defBody (top 22)) (defScope (top 22)) [] (fa 8)) : DOk P w K mg base (lk fa ca kd) tb pg wf 8 d8 :=
  dok_of (f := 8) (L := lk fa ca kd) D sc8 rfl rfl (fun κ cdv A outer s H E S hp => v8 F S hp) (fun F0 hl j => binds_no F0 hl (fun _ _ _ _ _ _ us hl => match us, hl with | [_], _ => rfl) j) rfl
theorem ok9 {wf : Nat} (F : Fx P w K mg base fa ca kd) (D : DefM K "rebuilt" (defArgs (top 23)) (defBody (top 23)) (defScope (top 23)) [] (fa 9)) : DOk P w K mg base (lk fa ca kd) tb pg wf 9 d9 :=
  dok_of (f := 9) (L := lk fa ca kd) D sc9 rfl rfl (fun κ cdv A outer s H E S hp => v9 F S hp) (fun F0 hl j => binds_no F0 hl (fun _ _ _ _ _ _ us hl => match us, hl with | [_, _], _ => rfl) j) rfl
theorem ok10 {wf : Nat} (F : Fx P w K mg base fa ca kd) (D : DefM K "is_term" (defArgs (top 24)) (defBody (top 24)) (defScope (top 24)) [] (fa 10)) : DOk P w K mg base (lk fa ca kd) tb pg wf 10 d10 :=
  dok_of (f := 10) (L := lk fa ca kd) D sc10 rfl rfl (fun κ cdv A outer s H E S hp => v10 F S hp) (fun F0 hl j => binds_no F0 hl (fun _ _ _ _ _ _ us hl => match us, hl with | [_], _ => rfl) j) rfl
theorem ok11 {wf : Nat} (F : Fx P w K mg base fa ca kd) (D : DefM K "is_node" (defArgs (top 25)) (defBody (top 25)) (defScope (top 25)) [] (fa 11)) : DOk P w K mg base (lk fa ca kd) tb pg wf 11 d11 :=
  dok_of (f := 11) (L := lk fa ca kd) D sc11 rfl rfl (fun κ cdv A outer s H E S hp => v11 F S hp) (fun F0 hl j => binds_no F0 hl (fun _ _ _ _ _ _ us hl => match us, hl with | [_], _ => rfl) j) rfl
theorem ok12 {wf : Nat} (F : Fx P w K mg base fa ca kd) (D : DefM K "size_of" (defArgs (top 26)) (defBody (top 26)) (defScope (top 26)) [] (fa 12)) : DOk P w K mg base (lk fa ca kd) tb pg wf 12 d12 :=
  dok_of (f := 12) (L := lk fa ca kd) D sc12 rfl rfl (fun κ cdv A outer s H E S hp => v12 F S hp) (fun F0 hl j => binds_no F0 hl (fun _ _ _ _ _ _ us hl => match us, hl with | [_], _ => rfl) j) rfl
theorem ok13 {wf : Nat} (F : Fx P w K mg base fa ca kd) (D : DefM K "depth_of" (defArgs (top 27)) (defBody (top 27)) (defScope (top 27)) [] (fa 13)) : DOk P w K mg base (lk fa ca kd) tb pg wf 13 d13 :=
  dok_of (f := 13) (L := lk fa ca kd) D sc13 rfl rfl (fun κ cdv A outer s H E S hp => v13 F S hp) (fun F0 hl j => binds_no F0 hl (fun _ _ _ _ _ _ us hl => match us, hl with | [_], _ => rfl) j) rfl
theorem ok14 {wf : Nat} (F : Fx P w K mg base fa ca kd) (D : DefM K "shifted" (defArgs (top 28)) (defBody (top 28)) (defScope (top 28)) [.int 0] (fa 14)) : DOk P w K mg base (lk fa ca kd) tb pg wf 14 d14 :=
  dok_of (f := 14) (L := lk fa ca kd) D sc14 rfl rfl (fun κ cdv A outer s H E S hp => v14 F S hp) (fun F0 hl j => binds_one F0 hl 2 rfl (fun _ _ _ _ _ _ _ us its hu hi => match us, its, hu, hi with | [_, _], [_], _, _ => ⟨_, rfl, rfl⟩) (fun _ _ _ _ _ _ _ us its hu hi => match us, its, hu, hi with | [_, _, _], [_], _, _ => ⟨_, rfl, rfl⟩) j) rfl
theorem ok15 {wf : Nat} (F : Fx P w K mg base fa ca kd) (D : DefM K "put" (defArgs (top 29)) (defBody (top 29)) (defScope (top 29)) [.int 0] (fa 15)) : DOk P w K mg base (lk fa ca kd) tb pg wf 15 d15 :=
  dok_of (f := 15) (L := lk fa ca kd) D sc15 rfl rfl (fun κ cdv A outer s H E S hp => v15 F S hp) (fun F0 hl j => binds_one F0 hl 2 rfl (fun _ _ _ _ _ _ _ us its hu hi => match us, its, hu, hi with | [_, _], [_], _, _ => ⟨_, rfl, rfl⟩) (fun _ _ _ _ _ _ _ us its hu hi => match us, its, hu, hi with | [_, _, _], [_], _, _ => ⟨_, rfl, rfl⟩) j) rfl
theorem ok16 {wf : Nat} (F : Fx P w K mg base fa ca kd) (D : DefM K "put_all" (defArgs (top 30)) (defBody (top 30)) (defScope (top 30)) [] (fa 16)) : DOk P w K mg base (lk fa ca kd) tb pg wf 16 d16 :=
  dok_of (f := 16) (L := lk fa ca kd) D sc16 rfl rfl (fun κ cdv A outer s H E S hp => v16 F S hp) (fun F0 hl j => binds_no F0 hl (fun _ _ _ _ _ _ us hl => match us, hl with | [_, _], _ => rfl) j) rfl
theorem ok17 {wf : Nat} (F : Fx P w K mg base fa ca kd) (D : DefM K "free_places" (defArgs (top 31)) (defBody (top 31)) (defScope (top 31)) [] (fa 17)) : DOk P w K mg base (lk fa ca kd) tb pg wf 17 d17 :=
  dok_of (f := 17) (L := lk fa ca kd) D sc17 rfl rfl (fun κ cdv A outer s H E S hp => v17 F S hp) (fun F0 hl j => binds_no F0 hl (fun _ _ _ _ _ _ us hl => match us, hl with | [_], _ => rfl) j) rfl
theorem ok18 {wf : Nat} (F : Fx P w K mg base fa ca kd) (D : DefM K "names_in" (defArgs (top 32)) (defBody (top 32)) (defScope (top 32)) [] (fa 18)) : DOk P w K mg base (lk fa ca kd) tb pg wf 18 d18 :=
  dok_of (f := 18) (L := lk fa ca kd) D sc18 rfl rfl (fun κ cdv A outer s H E S hp => v18 F S hp) (fun F0 hl j => binds_no F0 hl (fun _ _ _ _ _ _ us hl => match us, hl with | [_], _ => rfl) j) rfl
theorem ok19 {wf : Nat} (F : Fx P w K mg base fa ca kd) (D : DefM K "app_of" (defArgs (top 33)) (defBody (top 33)) (defScope (top 33)) [] (fa 19)) : DOk P w K mg base (lk fa ca kd) tb pg wf 19 d19 :=
  dok_of (f := 19) (L := lk fa ca kd) D sc19 rfl rfl (fun κ cdv A outer s H E S hp => v19 F S hp) (fun F0 hl j => binds_no F0 hl (fun _ _ _ _ _ _ us hl => match us, hl with | [_, _], _ => rfl) j) rfl
theorem ok20 {wf : Nat} (F : Fx P w K mg base fa ca kd) (D : DefM K "spine_of" (defArgs (top 34)) (defBody (top 34)) (defScope (top 34)) [] (fa 20)) : DOk P w K mg base (lk fa ca kd) tb pg wf 20 d20 :=
  dok_of (f := 20) (L := lk fa ca kd) D sc20 rfl rfl (fun κ cdv A outer s H E S hp => v20 F S hp) (fun F0 hl j => binds_no F0 hl (fun _ _ _ _ _ _ us hl => match us, hl with | [_], _ => rfl) j) rfl
theorem ok21 {wf : Nat} (F : Fx P w K mg base fa ca kd) (D : DefM K "pi_of" (defArgs (top 35)) (defBody (top 35)) (defScope (top 35)) [] (fa 21)) : DOk P w K mg base (lk fa ca kd) tb pg wf 21 d21 :=
  dok_of (f := 21) (L := lk fa ca kd) D sc21 rfl rfl (fun κ cdv A outer s H E S hp => v21 F S hp) (fun F0 hl j => binds_no F0 hl (fun _ _ _ _ _ _ us hl => match us, hl with | [_, _], _ => rfl) j) rfl
theorem ok22 {wf : Nat} (F : Fx P w K mg base fa ca kd) (D : DefM K "fun_of" (defArgs (top 36)) (defBody (top 36)) (defScope (top 36)) [] (fa 22)) : DOk P w K mg base (lk fa ca kd) tb pg wf 22 d22 :=
  dok_of (f := 22) (L := lk fa ca kd) D sc22 rfl rfl (fun κ cdv A outer s H E S hp => v22 F S hp) (fun F0 hl j => binds_no F0 hl (fun _ _ _ _ _ _ us hl => match us, hl with | [_, _], _ => rfl) j) rfl
theorem ok23 {wf : Nat} (F : Fx P w K mg base fa ca kd) (D : DefM K "split_pi" (defArgs (top 37)) (defBody (top 37)) (defScope (top 37)) [] (fa 23)) : DOk P w K mg base (lk fa ca kd) tb pg wf 23 d23 :=
  dok_of (f := 23) (L := lk fa ca kd) D sc23 rfl rfl (fun κ cdv A outer s H E S hp => v23 F S hp) (fun F0 hl j => binds_no F0 hl (fun _ _ _ _ _ _ us hl => match us, hl with | [_], _ => rfl) j) rfl
theorem ok24 {wf : Nat} (F : Fx P w K mg base fa ca kd) (D : DefM K "paths_of" (defArgs (top 38)) (defBody (top 38)) (defScope (top 38)) [] (fa 24)) : DOk P w K mg base (lk fa ca kd) tb pg wf 24 d24 :=
  dok_of (f := 24) (L := lk fa ca kd) D sc24 rfl rfl (fun κ cdv A outer s H E S hp => v24 F S hp) (fun F0 hl j => binds_no F0 hl (fun _ _ _ _ _ _ us hl => match us, hl with | [_], _ => rfl) j) rfl
theorem ok25 {wf : Nat} (F : Fx P w K mg base fa ca kd) (D : DefM K "part_at" (defArgs (top 39)) (defBody (top 39)) (defScope (top 39)) [] (fa 25)) : DOk P w K mg base (lk fa ca kd) tb pg wf 25 d25 :=
  dok_of (f := 25) (L := lk fa ca kd) D sc25 rfl rfl (fun κ cdv A outer s H E S hp => v25 F S hp) (fun F0 hl j => binds_no F0 hl (fun _ _ _ _ _ _ us hl => match us, hl with | [_, _], _ => rfl) j) rfl
theorem ok26 {wf : Nat} (F : Fx P w K mg base fa ca kd) (D : DefM K "binders_at" (defArgs (top 40)) (defBody (top 40)) (defScope (top 40)) [] (fa 26)) : DOk P w K mg base (lk fa ca kd) tb pg wf 26 d26 :=
  dok_of (f := 26) (L := lk fa ca kd) D sc26 rfl rfl (fun κ cdv A outer s H E S hp => v26 F S hp) (fun F0 hl j => binds_no F0 hl (fun _ _ _ _ _ _ us hl => match us, hl with | [_, _], _ => rfl) j) rfl
theorem ok27 {wf : Nat} (F : Fx P w K mg base fa ca kd) (D : DefM K "replaced" (defArgs (top 41)) (defBody (top 41)) (defScope (top 41)) [] (fa 27)) : DOk P w K mg base (lk fa ca kd) tb pg wf 27 d27 :=
  dok_of (f := 27) (L := lk fa ca kd) D sc27 rfl rfl (fun κ cdv A outer s H E S hp => v27 F S hp) (fun F0 hl j => binds_no F0 hl (fun _ _ _ _ _ _ us hl => match us, hl with | [_, _, _], _ => rfl) j) rfl
theorem ok28 {wf : Nat} (F : Fx P w K mg base fa ca kd) (D : DefM K "numeral" (defArgs (top 42)) (defBody (top 42)) (defScope (top 42)) [] (fa 28)) : DOk P w K mg base (lk fa ca kd) tb pg wf 28 d28 :=
  dok_of (f := 28) (L := lk fa ca kd) D sc28 rfl rfl (fun κ cdv A outer s H E S hp => v28 F S hp) (fun F0 hl j => binds_no F0 hl (fun _ _ _ _ _ _ us hl => match us, hl with | [_], _ => rfl) j) rfl
theorem ok29 {wf : Nat} (F : Fx P w K mg base fa ca kd) (D : DefM K "number_of" (defArgs (top 43)) (defBody (top 43)) (defScope (top 43)) [] (fa 29)) : DOk P w K mg base (lk fa ca kd) tb pg wf 29 d29 :=
  dok_of (f := 29) (L := lk fa ca kd) D sc29 rfl rfl (fun κ cdv A outer s H E S hp => v29 F S hp) (fun F0 hl j => binds_no F0 hl (fun _ _ _ _ _ _ us hl => match us, hl with | [_], _ => rfl) j) rfl
theorem ok30 {wf : Nat} (F : Fx P w K mg base fa ca kd) (D : DefM K "_law_state" (defArgs (top 45)) (defBody (top 45)) (defScope (top 45)) [] (fa 30)) : DOk P w K mg base (lk fa ca kd) tb pg wf 30 d30 :=
  dok_of (f := 30) (L := lk fa ca kd) D sc30 rfl rfl (fun κ cdv A outer s H E S hp => v30 F S hp) (fun F0 hl j => binds_no F0 hl (fun _ _ _ _ _ _ us hl => match us, hl with | [_], _ => rfl) j) rfl
theorem ok31 {wf : Nat} (F : Fx P w K mg base fa ca kd) (D : DefM K "_law_take" (defArgs (top 46)) (defBody (top 46)) (defScope (top 46)) [] (fa 31)) : DOk P w K mg base (lk fa ca kd) tb pg wf 31 d31 :=
  dok_of (f := 31) (L := lk fa ca kd) D sc31 rfl rfl (fun κ cdv A outer s H E S hp => v31 F S hp) (fun F0 hl j => binds_no F0 hl (fun _ _ _ _ _ _ us hl => match us, hl with | [_, _], _ => rfl) j) rfl
theorem ok32 {wf : Nat} (F : Fx P w K mg base fa ca kd) (D : DefM K "_law_says" (defArgs (top 47)) (defBody (top 47)) (defScope (top 47)) [] (fa 32)) : DOk P w K mg base (lk fa ca kd) tb pg wf 32 d32 :=
  dok_of (f := 32) (L := lk fa ca kd) D sc32 rfl rfl (fun κ cdv A outer s H E S hp => v32 F S hp) (fun F0 hl j => binds_no F0 hl (fun _ _ _ _ _ _ us hl => match us, hl with | [_, _], _ => rfl) j) rfl
theorem ok33 {wf : Nat} (F : Fx P w K mg base fa ca kd) (D : DefM K "_law_is_whole" (defArgs (top 48)) (defBody (top 48)) (defScope (top 48)) [] (fa 33)) : DOk P w K mg base (lk fa ca kd) tb pg wf 33 d33 :=
  dok_of (f := 33) (L := lk fa ca kd) D sc33 rfl rfl (fun κ cdv A outer s H E S hp => v33 F S hp) (fun F0 hl j => binds_no F0 hl (fun _ _ _ _ _ _ us hl => match us, hl with | [_], _ => rfl) j) rfl
theorem ok34 {wf : Nat} (F : Fx P w K mg base fa ca kd) (D : DefM K "_law_same" (defArgs (top 49)) (defBody (top 49)) (defScope (top 49)) [] (fa 34)) : DOk P w K mg base (lk fa ca kd) tb pg wf 34 d34 :=
  dok_of (f := 34) (L := lk fa ca kd) D sc34 rfl rfl (fun κ cdv A outer s H E S hp => v34 F S hp) (fun F0 hl j => binds_no F0 hl (fun _ _ _ _ _ _ us hl => match us, hl with | [_, _], _ => rfl) j) rfl
theorem ok35 {wf : Nat} (F : Fx P w K mg base fa ca kd) (D : DefM K "_law_told" (defArgs (top 50)) (defBody (top 50)) (defScope (top 50)) [] (fa 35)) : DOk P w K mg base (lk fa ca kd) tb pg wf 35 d35 :=
  dok_of (f := 35) (L := lk fa ca kd) D sc35 rfl rfl (fun κ cdv A outer s H E S hp => v35 F S hp) (fun F0 hl j => binds_no F0 hl (fun _ _ _ _ _ _ us hl => match us, hl with | [_, _], _ => rfl) j) rfl
theorem ok36 {wf : Nat} (F : Fx P w K mg base fa ca kd) (D : DefM K "_law_all_malformed" (defArgs (top 51)) (defBody (top 51)) (defScope (top 51)) [] (fa 36)) : DOk P w K mg base (lk fa ca kd) tb pg wf 36 d36 :=
  dok_of (f := 36) (L := lk fa ca kd) D sc36 rfl rfl (fun κ cdv A outer s H E S hp => v36 F S hp) (fun F0 hl j => binds_no F0 hl (fun _ _ _ _ _ _ us hl => match us, hl with | [_], _ => rfl) j) rfl
theorem ok37 {wf : Nat} (F : Fx P w K mg base fa ca kd) (D : DefM K "_law_kids" (defArgs (top 52)) (defBody (top 52)) (defScope (top 52)) [] (fa 37)) : DOk P w K mg base (lk fa ca kd) tb pg wf 37 d37 :=
  dok_of (f := 37) (L := lk fa ca kd) D sc37 rfl rfl (fun κ cdv A outer s H E S hp => v37 F S hp) (fun F0 hl j => binds_no F0 hl (fun _ _ _ _ _ _ us hl => match us, hl with | [_], _ => rfl) j) rfl
theorem ok38 {wf : Nat} (F : Fx P w K mg base fa ca kd) (D : DefM K "_law_binds" (defArgs (top 53)) (defBody (top 53)) (defScope (top 53)) [] (fa 38)) : DOk P w K mg base (lk fa ca kd) tb pg wf 38 d38 :=
  dok_of (f := 38) (L := lk fa ca kd) D sc38 rfl rfl (fun κ cdv A outer s H E S hp => v38 F S hp) (fun F0 hl j => binds_no F0 hl (fun _ _ _ _ _ _ us hl => match us, hl with | [_], _ => rfl) j) rfl
theorem ok39 {wf : Nat} (F : Fx P w K mg base fa ca kd) (D : DefM K "_law_shift" (defArgs (top 54)) (defBody (top 54)) (defScope (top 54)) [] (fa 39)) : DOk P w K mg base (lk fa ca kd) tb pg wf 39 d39 :=
  dok_of (f := 39) (L := lk fa ca kd) D sc39 rfl rfl (fun κ cdv A outer s H E S hp => v39 F S hp) (fun F0 hl j => binds_no F0 hl (fun _ _ _ _ _ _ us hl => match us, hl with | [_, _, _], _ => rfl) j) rfl
theorem ok40 {wf : Nat} (F : Fx P w K mg base fa ca kd) (D : DefM K "_law_put" (defArgs (top 55)) (defBody (top 55)) (defScope (top 55)) [] (fa 40)) : DOk P w K mg base (lk fa ca kd) tb pg wf 40 d40 :=
  dok_of (f := 40) (L := lk fa ca kd) D sc40 rfl rfl (fun κ cdv A outer s H E S hp => v40 F S hp) (fun F0 hl j => binds_no F0 hl (fun _ _ _ _ _ _ us hl => match us, hl with | [_, _, _], _ => rfl) j) rfl
theorem ok41 {wf : Nat} (F : Fx P w K mg base fa ca kd) (D : DefM K "_law_app" (defArgs (top 56)) (defBody (top 56)) (defScope (top 56)) [] (fa 41)) : DOk P w K mg base (lk fa ca kd) tb pg wf 41 d41 :=
  dok_of (f := 41) (L := lk fa ca kd) D sc41 rfl rfl (fun κ cdv A outer s H E S hp => v41 F S hp) (fun F0 hl j => binds_no F0 hl (fun _ _ _ _ _ _ us hl => match us, hl with | [_, _], _ => rfl) j) rfl
theorem ok42 {wf : Nat} (F : Fx P w K mg base fa ca kd) (D : DefM K "_law_numeral" (defArgs (top 57)) (defBody (top 57)) (defScope (top 57)) [] (fa 42)) : DOk P w K mg base (lk fa ca kd) tb pg wf 42 d42 :=
  dok_of (f := 42) (L := lk fa ca kd) D sc42 rfl rfl (fun κ cdv A outer s H E S hp => v42 F S hp) (fun F0 hl j => binds_no F0 hl (fun _ _ _ _ _ _ us hl => match us, hl with | [_], _ => rfl) j) rfl
theorem ok43 {wf : Nat} (F : Fx P w K mg base fa ca kd) (D : DefM K "_law_at" (defArgs (top 58)) (defBody (top 58)) (defScope (top 58)) [] (fa 43)) : DOk P w K mg base (lk fa ca kd) tb pg wf 43 d43 :=
  dok_of (f := 43) (L := lk fa ca kd) D sc43 rfl rfl (fun κ cdv A outer s H E S hp => v43 F S hp) (fun F0 hl j => binds_no F0 hl (fun _ _ _ _ _ _ us hl => match us, hl with | [_, _], _ => rfl) j) rfl
theorem ok44 {wf : Nat} (F : Fx P w K mg base fa ca kd) (D : DefM K "_law_paths" (defArgs (top 59)) (defBody (top 59)) (defScope (top 59)) [] (fa 44)) : DOk P w K mg base (lk fa ca kd) tb pg wf 44 d44 :=
  dok_of (f := 44) (L := lk fa ca kd) D sc44 rfl rfl (fun κ cdv A outer s H E S hp => v44 F S hp) (fun F0 hl j => binds_no F0 hl (fun _ _ _ _ _ _ us hl => match us, hl with | [_], _ => rfl) j) rfl
theorem ok45 {wf : Nat} (F : Fx P w K mg base fa ca kd) (D : DefM K "_law_swap" (defArgs (top 60)) (defBody (top 60)) (defScope (top 60)) [] (fa 45)) : DOk P w K mg base (lk fa ca kd) tb pg wf 45 d45 :=
  dok_of (f := 45) (L := lk fa ca kd) D sc45 rfl rfl (fun κ cdv A outer s H E S hp => v45 F S hp) (fun F0 hl j => binds_no F0 hl (fun _ _ _ _ _ _ us hl => match us, hl with | [_, _, _], _ => rfl) j) rfl
theorem ok46 {wf : Nat} (F : Fx P w K mg base fa ca kd) (D : DefM K "_law_loose" (defArgs (top 61)) (defBody (top 61)) (defScope (top 61)) [] (fa 46)) : DOk P w K mg base (lk fa ca kd) tb pg wf 46 d46 :=
  dok_of (f := 46) (L := lk fa ca kd) D sc46 rfl rfl (fun κ cdv A outer s H E S hp => v46 F S hp) (fun F0 hl j => binds_no F0 hl (fun _ _ _ _ _ _ us hl => match us, hl with | [_, _], _ => rfl) j) rfl
theorem ok47 {wf : Nat} (F : Fx P w K mg base fa ca kd) (D : DefM K "_law_free" (defArgs (top 63)) (defBody (top 63)) (defScope (top 63)) [] (fa 47)) : DOk P w K mg base (lk fa ca kd) tb pg wf 47 d47 :=
  dok_of (f := 47) (L := lk fa ca kd) D sc47 rfl rfl (fun κ cdv A outer s H E S hp => v47 F S hp) (fun F0 hl j => binds_no F0 hl (fun _ _ _ _ _ _ us hl => match us, hl with | [_, _], _ => rfl) j) rfl
theorem ok48 {wf : Nat} (F : Fx P w K mg base fa ca kd) (D : DefM K "_law_around" (defArgs (top 64)) (defBody (top 64)) (defScope (top 64)) [] (fa 48)) : DOk P w K mg base (lk fa ca kd) tb pg wf 48 d48 :=
  dok_of (f := 48) (L := lk fa ca kd) D sc48 rfl rfl (fun κ cdv A outer s H E S hp => v48 F S hp) (fun F0 hl j => binds_no F0 hl (fun _ _ _ _ _ _ us hl => match us, hl with | [_, _], _ => rfl) j) rfl
theorem ok49 {wf : Nat} (F : Fx P w K mg base fa ca kd) (D : DefM K "_law_names_hold" (defArgs (top 65)) (defBody (top 65)) (defScope (top 65)) [] (fa 49)) : DOk P w K mg base (lk fa ca kd) tb pg wf 49 d49 :=
  dok_of (f := 49) (L := lk fa ca kd) D sc49 rfl rfl (fun κ cdv A outer s H E S hp => v49 F S hp) (fun F0 hl j => binds_no F0 hl (fun _ _ _ _ _ _ us hl => match us, hl with | [], _ => rfl) j) rfl
theorem ok50 {wf : Nat} (F : Fx P w K mg base fa ca kd) (D : DefM K "law" (defArgs (top 66)) (defBody (top 66)) (defScope (top 66)) [] (fa 50)) : DOk P w K mg base (lk fa ca kd) tb pg wf 50 d50 :=
  dok_of (f := 50) (L := lk fa ca kd) D sc50 rfl rfl (fun κ cdv A outer s H E S hp => v50 F S hp) (fun F0 hl j => binds_no F0 hl (fun _ _ _ _ _ _ us hl => match us, hl with | [_], _ => rfl) j) rfl
theorem scI2 : FnScope [("self" : Str), ("reason" : Str), ("path" : Str)] [("self" : Str), ("reason" : Str), ("path" : Str)] (defScope (initOf 3)) := ⟨by kernel_rfl, by kernel_rfl, by kernel_rfl, by decide +kernel, by kernel_rfl, by decide +kernel, by decide +kernel⟩
theorem okI2 {c0 c1 c2 c3 fI : Addr} {vs : List V} {fdI : FuncData} (Cl : ClsAll K c0 c1 c2 c3) (hB : mg "Fault" = some (.ref c0)) (FI : FunD K "__init__" "Refused.__init__" (defArgs (initOf 3)) (defBody (initOf 3)) (defScope (initOf 3)) vs [] fI fdI) : FnOk P w K mg base (L2.CX P w) 1 fI fdI [("self" : Str), ("reason" : Str), ("path" : Str)] (spI c2 [("reason" : Str), ("path" : Str)]) :=
  ok_init2 FI scI2 (by kernel_rfl) (by kernel_rfl) (by kernel_rfl) (by kernel_rfl) (Cl.i2.oex Cl.a2) Cl.n2_0 Cl.n2_1 Cl.b0 hB (by kernel_rfl) (by kernel_rfl) (by kernel_rfl) (by kernel_rfl) (by kernel_rfl) (by decide) (fun _ => by kernel_rfl)
theorem rai2_0 {c0 c1 c2 c3 : Addr} (Cl : ClsAll K c0 c1 c2 c3) (hB : mg "Fault" = some (.ref c0)) : RaiI P w K mg base (lk fa ca kd) c2 [("reason" : Str), ("path" : Str)] [.tup []] := by
  obtain ⟨fI, vs, fdI, iC, tI, FI, rI⟩ := Cl.i2.fn
  obtain ⟨us, hv, hb⟩ := binds_one (ps := [("self" : Str), ("reason" : Str), ("path" : Str)]) FI (rI (lk fa ca kd) (fun _ => 0) 0 (fun _ => none)).length.symm 2 rfl (fun _ _ _ _ _ _ _ us its hu hi => match us, its, hu, hi with | [_, _], [_], _, _ => ⟨_, rfl, rfl⟩) (fun _ _ _ _ _ _ _ us its hu hi => match us, its, hu, hi with | [_, _, _], [_], _, _ => ⟨_, rfl, rfl⟩) 0
  exact raiI_of (Cl.i2.oex Cl.a2) iC tI (okI2 Cl hB FI) hb hv fun ads k H => (rI _ ads k H).drop 0
theorem rai2_1 {c0 c1 c2 c3 : Addr} (Cl : ClsAll K c0 c1 c2 c3) (hB : mg "Fault" = some (.ref c0)) : RaiI P w K mg base (lk fa ca kd) c2 [("reason" : Str), ("path" : Str)] [] := by
  obtain ⟨fI, vs, fdI, iC, tI, FI, rI⟩ := Cl.i2.fn
  obtain ⟨us, hv, hb⟩ := binds_one (ps := [("self" : Str), ("reason" : Str), ("path" : Str)]) FI (rI (lk fa ca kd) (fun _ => 0) 0 (fun _ => none)).length.symm 2 rfl (fun _ _ _ _ _ _ _ us its hu hi => match us, its, hu, hi with | [_, _], [_], _, _ => ⟨_, rfl, rfl⟩) (fun _ _ _ _ _ _ _ us its hu hi => match us, its, hu, hi with | [_, _, _], [_], _, _ => ⟨_, rfl, rfl⟩) 1
  exact raiI_of (Cl.i2.oex Cl.a2) iC tI (okI2 Cl hB FI) hb hv fun ads k H => (rI _ ads k H).drop 1
theorem scI3 : FnScope [("self" : Str), ("at" : Str)] [("self" : Str), ("at" : Str)] (defScope (initOf 4)) := ⟨by kernel_rfl, by kernel_rfl, by kernel_rfl, by decide +kernel, by kernel_rfl, by decide +kernel, by decide +kernel⟩
theorem okI3 {c0 c1 c2 c3 fI : Addr} {vs : List V} {fdI : FuncData} (Cl : ClsAll K c0 c1 c2 c3) (hB : mg "Fault" = some (.ref c0)) (FI : FunD K "__init__" "NoText.__init__" (defArgs (initOf 4)) (defBody (initOf 4)) (defScope (initOf 4)) vs [] fI fdI) : FnOk P w K mg base (L2.CX P w) 1 fI fdI [("self" : Str), ("at" : Str)] (spI c3 [("at" : Str)]) :=
  ok_init1 FI scI3 (by kernel_rfl) (by kernel_rfl) (by kernel_rfl) (Cl.i3.oex Cl.a3) Cl.n3_2 Cl.b0 hB (by kernel_rfl) (by kernel_rfl) (by kernel_rfl) (fun _ => by kernel_rfl)
theorem rai3_0 {c0 c1 c2 c3 : Addr} (Cl : ClsAll K c0 c1 c2 c3) (hB : mg "Fault" = some (.ref c0)) : RaiI P w K mg base (lk fa ca kd) c3 [("at" : Str)] [] := by
  obtain ⟨fI, vs, fdI, iC, tI, FI, rI⟩ := Cl.i3.fn
  have hv : vs = [] := List.eq_nil_of_length_eq_zero (rI (lk fa ca kd) (fun _ => 0) 0 (fun _ => none)).length.symm
  subst hv
  exact raiI_of (Cl.i3.oex Cl.a3) iC tI (okI3 Cl hB FI) (FI.bindsN (ps := [("self" : Str), ("at" : Str)]) fun _ _ _ _ _ _ us hl => match us, hl with | [_, _], _ => rfl) .nil (rI _)
structure Oth (K : PySem.W.Frag) : Prop where
  b_abs : PySem.W.nsIn K mainGlobals "abs" = some none
  b_all : PySem.W.nsIn K mainGlobals "all" = some none
  b_any : PySem.W.nsIn K mainGlobals "any" = some none
  b_bool : PySem.W.nsIn K mainGlobals "bool" = some none
  b_int : PySem.W.nsIn K mainGlobals "int" = some none
  b_isinstance : PySem.W.nsIn K mainGlobals "isinstance" = some none
  b_len : PySem.W.nsIn K mainGlobals "len" = some none
  b_list : PySem.W.nsIn K mainGlobals "list" = some none
  b_max : PySem.W.nsIn K mainGlobals "max" = some none
  b_range : PySem.W.nsIn K mainGlobals "range" = some none
  b_sorted : PySem.W.nsIn K mainGlobals "sorted" = some none
  b_str : PySem.W.nsIn K mainGlobals "str" = some none
  b_sum : PySem.W.nsIn K mainGlobals "sum" = some none
  b_tuple : PySem.W.nsIn K mainGlobals "tuple" = some none
  b_zip : PySem.W.nsIn K mainGlobals "zip" = some none
  c_LETTERS : cstIn K "LETTERS" (.str [97, 98, 99, 100, 101, 102, 103, 104, 105, 106, 107, 108, 109, 110, 111, 112, 113, 114, 115, 116, 117, 118, 119, 120, 121, 122, 65, 66, 67, 68, 69, 70, 71, 72, 73, 74, 75, 76, 77, 78, 79, 80, 81, 82, 83, 84, 85, 86, 87, 88, 89, 90]) = true
  c_DIGITS : cstIn K "DIGITS" (.str [48, 49, 50, 51, 52, 53, 54, 55, 56, 57]) = true
  c_WORDS : cstIn K "WORDS" (.tup [.str [100, 97, 116, 97], .str [100, 101, 102], .str [97, 120, 105, 111, 109], .str [112, 114, 111, 118, 101], .str [98, 121], .str [99, 104, 101, 99, 107], .str [101, 118, 97, 108], .str [114, 117, 110], .str [115, 97, 109, 101], .str [108, 101, 116], .str [105, 110], .str [85]]) = true
  c_MOST_LEVEL : cstIn K "MOST_LEVEL" (.int 5) = true
  c_MOST_DEPTH : cstIn K "MOST_DEPTH" (.int 100) = true
  c_MOST_SIZE : cstIn K "MOST_SIZE" (.int 6000) = true
theorem fx_of {h : Heap} {f0 f1 f2 f3 f4 f5 f6 f7 f8 f9 f10 f11 f12 f13 f14 f15 f16 f17 f18 f19 f20 f21 f22 f23 f24 f25 f26 f27 f28 f29 f30 f31 f32 f33 f34 f35 f36 f37 f38 f39 f40 f41 f42 f43 f44 f45 f46 f47 f48 f49 f50 c0 c1 c2 c3 k0 : Addr} (X : K.In h) (G : h.Ns mainGlobals mg)
    (D0 : DefM K "is_integer" (defArgs (top 9)) (defBody (top 9)) (defScope (top 9)) [] f0)
    (D1 : DefM K "check_from" (defArgs (top 10)) (defBody (top 10)) (defScope (top 10)) [] f1)
    (D2 : DefM K "is_path" (defArgs (top 11)) (defBody (top 11)) (defScope (top 11)) [] f2)
    (D3 : DefM K "check_path" (defArgs (top 12)) (defBody (top 12)) (defScope (top 12)) [] f3)
    (D4 : DefM K "is_plain" (defArgs (top 13)) (defBody (top 13)) (defScope (top 13)) [] f4)
    (D5 : DefM K "is_local" (defArgs (top 14)) (defBody (top 14)) (defScope (top 14)) [] f5)
    (D6 : DefM K "is_name" (defArgs (top 15)) (defBody (top 15)) (defScope (top 15)) [] f6)
    (D7 : DefM K "kids_of" (defArgs (top 21)) (defBody (top 21)) (defScope (top 21)) [] f7)
    (D8 : DefM K "binds_of" (defArgs (top 22)) (defBody (top 22)) (defScope (top 22)) [] f8)
    (D9 : DefM K "rebuilt" (defArgs (top 23)) (defBody (top 23)) (defScope (top 23)) [] f9)
    (D10 : DefM K "is_term" (defArgs (top 24)) (defBody (top 24)) (defScope (top 24)) [] f10)
    (D11 : DefM K "is_node" (defArgs (top 25)) (defBody (top 25)) (defScope (top 25)) [] f11)
    (D12 : DefM K "size_of" (defArgs (top 26)) (defBody (top 26)) (defScope (top 26)) [] f12)
    (D13 : DefM K "depth_of" (defArgs (top 27)) (defBody (top 27)) (defScope (top 27)) [] f13)
    (D14 : DefM K "shifted" (defArgs (top 28)) (defBody (top 28)) (defScope (top 28)) [.int 0] f14)
    (D15 : DefM K "put" (defArgs (top 29)) (defBody (top 29)) (defScope (top 29)) [.int 0] f15)
    (D16 : DefM K "put_all" (defArgs (top 30)) (defBody (top 30)) (defScope (top 30)) [] f16)
    (D17 : DefM K "free_places" (defArgs (top 31)) (defBody (top 31)) (defScope (top 31)) [] f17)
    (D18 : DefM K "names_in" (defArgs (top 32)) (defBody (top 32)) (defScope (top 32)) [] f18)
    (D19 : DefM K "app_of" (defArgs (top 33)) (defBody (top 33)) (defScope (top 33)) [] f19)
    (D20 : DefM K "spine_of" (defArgs (top 34)) (defBody (top 34)) (defScope (top 34)) [] f20)
    (D21 : DefM K "pi_of" (defArgs (top 35)) (defBody (top 35)) (defScope (top 35)) [] f21)
    (D22 : DefM K "fun_of" (defArgs (top 36)) (defBody (top 36)) (defScope (top 36)) [] f22)
    (D23 : DefM K "split_pi" (defArgs (top 37)) (defBody (top 37)) (defScope (top 37)) [] f23)
    (D24 : DefM K "paths_of" (defArgs (top 38)) (defBody (top 38)) (defScope (top 38)) [] f24)
    (D25 : DefM K "part_at" (defArgs (top 39)) (defBody (top 39)) (defScope (top 39)) [] f25)
    (D26 : DefM K "binders_at" (defArgs (top 40)) (defBody (top 40)) (defScope (top 40)) [] f26)
    (D27 : DefM K "replaced" (defArgs (top 41)) (defBody (top 41)) (defScope (top 41)) [] f27)
    (D28 : DefM K "numeral" (defArgs (top 42)) (defBody (top 42)) (defScope (top 42)) [] f28)
    (D29 : DefM K "number_of" (defArgs (top 43)) (defBody (top 43)) (defScope (top 43)) [] f29)
    (D30 : DefM K "_law_state" (defArgs (top 45)) (defBody (top 45)) (defScope (top 45)) [] f30)
    (D31 : DefM K "_law_take" (defArgs (top 46)) (defBody (top 46)) (defScope (top 46)) [] f31)
    (D32 : DefM K "_law_says" (defArgs (top 47)) (defBody (top 47)) (defScope (top 47)) [] f32)
    (D33 : DefM K "_law_is_whole" (defArgs (top 48)) (defBody (top 48)) (defScope (top 48)) [] f33)
    (D34 : DefM K "_law_same" (defArgs (top 49)) (defBody (top 49)) (defScope (top 49)) [] f34)
    (D35 : DefM K "_law_told" (defArgs (top 50)) (defBody (top 50)) (defScope (top 50)) [] f35)
    (D36 : DefM K "_law_all_malformed" (defArgs (top 51)) (defBody (top 51)) (defScope (top 51)) [] f36)
    (D37 : DefM K "_law_kids" (defArgs (top 52)) (defBody (top 52)) (defScope (top 52)) [] f37)
    (D38 : DefM K "_law_binds" (defArgs (top 53)) (defBody (top 53)) (defScope (top 53)) [] f38)
    (D39 : DefM K "_law_shift" (defArgs (top 54)) (defBody (top 54)) (defScope (top 54)) [] f39)
    (D40 : DefM K "_law_put" (defArgs (top 55)) (defBody (top 55)) (defScope (top 55)) [] f40)
    (D41 : DefM K "_law_app" (defArgs (top 56)) (defBody (top 56)) (defScope (top 56)) [] f41)
    (D42 : DefM K "_law_numeral" (defArgs (top 57)) (defBody (top 57)) (defScope (top 57)) [] f42)
    (D43 : DefM K "_law_at" (defArgs (top 58)) (defBody (top 58)) (defScope (top 58)) [] f43)
    (D44 : DefM K "_law_paths" (defArgs (top 59)) (defBody (top 59)) (defScope (top 59)) [] f44)
    (D45 : DefM K "_law_swap" (defArgs (top 60)) (defBody (top 60)) (defScope (top 60)) [] f45)
    (D46 : DefM K "_law_loose" (defArgs (top 61)) (defBody (top 61)) (defScope (top 61)) [] f46)
    (D47 : DefM K "_law_free" (defArgs (top 63)) (defBody (top 63)) (defScope (top 63)) [] f47)
    (D48 : DefM K "_law_around" (defArgs (top 64)) (defBody (top 64)) (defScope (top 64)) [] f48)
    (D49 : DefM K "_law_names_hold" (defArgs (top 65)) (defBody (top 65)) (defScope (top 65)) [] f49)
    (D50 : DefM K "law" (defArgs (top 66)) (defBody (top 66)) (defScope (top 66)) [] f50)
    (O : Oth K)
    (K0 : KdM K w "KIDS" (tb 0) k0)
    (Cl : ClsAll K c0 c1 c2 c3) : Fx P w K mg base (fun n => [f0, f1, f2, f3, f4, f5, f6, f7, f8, f9, f10, f11, f12, f13, f14, f15, f16, f17, f18, f19, f20, f21, f22, f23, f24, f25, f26, f27, f28, f29, f30, f31, f32, f33, f34, f35, f36, f37, f38, f39, f40, f41, f42, f43, f44, f45, f46, f47, f48, f49, f50].getD n f0) (fun n => [c0, c1, c2, c3].getD n c0) (fun n => [k0].getD n k0) where
  d0 := ⟨PySem.W.mg_of X G D0.at_, D0.kp⟩
  d1 := ⟨PySem.W.mg_of X G D1.at_, D1.kp⟩
  d2 := ⟨PySem.W.mg_of X G D2.at_, D2.kp⟩
  d3 := ⟨PySem.W.mg_of X G D3.at_, D3.kp⟩
  d4 := ⟨PySem.W.mg_of X G D4.at_, D4.kp⟩
  d5 := ⟨PySem.W.mg_of X G D5.at_, D5.kp⟩
  d6 := ⟨PySem.W.mg_of X G D6.at_, D6.kp⟩
  d7 := ⟨PySem.W.mg_of X G D7.at_, D7.kp⟩
  d8 := ⟨PySem.W.mg_of X G D8.at_, D8.kp⟩
  d9 := ⟨PySem.W.mg_of X G D9.at_, D9.kp⟩
  d10 := ⟨PySem.W.mg_of X G D10.at_, D10.kp⟩
  d11 := ⟨PySem.W.mg_of X G D11.at_, D11.kp⟩
  d12 := ⟨PySem.W.mg_of X G D12.at_, D12.kp⟩
  d13 := ⟨PySem.W.mg_of X G D13.at_, D13.kp⟩
  d14 := ⟨PySem.W.mg_of X G D14.at_, D14.kp⟩
  d15 := ⟨PySem.W.mg_of X G D15.at_, D15.kp⟩
  d16 := ⟨PySem.W.mg_of X G D16.at_, D16.kp⟩
  d17 := ⟨PySem.W.mg_of X G D17.at_, D17.kp⟩
  d18 := ⟨PySem.W.mg_of X G D18.at_, D18.kp⟩
  d19 := ⟨PySem.W.mg_of X G D19.at_, D19.kp⟩
  d20 := ⟨PySem.W.mg_of X G D20.at_, D20.kp⟩
  d21 := ⟨PySem.W.mg_of X G D21.at_, D21.kp⟩
  d22 := ⟨PySem.W.mg_of X G D22.at_, D22.kp⟩
  d23 := ⟨PySem.W.mg_of X G D23.at_, D23.kp⟩
  d24 := ⟨PySem.W.mg_of X G D24.at_, D24.kp⟩
  d25 := ⟨PySem.W.mg_of X G D25.at_, D25.kp⟩
  d26 := ⟨PySem.W.mg_of X G D26.at_, D26.kp⟩
  d27 := ⟨PySem.W.mg_of X G D27.at_, D27.kp⟩
  d28 := ⟨PySem.W.mg_of X G D28.at_, D28.kp⟩
  d29 := ⟨PySem.W.mg_of X G D29.at_, D29.kp⟩
  d30 := ⟨PySem.W.mg_of X G D30.at_, D30.kp⟩
  d31 := ⟨PySem.W.mg_of X G D31.at_, D31.kp⟩
  d32 := ⟨PySem.W.mg_of X G D32.at_, D32.kp⟩
  d33 := ⟨PySem.W.mg_of X G D33.at_, D33.kp⟩
  d34 := ⟨PySem.W.mg_of X G D34.at_, D34.kp⟩
  d35 := ⟨PySem.W.mg_of X G D35.at_, D35.kp⟩
  d36 := ⟨PySem.W.mg_of X G D36.at_, D36.kp⟩
  d37 := ⟨PySem.W.mg_of X G D37.at_, D37.kp⟩
  d38 := ⟨PySem.W.mg_of X G D38.at_, D38.kp⟩
  d39 := ⟨PySem.W.mg_of X G D39.at_, D39.kp⟩
  d40 := ⟨PySem.W.mg_of X G D40.at_, D40.kp⟩
  d41 := ⟨PySem.W.mg_of X G D41.at_, D41.kp⟩
  d42 := ⟨PySem.W.mg_of X G D42.at_, D42.kp⟩
  d43 := ⟨PySem.W.mg_of X G D43.at_, D43.kp⟩
  d44 := ⟨PySem.W.mg_of X G D44.at_, D44.kp⟩
  d45 := ⟨PySem.W.mg_of X G D45.at_, D45.kp⟩
  d46 := ⟨PySem.W.mg_of X G D46.at_, D46.kp⟩
  d47 := ⟨PySem.W.mg_of X G D47.at_, D47.kp⟩
  d48 := ⟨PySem.W.mg_of X G D48.at_, D48.kp⟩
  d49 := ⟨PySem.W.mg_of X G D49.at_, D49.kp⟩
  d50 := ⟨PySem.W.mg_of X G D50.at_, D50.kp⟩
  b_abs := PySem.W.mg_none_of X G O.b_abs
  b_all := PySem.W.mg_none_of X G O.b_all
  b_any := PySem.W.mg_none_of X G O.b_any
  b_bool := PySem.W.mg_none_of X G O.b_bool
  b_int := PySem.W.mg_none_of X G O.b_int
  b_isinstance := PySem.W.mg_none_of X G O.b_isinstance
  b_len := PySem.W.mg_none_of X G O.b_len
  b_list := PySem.W.mg_none_of X G O.b_list
  b_max := PySem.W.mg_none_of X G O.b_max
  b_range := PySem.W.mg_none_of X G O.b_range
  b_sorted := PySem.W.mg_none_of X G O.b_sorted
  b_str := PySem.W.mg_none_of X G O.b_str
  b_sum := PySem.W.mg_none_of X G O.b_sum
  b_tuple := PySem.W.mg_none_of X G O.b_tuple
  b_zip := PySem.W.mg_none_of X G O.b_zip
  c_LETTERS := cst_of X G O.c_LETTERS
  c_DIGITS := cst_of X G O.c_DIGITS
  c_WORDS := cst_of X G O.c_WORDS
  c_MOST_LEVEL := cst_of X G O.c_MOST_LEVEL
  c_MOST_DEPTH := cst_of X G O.c_MOST_DEPTH
  c_MOST_SIZE := cst_of X G O.c_MOST_SIZE
  k_KIDS := PySem.W.mg_of X G K0.at_
  keep := fun f => keep_all (l := [f0, f1, f2, f3, f4, f5, f6, f7, f8, f9, f10, f11, f12, f13, f14, f15, f16, f17, f18, f19, f20, f21, f22, f23, f24, f25, f26, f27, f28, f29, f30, f31, f32, f33, f34, f35, f36, f37, f38, f39, f40, f41, f42, f43, f44, f45, f46, f47, f48, f49, f50]) D0.kp ⟨D0.kp, D1.kp, D2.kp, D3.kp, D4.kp, D5.kp, D6.kp, D7.kp, D8.kp, D9.kp, D10.kp, D11.kp, D12.kp, D13.kp, D14.kp, D15.kp, D16.kp, D17.kp, D18.kp, D19.kp, D20.kp, D21.kp, D22.kp, D23.kp, D24.kp, D25.kp, D26.kp, D27.kp, D28.kp, D29.kp, D30.kp, D31.kp, D32.kp, D33.kp, D34.kp, D35.kp, D36.kp, D37.kp, D38.kp, D39.kp, D40.kp, D41.kp, D42.kp, D43.kp, D44.kp, D45.kp, D46.kp, D47.kp, D48.kp, D49.kp, D50.kp, trivial⟩ f
  kdo := kdOk_of fun n hn => (match n, hn with
    | 0, _ => ⟨_, K0⟩
    | n + 1, hn => absurd rfl hn)
  m0 := PySem.W.mg_of X G Cl.a0.at_
  x0 := ⟨fun j hj => by simp only [List.mem_cons, List.not_mem_nil, or_false] at hj; rcases hj with rfl | rfl | rfl | rfl; exact Cl.x0_0; exact Cl.x0_1; exact Cl.x0_2; exact Cl.x0_3, fun j hj => by simp at hj⟩
  r0 := ⟨Cl.e0, Cl.a0.kp, Cl.a0.sub, Cl.a0.ty⟩
  m1 := PySem.W.mg_of X G Cl.a1.at_
  x1 := ⟨fun j hj => by simp only [List.mem_cons, List.not_mem_nil, or_false] at hj; rcases hj with rfl; exact Cl.x1_1, fun j hj => by simp only [List.mem_cons, List.not_mem_nil, or_false] at hj; rcases hj with rfl | rfl | rfl; exact Cl.x1_0; exact Cl.x1_2; exact Cl.x1_3⟩
  r1 := ⟨Cl.e1, Cl.a1.kp, Cl.a1.sub, Cl.a1.ty⟩
  m2 := PySem.W.mg_of X G Cl.a2.at_
  x2 := ⟨fun j hj => by simp only [List.mem_cons, List.not_mem_nil, or_false] at hj; rcases hj with rfl; exact Cl.x2_2, fun j hj => by simp only [List.mem_cons, List.not_mem_nil, or_false] at hj; rcases hj with rfl | rfl | rfl; exact Cl.x2_0; exact Cl.x2_1; exact Cl.x2_3⟩
  xf2 := Cl.i2.xfc Cl.a2
  xn2_0 := Cl.n2_0
  xn2_1 := Cl.n2_1
  r2_0 := rai2_0 Cl (PySem.W.mg_of X G Cl.a0.at_)
  r2_1 := rai2_1 Cl (PySem.W.mg_of X G Cl.a0.at_)
  m3 := PySem.W.mg_of X G Cl.a3.at_
  x3 := ⟨fun j hj => by simp only [List.mem_cons, List.not_mem_nil, or_false] at hj; rcases hj with rfl; exact Cl.x3_3, fun j hj => by simp only [List.mem_cons, List.not_mem_nil, or_false] at hj; rcases hj with rfl | rfl | rfl; exact Cl.x3_0; exact Cl.x3_1; exact Cl.x3_2⟩
  xf3 := Cl.i3.xfc Cl.a3
  xn3_2 := Cl.n3_2
  r3_0 := rai3_0 Cl (PySem.W.mg_of X G Cl.a0.at_)
theorem finish (lev : Nat) (wf : Nat) {h : Heap} (X : K.In h) (G : h.Ns mainGlobals mg) {fa0 : Addr} (hfa : mg "law" = some (.ref fa0))
    (D0 : ∃ f0, DefM K "is_integer" (defArgs (top 9)) (defBody (top 9)) (defScope (top 9)) [] f0)
    (D1 : ∃ f1, DefM K "check_from" (defArgs (top 10)) (defBody (top 10)) (defScope (top 10)) [] f1)
    (D2 : ∃ f2, DefM K "is_path" (defArgs (top 11)) (defBody (top 11)) (defScope (top 11)) [] f2)
    (D3 : ∃ f3, DefM K "check_path" (defArgs (top 12)) (defBody (top 12)) (defScope (top 12)) [] f3)
    (D4 : ∃ f4, DefM K "is_plain" (defArgs (top 13)) (defBody (top 13)) (defScope (top 13)) [] f4)
    (D5 : ∃ f5, DefM K "is_local" (defArgs (top 14)) (defBody (top 14)) (defScope (top 14)) [] f5)
    (D6 : ∃ f6, DefM K "is_name" (defArgs (top 15)) (defBody (top 15)) (defScope (top 15)) [] f6)
    (D7 : ∃ f7, DefM K "kids_of" (defArgs (top 21)) (defBody (top 21)) (defScope (top 21)) [] f7)
    (D8 : ∃ f8, DefM K "binds_of" (defArgs (top 22)) (defBody (top 22)) (defScope (top 22)) [] f8)
    (D9 : ∃ f9, DefM K "rebuilt" (defArgs (top 23)) (defBody (top 23)) (defScope (top 23)) [] f9)
    (D10 : ∃ f10, DefM K "is_term" (defArgs (top 24)) (defBody (top 24)) (defScope (top 24)) [] f10)
    (D11 : ∃ f11, DefM K "is_node" (defArgs (top 25)) (defBody (top 25)) (defScope (top 25)) [] f11)
    (D12 : ∃ f12, DefM K "size_of" (defArgs (top 26)) (defBody (top 26)) (defScope (top 26)) [] f12)
    (D13 : ∃ f13, DefM K "depth_of" (defArgs (top 27)) (defBody (top 27)) (defScope (top 27)) [] f13)
    (D14 : ∃ f14, DefM K "shifted" (defArgs (top 28)) (defBody (top 28)) (defScope (top 28)) [.int 0] f14)
    (D15 : ∃ f15, DefM K "put" (defArgs (top 29)) (defBody (top 29)) (defScope (top 29)) [.int 0] f15)
    (D16 : ∃ f16, DefM K "put_all" (defArgs (top 30)) (defBody (top 30)) (defScope (top 30)) [] f16)
    (D17 : ∃ f17, DefM K "free_places" (defArgs (top 31)) (defBody (top 31)) (defScope (top 31)) [] f17)
    (D18 : ∃ f18, DefM K "names_in" (defArgs (top 32)) (defBody (top 32)) (defScope (top 32)) [] f18)
    (D19 : ∃ f19, DefM K "app_of" (defArgs (top 33)) (defBody (top 33)) (defScope (top 33)) [] f19)
    (D20 : ∃ f20, DefM K "spine_of" (defArgs (top 34)) (defBody (top 34)) (defScope (top 34)) [] f20)
    (D21 : ∃ f21, DefM K "pi_of" (defArgs (top 35)) (defBody (top 35)) (defScope (top 35)) [] f21)
    (D22 : ∃ f22, DefM K "fun_of" (defArgs (top 36)) (defBody (top 36)) (defScope (top 36)) [] f22)
    (D23 : ∃ f23, DefM K "split_pi" (defArgs (top 37)) (defBody (top 37)) (defScope (top 37)) [] f23)
    (D24 : ∃ f24, DefM K "paths_of" (defArgs (top 38)) (defBody (top 38)) (defScope (top 38)) [] f24)
    (D25 : ∃ f25, DefM K "part_at" (defArgs (top 39)) (defBody (top 39)) (defScope (top 39)) [] f25)
    (D26 : ∃ f26, DefM K "binders_at" (defArgs (top 40)) (defBody (top 40)) (defScope (top 40)) [] f26)
    (D27 : ∃ f27, DefM K "replaced" (defArgs (top 41)) (defBody (top 41)) (defScope (top 41)) [] f27)
    (D28 : ∃ f28, DefM K "numeral" (defArgs (top 42)) (defBody (top 42)) (defScope (top 42)) [] f28)
    (D29 : ∃ f29, DefM K "number_of" (defArgs (top 43)) (defBody (top 43)) (defScope (top 43)) [] f29)
    (D30 : ∃ f30, DefM K "_law_state" (defArgs (top 45)) (defBody (top 45)) (defScope (top 45)) [] f30)
    (D31 : ∃ f31, DefM K "_law_take" (defArgs (top 46)) (defBody (top 46)) (defScope (top 46)) [] f31)
    (D32 : ∃ f32, DefM K "_law_says" (defArgs (top 47)) (defBody (top 47)) (defScope (top 47)) [] f32)
    (D33 : ∃ f33, DefM K "_law_is_whole" (defArgs (top 48)) (defBody (top 48)) (defScope (top 48)) [] f33)
    (D34 : ∃ f34, DefM K "_law_same" (defArgs (top 49)) (defBody (top 49)) (defScope (top 49)) [] f34)
    (D35 : ∃ f35, DefM K "_law_told" (defArgs (top 50)) (defBody (top 50)) (defScope (top 50)) [] f35)
    (D36 : ∃ f36, DefM K "_law_all_malformed" (defArgs (top 51)) (defBody (top 51)) (defScope (top 51)) [] f36)
    (D37 : ∃ f37, DefM K "_law_kids" (defArgs (top 52)) (defBody (top 52)) (defScope (top 52)) [] f37)
    (D38 : ∃ f38, DefM K "_law_binds" (defArgs (top 53)) (defBody (top 53)) (defScope (top 53)) [] f38)
    (D39 : ∃ f39, DefM K "_law_shift" (defArgs (top 54)) (defBody (top 54)) (defScope (top 54)) [] f39)
    (D40 : ∃ f40, DefM K "_law_put" (defArgs (top 55)) (defBody (top 55)) (defScope (top 55)) [] f40)
    (D41 : ∃ f41, DefM K "_law_app" (defArgs (top 56)) (defBody (top 56)) (defScope (top 56)) [] f41)
    (D42 : ∃ f42, DefM K "_law_numeral" (defArgs (top 57)) (defBody (top 57)) (defScope (top 57)) [] f42)
    (D43 : ∃ f43, DefM K "_law_at" (defArgs (top 58)) (defBody (top 58)) (defScope (top 58)) [] f43)
    (D44 : ∃ f44, DefM K "_law_paths" (defArgs (top 59)) (defBody (top 59)) (defScope (top 59)) [] f44)
    (D45 : ∃ f45, DefM K "_law_swap" (defArgs (top 60)) (defBody (top 60)) (defScope (top 60)) [] f45)
    (D46 : ∃ f46, DefM K "_law_loose" (defArgs (top 61)) (defBody (top 61)) (defScope (top 61)) [] f46)
    (D47 : ∃ f47, DefM K "_law_free" (defArgs (top 63)) (defBody (top 63)) (defScope (top 63)) [] f47)
    (D48 : ∃ f48, DefM K "_law_around" (defArgs (top 64)) (defBody (top 64)) (defScope (top 64)) [] f48)
    (D49 : ∃ f49, DefM K "_law_names_hold" (defArgs (top 65)) (defBody (top 65)) (defScope (top 65)) [] f49)
    (D50 : ∃ f50, DefM K "law" (defArgs (top 66)) (defBody (top 66)) (defScope (top 66)) [] f50)
    (O : Oth K)
    (K0 : ∃ k0, KdM K w "KIDS" (tb 0) k0)
    (Cl : ∃ c0 c1 c2 c3, ClsAll K c0 c1 c2 c3)
    (law : ∀ ns : List Int, ns.length ≤ 63 → ∃ M', runDef d50 (ctxN pg wf lev) [.kst ns] [] = .ok (.bl true) M') :
    ∃ fd : FuncData, (∀ (s : Shared) (u : Value), BindsTo s fd ⟨[u], []⟩ [("script", u)]) ∧ ∀ base : Heap, K.In base → base.Ns mainGlobals mg → FnOk P w K mg base (L2.CX P w) (lev + 1) fa0 fd ["script"] (spLaw63 K) := by
  obtain ⟨f0, D0⟩ := D0
  obtain ⟨f1, D1⟩ := D1
  obtain ⟨f2, D2⟩ := D2
  obtain ⟨f3, D3⟩ := D3
  obtain ⟨f4, D4⟩ := D4
  obtain ⟨f5, D5⟩ := D5
  obtain ⟨f6, D6⟩ := D6
  obtain ⟨f7, D7⟩ := D7
  obtain ⟨f8, D8⟩ := D8
  obtain ⟨f9, D9⟩ := D9
  obtain ⟨f10, D10⟩ := D10
  obtain ⟨f11, D11⟩ := D11
  obtain ⟨f12, D12⟩ := D12
  obtain ⟨f13, D13⟩ := D13
  obtain ⟨f14, D14⟩ := D14
  obtain ⟨f15, D15⟩ := D15
  obtain ⟨f16, D16⟩ := D16
  obtain ⟨f17, D17⟩ := D17
  obtain ⟨f18, D18⟩ := D18
  obtain ⟨f19, D19⟩ := D19
  obtain ⟨f20, D20⟩ := D20
  obtain ⟨f21, D21⟩ := D21
  obtain ⟨f22, D22⟩ := D22
  obtain ⟨f23, D23⟩ := D23
  obtain ⟨f24, D24⟩ := D24
  obtain ⟨f25, D25⟩ := D25
  obtain ⟨f26, D26⟩ := D26
  obtain ⟨f27, D27⟩ := D27
  obtain ⟨f28, D28⟩ := D28
  obtain ⟨f29, D29⟩ := D29
  obtain ⟨f30, D30⟩ := D30
  obtain ⟨f31, D31⟩ := D31
  obtain ⟨f32, D32⟩ := D32
  obtain ⟨f33, D33⟩ := D33
  obtain ⟨f34, D34⟩ := D34
  obtain ⟨f35, D35⟩ := D35
  obtain ⟨f36, D36⟩ := D36
  obtain ⟨f37, D37⟩ := D37
  obtain ⟨f38, D38⟩ := D38
  obtain ⟨f39, D39⟩ := D39
  obtain ⟨f40, D40⟩ := D40
  obtain ⟨f41, D41⟩ := D41
  obtain ⟨f42, D42⟩ := D42
  obtain ⟨f43, D43⟩ := D43
  obtain ⟨f44, D44⟩ := D44
  obtain ⟨f45, D45⟩ := D45
  obtain ⟨f46, D46⟩ := D46
  obtain ⟨f47, D47⟩ := D47
  obtain ⟨f48, D48⟩ := D48
  obtain ⟨f49, D49⟩ := D49
  obtain ⟨f50, D50⟩ := D50
  obtain ⟨k0, K0⟩ := K0
  obtain ⟨c0, c1, c2, c3, Cl⟩ := Cl
  obtain ⟨vsL, fdL, FL, rL⟩ := D50.fn
  have hv0 : vsL = [] := List.eq_nil_of_length_eq_zero (rL (lk (fun _ => 0) (fun _ => 0) (fun _ => 0)) (fun _ => 0) 0 (fun _ => none)).length.symm
  subst hv0
  have e0 : fa0 = f50 := V.ref.inj (by
    have := hfa.symm.trans (PySem.W.mg_of X G D50.at_)
    injection this with z; injection z with z; rw [z])
  refine ⟨fdL, fun s u => FL.bindsA (ps := [("script" : Str)]) (fun _ _ _ _ _ _ us hl => match us, hl with | [_], _ => rfl) s [u] rfl, fun base hK hG => ?_⟩
  have F := fx_of (P := P) (base := base) X G D0 D1 D2 D3 D4 D5 D6 D7 D8 D9 D10 D11 D12 D13 D14 D15 D16 D17 D18 D19 D20 D21 D22 D23 D24 D25 D26 D27 D28 D29 D30 D31 D32 D33 D34 D35 D36 D37 D38 D39 D40 D41 D42 D43 D44 D45 D46 D47 D48 D49 D50 O K0 Cl
  have hD : AllAt (fun f d => DOk P w K mg base (lk (fun n => [f0, f1, f2, f3, f4, f5, f6, f7, f8, f9, f10, f11, f12, f13, f14, f15, f16, f17, f18, f19, f20, f21, f22, f23, f24, f25, f26, f27, f28, f29, f30, f31, f32, f33, f34, f35, f36, f37, f38, f39, f40, f41, f42, f43, f44, f45, f46, f47, f48, f49, f50].getD n f0) (fun n => [c0, c1, c2, c3].getD n c0) (fun n => [k0].getD n k0)) tb pg wf f d) 0 defsL := ⟨ok0 F D0, ok1 F D1, ok2 F D2, ok3 F D3, ok4 F D4, ok5 F D5, ok6 F D6, ok7 F D7, ok8 F D8, ok9 F D9, ok10 F D10, ok11 F D11, ok12 F D12, ok13 F D13, ok14 F D14, ok15 F D15, ok16 F D16, ok17 F D17, ok18 F D18, ok19 F D19, ok20 F D20, ok21 F D21, ok22 F D22, ok23 F D23, ok24 F D24, ok25 F D25, ok26 F D26, ok27 F D27, ok28 F D28, ok29 F D29, ok30 F D30, ok31 F D31, ok32 F D32, ok33 F D33, ok34 F D34, ok35 F D35, ok36 F D36, ok37 F D37, ok38 F D38, ok39 F D39, ok40 F D40, ok41 F D41, ok42 F D42, ok43 F D43, ok44 F D44, ok45 F D45, ok46 F D46, ok47 F D47, ok48 F D48, ok49 F D49, ok50 F D50, trivial⟩
  have W := wrld_all (Pg := pg) (wf := wf) F.kdo (fun f d e => by have := hD.get (n := f) e; rwa [Nat.zero_add] at this) lev
  rw [e0]
  exact law_fn (κ := ctxN pg wf lev) (T := tb) FL sc50 rfl rfl rfl W (fun cdv A outer s H E S hp => v50 F S hp) law
end
end PK.proofkernel_k00_whole_terms_places_and_p
end

section
set_option Elab.async false
set_option linter.all false
/-! PKu: the rules by which simp reads the small semantics -/
namespace PK
@[simp] theorem ob_ok {d M f} : (Out.ok d M).bind f = f d M := Eq.trans rfl rfl
@[simp] theorem ob_exc {x M f} : (Out.exc x M).bind f = .exc x M := Eq.trans rfl rfl
@[simp] theorem ob_bad {f} : Out.bad.bind f = .bad := Eq.trans rfl rfl
@[simp] theorem sb_nx {ρ M f} : (SOut.nx ρ M).bind f = f ρ M := Eq.trans rfl rfl
@[simp] theorem sb_rt {d M f} : (SOut.rt d M).bind f = .rt d M := Eq.trans rfl rfl
@[simp] theorem sb_bk {ρ M f} : (SOut.bk ρ M).bind f = .bk ρ M := Eq.trans rfl rfl
@[simp] theorem sb_ct {ρ M f} : (SOut.ct ρ M).bind f = .ct ρ M := Eq.trans rfl rfl
@[simp] theorem sb_exc {x ρ M f} : (SOut.exc x ρ M).bind f = .exc x ρ M := Eq.trans rfl rfl
@[simp] theorem sb_bad {f} : SOut.bad.bind f = .bad := Eq.trans rfl rfl
@[simp] theorem oo_ok {ρ d M f} : ofOut ρ (.ok d M) f = f d M := Eq.trans rfl rfl
@[simp] theorem oo_exc {ρ x M f} : ofOut ρ (.exc x M) f = .exc x ρ M := Eq.trans rfl rfl
@[simp] theorem oo_bad {ρ f} : ofOut ρ .bad f = .bad := Eq.trans rfl rfl
/-- branches -/
def brO (o : Out) (A B : Mem → Out) : Out := o.bind fun x M => match x with
  | .bl true => A M
  | .bl false => B M
  | _ => .bad
def brS (ρ : Env) (o : Out) (A B : Mem → SOut) : SOut := ofOut ρ o fun x M => match x with
  | .bl true => A M
  | .bl false => B M
  | _ => .bad
@[simp] theorem brO_ok {b M A B} : brO (.ok (.bl b) M) A B = if b = true then A M else B M := by cases b <;> rfl
@[simp] theorem brO_exc {x M A B} : brO (.exc x M) A B = .exc x M := Eq.trans rfl rfl
@[simp] theorem brO_bad {A B} : brO .bad A B = .bad := Eq.trans rfl rfl
@[simp] theorem brS_ok {ρ b M A B} : brS ρ (.ok (.bl b) M) A B = if b = true then A M else B M := by cases b <;> rfl
@[simp] theorem brS_exc {ρ x M A B} : brS ρ (.exc x M) A B = .exc x ρ M := Eq.trans rfl rfl
@[simp] theorem brS_bad {ρ A B} : brS ρ .bad A B = .bad := Eq.trans rfl rfl
@[simp] theorem if_and {p : Prop} [Decidable p] {b M} : (if p then Out.ok (.bl b) M else .ok (.bl false) M) = .ok (.bl (decide p && b)) M := by by_cases h : p <;> simp [h]
@[simp] theorem if_or {p : Prop} [Decidable p] {b M} : (if p then Out.ok (.bl true) M else .ok (.bl b) M) = .ok (.bl (decide p || b)) M := by by_cases h : p <;> simp [h]
/-! expressions -/
variable {κ : Ctx} {ρ : Env} {M : Mem}
@[simp] theorem sVar_eq {i} : sVar i κ ρ M = (match ρ[i]? with | some (some d) => .ok d M | _ => .bad) := Eq.trans rfl rfl
@[simp] theorem sC_eq {d} : sC d κ ρ M = .ok d M := Eq.trans rfl rfl
@[simp] theorem sNil_eq : sNil κ ρ M = .ok (.tup []) M := Eq.trans rfl rfl
@[simp] theorem consD_eq {d l} : consD d (.tup l) M = .ok (.tup (d :: l)) M := Eq.trans rfl rfl
@[simp] theorem sCons_eq {a r} : sCons a r κ ρ M = (a κ ρ M).bind fun d M => (r κ ρ M).bind fun ds M => consD d ds M := Eq.trans rfl rfl
@[simp] theorem rowD_eq {f l} : rowD f (.tup l) M = f l M := Eq.trans rfl rfl
@[simp] theorem sRow_eq {f as} : sRow f as κ ρ M = (as κ ρ M).bind (rowD f) := Eq.trans rfl rfl
@[simp] theorem alloc_eq {o} : alloc o M = .ok (.loc M.length) (M ++ [o]) := Eq.trans rfl rfl
@[simp] theorem sTup_eq {as} : sTup as κ ρ M = (as κ ρ M).bind (rowD fun l M => if l.length ≤ 16777216 then .ok (.tup l) M else .bad) := Eq.trans rfl rfl
@[simp] theorem sLst_eq {as} : sLst as κ ρ M = (as κ ρ M).bind (rowD fun l M => if l.length ≤ 16777216 then alloc (.lst l) M else .bad) := Eq.trans rfl rfl
@[simp] theorem sCall_eq {f dfl as} : sCall f dfl as κ ρ M = (as κ ρ M).bind (rowD fun l M => κ.call f (l ++ dfl) M) := Eq.trans rfl rfl
@[simp] theorem sCallV_eq {i as} : sCallV i as κ ρ M = (match ρ[i]? with | some (some (.fn f)) => (as κ ρ M).bind (rowD fun l M => κ.call f l M) | _ => .bad) := Eq.trans rfl rfl
@[simp] theorem isLst_loc {n} : isLst (.loc n) M = (rdL M n).isSome := Eq.trans rfl rfl
def brM (b : Bool) (o : Out) : Out := if b then o else .bad
@[simp] theorem brM_t {o} : brM true o = o := Eq.trans rfl rfl
@[simp] theorem sMeth_eq {f a as} : sMeth f a as κ ρ M = (a κ ρ M).bind fun d M1 => brM (isLst d M1) ((as κ ρ M1).bind (rowD fun l M2 => f (d :: l) M2)) := Eq.trans rfl rfl
@[simp] theorem sBin_eq {f a b} : sBin f a b κ ρ M = (a κ ρ M).bind fun x M => (b κ ρ M).bind fun y M => f x y M := Eq.trans rfl rfl
@[simp] theorem sUn_eq {f a} : sUn f a κ ρ M = (a κ ρ M).bind f := Eq.trans rfl rfl
@[simp] theorem sIf_eq {c a b} : sIf c a b κ ρ M = brO (c κ ρ M) (a κ ρ) (b κ ρ) := Eq.trans rfl rfl
@[simp] theorem sAnd_eq {a b} : sAnd a b κ ρ M = brO (a κ ρ M) (b κ ρ) (.ok (.bl false)) := Eq.trans rfl rfl
@[simp] theorem sOr_eq {a b} : sOr a b κ ρ M = brO (a κ ρ M) (.ok (.bl true)) (b κ ρ) := Eq.trans rfl rfl
@[simp] theorem dNot_eq {b} : dNot (.bl b) M = .ok (.bl (!b)) M := Eq.trans rfl rfl
@[simp] theorem sDict_eq : sDict κ ρ M = alloc (.dic []) M := Eq.trans rfl rfl
@[simp] theorem sChain_eq {f g a b c} : sChain f g a b c κ ρ M = (a κ ρ M).bind fun x M => (b κ ρ M).bind fun y M => brO (f x y M) (fun M => (c κ ρ M).bind fun z M => g y z M) (.ok (.bl false)) := Eq.trans rfl rfl
/-! operators -/
@[simp] theorem dAdd_int {i j} : dAdd (.int i) (.int j) M = .ok (.int (i + j)) M := Eq.trans rfl rfl
@[simp] theorem dAdd_tup {xs ys} : dAdd (.tup xs) (.tup ys) M = if xs.length + ys.length ≤ 16777216 then .ok (.tup (xs ++ ys)) M else .bad := Eq.trans rfl rfl
@[simp] theorem dAug_int {i j} : dAug (.int i) (.int j) M = .ok (.int (i + j)) M := Eq.trans rfl rfl
@[simp] theorem dSub_int {i j} : dSub (.int i) (.int j) M = .ok (.int (i - j)) M := Eq.trans rfl rfl
@[simp] theorem dMul_int {i j} : dMul (.int i) (.int j) M = if (-(2 ^ 64) < i ∧ i < 2 ^ 64) ∨ (-(2 ^ 64) < j ∧ j < 2 ^ 64) then .ok (.int (i * j)) M else .bad := Eq.trans rfl rfl
@[simp] theorem dMul_tup {xs j} : dMul (.tup xs) (.int j) M = if xs.length * j.toNat ≤ 16777216 ∧ -(2 ^ 62) < j ∧ j < 2 ^ 62 then .ok (.tup (List.replicate j.toNat xs).flatten) M else .bad := Eq.trans rfl rfl
@[simp] theorem dFdiv_int {i j} : dFdiv (.int i) (.int j) M = if 0 < j ∧ j < 1073741824 then .ok (.int (i / j)) M else .bad := Eq.trans rfl rfl
@[simp] theorem dMod_int {i j} : dMod (.int i) (.int j) M = if 0 < j then .ok (.int (i % j)) M else .bad := Eq.trans rfl rfl
@[simp] theorem dNeg_int {i} : dNeg (.int i) M = .ok (.int (-i)) M := Eq.trans rfl rfl
@[simp] theorem dLt_int {i j} : dLt (.int i) (.int j) M = .ok (.bl (decide (i < j))) M := Eq.trans rfl rfl
@[simp] theorem dLe_int {i j} : dLe (.int i) (.int j) M = .ok (.bl (decide (i ≤ j))) M := Eq.trans rfl rfl
@[simp] theorem dGt_int {i j} : dGt (.int i) (.int j) M = .ok (.bl (decide (j < i))) M := Eq.trans rfl rfl
@[simp] theorem dGe_int {i j} : dGe (.int i) (.int j) M = .ok (.bl (decide (j ≤ i))) M := Eq.trans rfl rfl
@[simp] theorem dEqB_str {s t} : dEqB (.str s) (.str t) M = .ok (.bl (s == t)) M := by simp [dEqB, dEq, D.flat, D.dep, D.eqv]
@[simp] theorem dNeB_str {s t} : dNeB (.str s) (.str t) M = .ok (.bl (!(s == t))) M := by simp [dNeB, dEq, D.flat, D.dep, D.eqv]
@[simp] theorem dEqB_int {s t} : dEqB (.int s) (.int t) M = .ok (.bl (s == t)) M := by simp [dEqB, dEq, D.flat, D.dep, D.eqv]
@[simp] theorem dNeB_int {s t} : dNeB (.int s) (.int t) M = .ok (.bl (!(s == t))) M := by simp [dNeB, dEq, D.flat, D.dep, D.eqv]
@[simp] theorem dEqB_bl {s t} : dEqB (.bl s) (.bl t) M = .ok (.bl (s == t)) M := by simp [dEqB, dEq, D.flat, D.dep, D.eqv]
mutual
theorem eqv_refl : ∀ d : D, d.flat = true → d.eqv d = true
  | .non, _ => rfl
  | .bl b, _ => by simp [D.eqv]
  | .int i, _ => by simp [D.eqv]
  | .str s, _ => by simp [D.eqv]
  | .tup xs, h => eqvL_refl xs h
  | .loc _, h => by simp [D.flat] at h
  | .fn _, h => by simp [D.flat] at h
  | .kd _, h => by simp [D.flat] at h
  | .kst _, h => by simp [D.flat] at h
theorem eqvL_refl : ∀ ds : List D, D.flatL ds = true → D.eqvL ds ds = true
  | [], _ => rfl
  | d :: ds, h => by
    simp only [D.flatL, Bool.and_eq_true] at h
    simp only [D.eqvL, Bool.and_eq_true]
    exact ⟨eqv_refl d h.1, eqvL_refl ds h.2⟩
end
theorem eq_same {d : D} (h : d.flat = true) (hd : d.dep ≤ 150) : dEq d d M = some true := by
  cases d <;> simp_all [dEq, D.flat, eqv_refl, D.eqv, D.dep, eqvL_refl]
theorem eqB_same {d : D} (h : d.flat = true) (hd : d.dep ≤ 150) : dEqB d d M = .ok (.bl true) M := by simp [dEqB, eq_same h hd]
theorem neB_same {d : D} (h : d.flat = true) (hd : d.dep ≤ 150) : dNeB d d M = .ok (.bl false) M := by simp [dNeB, eq_same h hd]
/-! places in rows -/
theorem atI_nat {α : Type} {xs : List α} {k : Nat} : L2.atI xs (k : Int) = xs[k]? := by
  unfold L2.atI L2.ixN
  by_cases h : k < xs.length
  · simp [h]
  · simp [h]
@[simp] theorem atI_0 {α : Type} {x : α} {xs} : L2.atI (x :: xs) 0 = some x := by simp [L2.atI, L2.ixN]
@[simp] theorem atI_1 {α : Type} {x y : α} {xs} : L2.atI (x :: y :: xs) 1 = some y := atI_nat (k := 1)
@[simp] theorem atI_2 {α : Type} {x y z : α} {xs} : L2.atI (x :: y :: z :: xs) 2 = some z := atI_nat (k := 2)
@[simp] theorem atI_3 {α : Type} {x y z u : α} {xs} : L2.atI (x :: y :: z :: u :: xs) 3 = some u := atI_nat (k := 3)
@[simp] theorem ofO_some {d} : ofO (some d) M = .ok d M := Eq.trans rfl rfl
@[simp] theorem ofO_none : ofO none M = .bad := Eq.trans rfl rfl
variable {T : Tb}
@[simp] theorem dIx_tup {xs i} : dIx T (.tup xs) (.int i) M = ofO (L2.atI xs i) M := Eq.trans rfl rfl
@[simp] theorem dIx_kd {n s} : dIx T (.kd n) (.str s) M = ofO ((kget T n s).bind id) M := Eq.trans rfl rfl
@[simp] theorem dIx_str {s : List Nat} {i} : dIx T (.str s) (.int i) M = if s.length ≤ 16777216 then ofO ((L2.atI s i).map fun c => .str [c]) M else .bad := Eq.trans rfl rfl
@[simp] theorem dIx_loc {a i} : dIx T (.loc a) (.int i) M = (match rdL M a, rdK M a with
    | some xs, _ => ofO (L2.atI xs i) M
    | none, some kvs => ofO ((kvs.find? fun p => p.1.eqv (.int i)).map (·.2)) M
    | none, none => .bad) := Eq.trans rfl rfl
@[simp] theorem dLen_tup {xs} : dLen T [.tup xs] M = .ok (.int xs.length) M := Eq.trans rfl rfl
@[simp] theorem dLen_str {s : List Nat} : dLen T [.str s] M = if s.length ≤ 16777216 then .ok (.int s.length) M else .bad := Eq.trans rfl rfl
@[simp] theorem dLen_loc {a} : dLen T [.loc a] M = (match rdL M a, rdK M a with
    | some xs, _ => .ok (.int xs.length) M
    | none, some kvs => .ok (.int kvs.length) M
    | none, none => .bad) := Eq.trans rfl rfl
@[simp] theorem dIsi_int {t i} : dIsi t (.int i) M = .ok (.bl (match t with | .int => true | _ => false)) M := Eq.trans rfl rfl
@[simp] theorem dIsi_bl {t b} : dIsi t (.bl b) M = .ok (.bl (match t with | .int => true | .bool => true | _ => false)) M := Eq.trans rfl rfl
@[simp] theorem dIsi_str {t s} : dIsi t (.str s) M = .ok (.bl (match t with | .str => true | _ => false)) M := Eq.trans rfl rfl
@[simp] theorem dIsi_tup {t s} : dIsi t (.tup s) M = .ok (.bl (match t with | .tuple => true | _ => false)) M := Eq.trans rfl rfl
@[simp] theorem dIsi_non {t} : dIsi t .non M = .ok (.bl false) M := Eq.trans rfl rfl
@[simp] theorem dIsi_loc {t a} : dIsi t (.loc a) M = (match isiB t (.loc a) M with | some b => .ok (.bl b) M | none => .bad) := Eq.trans rfl rfl
@[simp] theorem isiB_loc {t a} : isiB t (.loc a) M = (match M[a]? with
    | some (.lst _) => some (match t with | .list => true | _ => false)
    | some (.lck _) => some (match t with | .list => true | _ => false)
    | some (.dic _) => some (match t with | .dict => true | _ => false)
    | some (.ins c _) => (match t with | .own c' => if c = c' then some true else none | _ => none)
    | none => none) := Eq.trans rfl rfl
@[simp] theorem dTuple_tup {xs} : dTuple [.tup xs] M = .ok (.tup xs) M := Eq.trans rfl rfl
def oB {α : Type} (o : Option α) (f : α → Out) : Out := match o with | some x => f x | none => .bad
@[simp] theorem oB_some {α : Type} {x : α} {f} : oB (some x) f = f x := Eq.trans rfl rfl
@[simp] theorem dTuple_loc {a} : dTuple [.loc a] M = oB (rdL M a) fun xs => .ok (.tup xs) M := by simp only [dTuple, oB]; cases rdL M a <;> rfl
@[simp] theorem dList_loc {a} : dList [.loc a] M = oB (rdL M a) fun xs => alloc (.lst xs) M := by simp only [dList, oB]; cases rdL M a <;> rfl
@[simp] theorem rdL_eq {a} : rdL M a = (M[a]?).bind MO.rd := Eq.trans rfl rfl
@[simp] theorem ownL_eq {a} : ownL M a = (M[a]?).bind MO.own := Eq.trans rfl rfl
@[simp] theorem rdK_eq {a} : rdK M a = (M[a]?).bind MO.kvs := Eq.trans rfl rfl
@[simp] theorem rd_lst {xs} : MO.rd (.lst xs) = some xs := Eq.trans rfl rfl
@[simp] theorem rd_lck {xs} : MO.rd (.lck xs) = some xs := Eq.trans rfl rfl
@[simp] theorem rd_dic {xs} : MO.rd (.dic xs) = none := Eq.trans rfl rfl
@[simp] theorem own_lst {xs} : MO.own (.lst xs) = some xs := Eq.trans rfl rfl
@[simp] theorem own_lck {xs} : MO.own (.lck xs) = some xs := Eq.trans rfl rfl
@[simp] theorem kvs_dic {xs} : MO.kvs (.dic xs) = some xs := Eq.trans rfl rfl
@[simp] theorem kvs_lst {xs} : MO.kvs (.lst xs) = none := Eq.trans rfl rfl
@[simp] theorem molt_lst {k xs} : MO.lt k (.lst xs) = D.ltL k xs := by unfold MO.lt; exact Eq.trans rfl rfl
@[simp] theorem molt_lck {k xs} : MO.lt k (.lck xs) = D.ltL k xs := by unfold MO.lt; exact Eq.trans rfl rfl
@[simp] theorem dList_tup {xs} : dList [.tup xs] M = alloc (.lst xs) M := Eq.trans rfl rfl
@[simp] theorem one_eq {f : D → Mem → Out} {d} : one f [d] M = f d M := Eq.trans rfl rfl
@[simp] theorem dAbs_int {i} : dAbs (.int i) M = .ok (.int (if i < 0 then -i else i)) M := Eq.trans rfl rfl
@[simp] theorem dToInt_int {i} : dToInt (.int i) M = .ok (.int i) M := Eq.trans rfl rfl
@[simp] theorem dRev_tup {xs} : dRev (.tup xs) M = .ok (.tup xs.reverse) M := Eq.trans rfl rfl
@[simp] theorem dIsN_non : dIsN .non .non M = .ok (.bl true) M := Eq.trans rfl rfl
@[simp] theorem dIsN_int {i} : dIsN (.int i) .non M = .ok (.bl false) M := Eq.trans rfl rfl
@[simp] theorem dNotN_non : dNotN .non .non M = .ok (.bl false) M := Eq.trans rfl rfl
@[simp] theorem dNotN_int {i} : dNotN (.int i) .non M = .ok (.bl true) M := Eq.trans rfl rfl
/-! slices -/
@[simp] theorem sSlice_1 {a l} : sSlice a (some l) none κ ρ M = (a κ ρ M).bind fun x M => (l κ ρ M).bind fun i M => (match i with | .int i => dCut (some i) none x M | _ => .bad) := Eq.trans rfl rfl
@[simp] theorem sSlice_2 {a h} : sSlice a none (some h) κ ρ M = (a κ ρ M).bind fun x M => (h κ ρ M).bind fun j M => (match j with | .int j => dCut none (some j) x M | _ => .bad) := Eq.trans rfl rfl
@[simp] theorem dCut_tup {lo hi xs} : dCut lo hi (.tup xs) M = .ok (.tup (cut xs lo hi)) M := Eq.trans rfl rfl
@[simp] theorem dCut_kst {lo hi ns} : dCut lo hi (.kst ns) M = alloc (.lst ((cut ns lo hi).map .int)) M := Eq.trans rfl rfl
theorem cut_from {α : Type} (xs : List α) (k : Nat) : cut xs (some (k : Int)) none = xs.drop k := by
  unfold cut HT.sIx
  have h0 : ¬ ((k : Int) < 0) := by omega
  simp only [h0, if_false, Int.toNat_natCast]
  by_cases h : k ≤ xs.length
  · rw [Nat.min_eq_left h, List.take_of_length_le (by simp)]
  · rw [Nat.min_eq_right (by omega), Nat.sub_self, List.take_zero, List.drop_eq_nil_of_le (by omega)]
@[simp] theorem cut_1 {α : Type} {x : α} {xs : List α} : cut (x :: xs) (some 1) none = xs := cut_from (x :: xs) 1
theorem cut_to {α : Type} (xs : List α) (k : Nat) : cut xs none (some (k : Int)) = xs.take k := by
  unfold cut HT.sIx
  have h0 : ¬ ((k : Int) < 0) := by omega
  simp only [h0, if_false, Int.toNat_natCast, List.drop_zero, Nat.sub_zero]
  by_cases h : k ≤ xs.length
  · rw [Nat.min_eq_left h]
  · rw [Nat.min_eq_right (by omega), List.take_of_length_le (Nat.le_refl _), List.take_of_length_le (by omega)]
/-! the memory -/
@[simp] theorem get_new {l : Mem} {i : Nat} : (M ++ l)[M.length + i]? = l[i]? := by rw [List.getElem?_append_right (by omega)]; congr 1; omega
@[simp] theorem get_new0 {l : Mem} : (M ++ l)[M.length]? = l[0]? := get_new (i := 0)
@[simp] theorem set_new {l : Mem} {i : Nat} {o} : (M ++ l).set (M.length + i) o = M ++ l.set i o := by rw [List.set_append_right _ _ (by omega)]; congr 2; omega
@[simp] theorem set_new0 {l : Mem} {o} : (M ++ l).set M.length o = M ++ l.set 0 o := set_new (i := 0)
@[simp] theorem take_new {l : Mem} {i : Nat} : (M ++ l).take (M.length + i) = M ++ l.take i := by rw [List.take_append, List.take_of_length_le (by omega)]; congr 2; omega
@[simp] theorem take_new0 {l : Mem} : (M ++ l).take M.length = M := by simp
theorem gcM_lt {k d} (h : D.lt k d = true) : gcM k d M = (d, M.take k) := by simp [gcM, h]
theorem gcM_loc {k n o} (h : k ≤ n) (ho : M[n]? = some o) (hl : o.lt k = true) : gcM k (.loc n) M = (.loc k, M.take k ++ [o]) := by
  have : ¬ n < k := by omega
  simp [gcM, D.lt, this, ho, hl]
theorem gcM_locE {k n} : gcM k (.loc n) M = (if n < k then (.loc n, M.take k) else match M[n]? with
    | some o => if o.lt k = true then (.loc k, M.take k ++ [o]) else (.loc n, M)
    | none => (.loc n, M)) := by
  by_cases h : n < k
  · simp [gcM, D.lt, h]
  · simp only [gcM, D.lt, h, decide_false, if_false, Bool.false_eq_true]
    try (cases M[n]? <;> rfl)
theorem gcM_tupF {k xs} (h : D.ltL k xs = false) : gcM k (.tup xs) M = (.tup xs, M) := by simp [gcM, D.lt, h]
theorem gcM_new {o} (hl : MO.lt M.length o = true) : gcM M.length (.loc M.length) (M ++ [o]) = (.loc M.length, M ++ [o]) := by rw [gcM_loc (Nat.le_refl _) (by simp) hl]; simp
@[simp] theorem lt_tup {k xs} : D.lt k (.tup xs) = D.ltL k xs := by unfold D.lt; exact Eq.trans rfl rfl
@[simp] theorem lt_loc {k n} : D.lt k (.loc n) = decide (n < k) := by unfold D.lt; exact Eq.trans rfl rfl
@[simp] theorem lt_int {k i} : D.lt k (.int i) = true := by unfold D.lt; exact Eq.trans rfl rfl
@[simp] theorem lt_str {k i} : D.lt k (.str i) = true := by unfold D.lt; exact Eq.trans rfl rfl
@[simp] theorem lt_bl {k i} : D.lt k (.bl i) = true := by unfold D.lt; exact Eq.trans rfl rfl
@[simp] theorem lt_non {k} : D.lt k .non = true := by unfold D.lt; exact Eq.trans rfl rfl
@[simp] theorem lt_fn {k f} : D.lt k (.fn f) = true := by unfold D.lt; exact Eq.trans rfl rfl
@[simp] theorem ltL_nil {k} : D.ltL k [] = true := by unfold D.ltL; exact Eq.trans rfl rfl
@[simp] theorem ltL_cons {k d ds} : D.ltL k (d :: ds) = (d.lt k && D.ltL k ds) := by rw [D.ltL]
theorem ltL_all {k} : ∀ {ds : List D}, (∀ d ∈ ds, d.lt k = true) → D.ltL k ds = true
  | [], _ => rfl
  | d :: ds, h => by rw [ltL_cons, h d List.mem_cons_self, ltL_all (ds := ds) fun x hx => h x (List.mem_cons_of_mem _ hx)]; rfl
@[simp] theorem ltL_app {k} : ∀ {xs ys : List D}, D.ltL k (xs ++ ys) = (D.ltL k xs && D.ltL k ys)
  | [], _ => by simp
  | x :: xs, _ => by simp [ltL_app (xs := xs), Bool.and_assoc]
@[simp] theorem ltL_rev {k} : ∀ {xs : List D}, D.ltL k xs.reverse = D.ltL k xs
  | [] => rfl
  | x :: xs => by simp [ltL_rev (xs := xs), Bool.and_comm]
@[simp] theorem nlt_add {a i : Nat} : (a + i < a) = False := by simp
mutual
theorem lt_up {k j : Nat} (h : k ≤ j) : ∀ d : D, D.lt k d = true → D.lt j d = true
  | .non, _ => by simp
  | .bl b, _ => by simp
  | .int i, _ => by simp
  | .str s, _ => by simp
  | .tup xs, hd => by rw [lt_tup] at hd ⊢; exact ltL_up h xs hd
  | .loc n, hd => by simp at hd ⊢; omega
  | .fn _, _ => by simp
  | .kd _, _ => by unfold D.lt; rfl
  | .kst _, _ => by unfold D.lt; rfl
theorem ltL_up {k j : Nat} (h : k ≤ j) : ∀ ds : List D, D.ltL k ds = true → D.ltL j ds = true
  | [], _ => rfl
  | d :: ds, hd => by
    rw [ltL_cons, Bool.and_eq_true] at hd ⊢
    exact ⟨lt_up h d hd.1, ltL_up h ds hd.2⟩
end
/-! statements -/
@[simp] theorem pNil_eq : pNil κ ρ M = .nx ρ M := Eq.trans rfl rfl
@[simp] theorem pSeq_eq {a b} : pSeq a b κ ρ M = (a κ ρ M).bind (b κ) := Eq.trans rfl rfl
@[simp] theorem pIf_eq {c a b} : pIf c a b κ ρ M = brS ρ (c κ ρ M) (fun M' => a κ ρ (M'.take M.length)) (fun M' => b κ ρ (M'.take M.length)) := Eq.trans rfl rfl
@[simp] theorem pSet_eq {i e} : pSet i e κ ρ M = ofOut ρ (e κ ρ M) fun d M' => .nx (ρ.set i (some (gcM M.length d M').1)) (gcM M.length d M').2 := Eq.trans rfl rfl
def tgB (o : Option Env) (f : Env → SOut) : SOut := match o with | some ρ => f ρ | none => .bad
@[simp] theorem tgB_some {ρ f} : tgB (some ρ) f = f ρ := Eq.trans rfl rfl
@[simp] theorem pTup_eq {is e} : pTup is e κ ρ M = ofOut ρ (e κ ρ M) fun d M' => tgB ((Tg.tup is).set (gcM M.length d M').1 ρ) fun ρ' => .nx ρ' (gcM M.length d M').2 := Eq.trans rfl rfl
@[simp] theorem setN_eq {i d} : (Tg.name i).set d ρ = some (ρ.set i (some d)) := Eq.trans rfl rfl
@[simp] theorem setT_eq {is ds} : (Tg.tup is).set (.tup ds) ρ = setAll is ds ρ := Eq.trans rfl rfl
@[simp] theorem setAll_nil : setAll [] [] ρ = some ρ := Eq.trans rfl rfl
@[simp] theorem setAll_cons {i is d ds} : setAll (i :: is) (d :: ds) ρ = setAll is ds (ρ.set i (some d)) := Eq.trans rfl rfl
@[simp] theorem pAug_eq {f i e} : pAug f i e κ ρ M = (match ρ[i]? with | some (some x) => ofOut ρ (e κ ρ M) fun y M1 => ofOut ρ (f x y M1) fun d M' => .nx (ρ.set i (some (gcM M.length d M').1)) (gcM M.length d M').2 | _ => .bad) := Eq.trans rfl rfl
@[simp] theorem pRet_eq {e} : pRet e κ ρ M = ofOut ρ (e κ ρ M) fun d M' => .rt d M' := Eq.trans rfl rfl
@[simp] theorem pDrop_eq {e} : pDrop e κ ρ M = ofOut ρ (e κ ρ M) fun _ M' => .nx ρ (M'.take M.length) := Eq.trans rfl rfl
@[simp] theorem pRaise0_eq {c} : pRaise0 c κ ρ M = .exc ⟨c, []⟩ ρ M := Eq.trans rfl rfl
def memB (ρ : Env) (k : Nat) (o : Option Mem) : SOut := match o with | some M4 => .nx ρ (M4.take k) | none => .bad
@[simp] theorem memB_some {k} : memB ρ k (some M) = .nx ρ (M.take k) := Eq.trans rfl rfl
@[simp] theorem pPut_eq {o i e} : pPut o i e κ ρ M = ofOut ρ (e κ ρ M) fun v M1 => ofOut ρ (o κ ρ M1) fun x M2 => ofOut ρ (i κ ρ M2) fun k M3 => memB ρ M.length (dPut x k v M3) := Eq.trans rfl rfl
@[simp] theorem wipe_nil : wipeE ρ [] = ρ := Eq.trans rfl rfl
@[simp] theorem wipe_cons {v vs} : wipeE ρ (v :: vs) = (wipeE ρ vs).set v none := Eq.trans rfl rfl
/-! walks -/
def iB (o : IOut) (f : List D → Option Nat → Mem → Out) : Out := match o with
  | .ok xs s M => f xs s M
  | .exc x M => .exc x M
  | .bad => .bad
def iS (ρ : Env) (o : IOut) (f : List D → Option Nat → Mem → SOut) : SOut := match o with
  | .ok xs s M => f xs s M
  | .exc x M => .exc x ρ M
  | .bad => .bad
@[simp] theorem iB_ok {xs s f} : iB (.ok xs s M) f = f xs s M := Eq.trans rfl rfl
@[simp] theorem iB_exc {x f} : iB (.exc x M) f = .exc x M := Eq.trans rfl rfl
@[simp] theorem iS_ok {xs s f} : iS ρ (.ok xs s M) f = f xs s M := Eq.trans rfl rfl
@[simp] theorem iS_exc {x f} : iS ρ (.exc x M) f = .exc x ρ M := Eq.trans rfl rfl
def iG (f : D → Nat → Mem → IOut) (k : Nat) (o : Out) : IOut := match o with
  | .ok d M' => f d k M'
  | .exc x M' => .exc x M'
  | .bad => .bad
@[simp] theorem iG_ok {f k d} : iG f k (.ok d M) = f d k M := Eq.trans rfl rfl
@[simp] theorem iG_exc {f k x} : iG f k (.exc x M) = .exc x M := Eq.trans rfl rfl
@[simp] theorem iOf_eq {a} : iOf a κ ρ M = iG ofF M.length (a κ ρ M) := Eq.trans rfl rfl
@[simp] theorem iR1_eq {a} : iR1 a κ ρ M = iG r1F M.length (a κ ρ M) := Eq.trans rfl rfl
@[simp] theorem iR2_eq {a} : iR2 a κ ρ M = iG r2F M.length (a κ ρ M) := Eq.trans rfl rfl
@[simp] theorem iR3_eq {a} : iR3 a κ ρ M = iG r3F M.length (a κ ρ M) := Eq.trans rfl rfl
@[simp] theorem iZip_eq {a} : iZip a κ ρ M = iG zipF M.length (a κ ρ M) := Eq.trans rfl rfl
@[simp] theorem ofF_tup {xs k} : ofF (.tup xs) k M = .ok xs none (if D.ltL k xs = true then M.take k else M) := by
  unfold ofF; by_cases h : D.ltL k xs = true <;> simp [D.items, h, lockD]
theorem ltL_str {k} : ∀ s : List Nat, D.ltL k (s.map fun c => .str [c]) = true
  | [] => rfl
  | _ :: s => by simp [ltL_str s]
@[simp] theorem ofF_str {s k} : ofF (.str s) k M = .ok (s.map fun c => .str [c]) none (M.take k) := by
  unfold ofF; simp [D.items, ltL_str, lockD]
/-- a list that is new -/
theorem ofF_new {a k xs} (ha : k ≤ a) (h : rdL M a = some xs) (hl : D.ltL k xs = true) : ofF (.loc a) k M = .ok xs none (M.take k) := by
  have : ¬ a < k := by omega
  unfold ofF; simp [D.items, h, hl, lockD, this]
/-- a list that is older -/
theorem ofF_old {a k xs} (ha : a < k) (hk : (M.take k)[a]? = some (.lst xs)) (hl : D.ltL k xs = true) : ofF (.loc a) k M = .ok xs (some a) ((M.take k).set a (.lck xs)) := by
  have h : M[a]? = some (.lst xs) := by rw [List.getElem?_take] at hk; simpa [ha] using hk
  unfold ofF; simp [D.items, rdL, h, MO.rd, hl, lockD, ha, lockAt, hk]
@[simp] theorem r1F_eq {j k} : r1F (.tup [.int j]) k M = if -(2 ^ 62) ≤ j ∧ j < 2 ^ 62 then .ok (rangeD 0 1 j.toNat) none (M.take k) else .bad := Eq.trans rfl rfl
@[simp high] theorem r1F_nat {k K : Nat} (h : k ≤ 16777216) : r1F (.tup [.int k]) K M = .ok (rangeD 0 1 k) none (M.take K) := by
  rw [r1F_eq, if_pos, Int.toNat_natCast]
  exact ⟨Int.le_trans (by decide) (Int.natCast_nonneg k), Int.lt_of_le_of_lt (Int.ofNat_le.mpr h) (by decide)⟩
@[simp] theorem r2F_eq {i j k} : r2F (.tup [.int i, .int j]) k M = if -(2 ^ 62) ≤ i ∧ i < 2 ^ 62 ∧ -(2 ^ 62) ≤ j ∧ j < 2 ^ 62 then .ok (rangeD i 1 (j - i).toNat) none (M.take k) else .bad := Eq.trans rfl rfl
@[simp] theorem r3F_eq {i j c k} : r3F (.tup [.int i, .int j, .int c]) k M = if c = -1 ∧ -(2 ^ 60) ≤ i ∧ i < 2 ^ 60 ∧ -(2 ^ 60) ≤ j ∧ j < 2 ^ 60 then .ok (rangeD i (-1) (i - j).toNat) none (M.take k) else .bad := Eq.trans rfl rfl
@[simp] theorem zipF_tt {xs ys k} : zipF (.tup [.tup xs, .tup ys]) k M = if D.ltL k xs && D.ltL k ys then .ok (zipD xs ys) none (M.take k) else .bad := Eq.trans rfl rfl
@[simp] theorem zip_cons {x xs y ys} : zipD (x :: xs) (y :: ys) = .tup [x, y] :: zipD xs ys := Eq.trans rfl rfl
@[simp] theorem zip_nil {ys} : zipD [] ys = [] := by cases ys <;> rfl
@[simp] theorem range_0 {a c} : rangeD a c 0 = [] := Eq.trans rfl rfl
theorem range_s {a c n} : rangeD a c (n + 1) = .int a :: rangeD (a + c) c n := by
  simp only [rangeD, List.range_succ_eq_map, List.map_cons, List.map_map]
  congr 1
  · simp
  · apply List.map_congr_left; intro i _; simp only [Function.comp, Nat.succ_eq_add_one]; congr 1; rw [Int.natCast_add, Int.add_mul]; omega
@[simp] theorem range_1 {a c} : rangeD a c 1 = [.int a] := range_s
@[simp] theorem range_2 {a c} : rangeD a c 2 = [.int a, .int (a + c)] := by rw [range_s, range_1]
@[simp] theorem range_3 {a c} : rangeD a c 3 = [.int a, .int (a + c), .int (a + c + c)] := by rw [range_s, range_2]
theorem range_lt {k a c n} : D.ltL k (rangeD a c n) = true := ltL_all fun d h => by
  simp only [rangeD, List.mem_map] at h; obtain ⟨_, _, rfl⟩ := h; rfl
/-! comprehensions -/
def finC (src : Option Nat) (o : COut) : Out := match o with
  | .ok ds M2 => match unlock src M2 with
    | some M3 => alloc (.lst ds) M3
    | none => .bad
  | .bad => .bad
@[simp] theorem finC_n {ds} : finC none (.ok ds M) = .ok (.loc M.length) (M ++ [.lst ds]) := Eq.trans rfl rfl
theorem finC_s {ds a xs} (h : M[a]? = some (.lck xs)) : finC (some a) (.ok ds M) = .ok (.loc M.length) (M.set a (.lst xs) ++ [.lst ds]) := by simp [finC, unlock, h]
@[simp] theorem sComp_eq {own t it cond elt} : sComp own t it cond elt κ ρ M = iB (it κ ρ M) fun xs src M1 => finC src (compGo κ (wipeE ρ own) t cond elt xs [] M1) := by
  unfold sComp iB
  cases it κ ρ M with
  | ok xs src M1 => simp only []; unfold finC; cases compGo κ (wipeE ρ own) t cond elt xs [] M1 <;> rfl
  | exc x M => rfl
  | bad => rfl
def cB (o : Out) (f : D → Mem → COut) : COut := match o with | .ok d M => f d M | _ => .bad
@[simp] theorem cB_ok {d f} : cB (.ok d M) f = f d M := Eq.trans rfl rfl
def cT (o : Option Env) (f : Env → COut) : COut := match o with | some ρ => f ρ | none => .bad
@[simp] theorem cT_some {f} : cT (some ρ) f = f ρ := Eq.trans rfl rfl
@[simp] theorem comp_nil {t cond elt acc} : compGo κ ρ t cond elt [] acc M = .ok acc M := Eq.trans rfl rfl
@[simp] theorem comp_cons {t elt x xs acc} : compGo κ ρ t none elt (x :: xs) acc M = cT (t.set x ρ) fun ρ' => cB (elt κ ρ' M) fun d M2 => if acc.length < 16777216 then compGo κ ρ t none elt xs (acc ++ [(gcM M.length d M2).1]) (gcM M.length d M2).2 else .bad := by
  rw [compGo]
  unfold cT cB
  cases t.set x ρ with
  | none => rfl
  | some ρ' => simp only [condOk, List.take_length]; try (cases elt κ ρ' M <;> rfl)
theorem comp_map {t elt} (g : D → D) : ∀ (xs acc : List D), (∀ x ∈ xs, ∃ ρ' M', t.set x ρ = some ρ' ∧ elt κ ρ' M = .ok (g x) M' ∧ M'.take M.length = M ∧ (g x).lt M.length = true) → acc.length + xs.length ≤ 16777216 → compGo κ ρ t none elt xs acc M = .ok (acc ++ xs.map g) M
  | [], acc, _, _ => by simp
  | x :: xs, acc, h, hl => by
    obtain ⟨ρ', M', h1, h2, h3, h4⟩ := h x (by simp)
    simp only [List.length_cons] at hl
    have : acc.length < 16777216 := by omega
    rw [comp_cons, h1, cT_some, h2, cB_ok, if_pos this, gcM_lt h4]
    show compGo κ ρ t none elt xs (acc ++ [g x]) (M'.take M.length) = _
    rw [h3, comp_map g xs (acc ++ [g x]) (fun y hy => h y (by simp [hy])) (by simp; omega)]
    simp
theorem comp_filter {t c elt} (p : D → Bool) (g : D → D) : ∀ (xs acc : List D), (∀ x ∈ xs, ∃ ρ' M1, t.set x ρ = some ρ' ∧ c κ ρ' M = .ok (.bl (p x)) M1 ∧ M1.take M.length = M ∧ (p x = true → ∃ M', elt κ ρ' M = .ok (g x) M' ∧ M'.take M.length = M ∧ (g x).lt M.length = true)) → acc.length + xs.length ≤ 16777216 → compGo κ ρ t (some c) elt xs acc M = .ok (acc ++ (xs.filter p).map g) M
  | [], acc, _, _ => by simp
  | x :: xs, acc, h, hl => by
    obtain ⟨ρ', M1, h1, h2, h3, h4⟩ := h x (by simp)
    simp only [List.length_cons] at hl
    have : acc.length < 16777216 := by omega
    unfold compGo
    rw [h1]
    simp only [condOk]
    rw [h2]
    cases hp : p x with
    | true =>
      obtain ⟨M', h5, h6, h7⟩ := h4 hp
      simp only [h3]
      rw [h5]
      simp only [if_pos this]
      rw [gcM_lt h7]
      simp only []
      rw [h6, comp_filter p g xs (acc ++ [g x]) (fun y hy => h y (by simp [hy])) (by simp; omega)]
      simp [hp]
    | false =>
      simp only [h3]
      rw [comp_filter p g xs acc (fun y hy => h y (by simp [hy])) (by omega)]
      simp [hp]
theorem comp_mapA {α : Type} {t elt} (e g : α → D) : ∀ (xs : List α) (acc : List D), (∀ x ∈ xs, ∃ ρ' M', t.set (e x) ρ = some ρ' ∧ elt κ ρ' M = .ok (g x) M' ∧ M'.take M.length = M ∧ (g x).lt M.length = true) → acc.length + xs.length ≤ 16777216 → compGo κ ρ t none elt (xs.map e) acc M = .ok (acc ++ xs.map g) M
  | [], acc, _, _ => by simp
  | x :: xs, acc, h, hl => by
    obtain ⟨ρ', M', h1, h2, h3, h4⟩ := h x (by simp)
    simp only [List.length_cons] at hl
    have : acc.length < 16777216 := by omega
    rw [List.map_cons, comp_cons, h1, cT_some, h2, cB_ok, if_pos this, gcM_lt h4]
    show compGo κ ρ t none elt (xs.map e) (acc ++ [g x]) (M'.take M.length) = _
    rw [h3, comp_mapA e g xs (acc ++ [g x]) (fun y hy => h y (by simp [hy])) (by simp; omega)]
    simp
theorem comp_filterA {α : Type} {t c elt} (e g : α → D) (p : α → Bool) : ∀ (xs : List α) (acc : List D), (∀ x ∈ xs, ∃ ρ' M1, t.set (e x) ρ = some ρ' ∧ c κ ρ' M = .ok (.bl (p x)) M1 ∧ M1.take M.length = M ∧ (p x = true → ∃ M', elt κ ρ' M = .ok (g x) M' ∧ M'.take M.length = M ∧ (g x).lt M.length = true)) → acc.length + xs.length ≤ 16777216 → compGo κ ρ t (some c) elt (xs.map e) acc M = .ok (acc ++ (xs.filter p).map g) M
  | [], acc, _, _ => by simp
  | x :: xs, acc, h, hl => by
    obtain ⟨ρ', M1, h1, h2, h3, h4⟩ := h x (by simp)
    simp only [List.length_cons] at hl
    have : acc.length < 16777216 := by omega
    rw [List.map_cons]
    unfold compGo
    rw [h1]
    simp only [condOk]
    rw [h2]
    cases hp : p x with
    | true =>
      obtain ⟨M', h5, h6, h7⟩ := h4 hp
      simp only [h3]
      rw [h5]
      simp only [if_pos this]
      rw [gcM_lt h7]
      simp only []
      rw [h6, comp_filterA e g p xs (acc ++ [g x]) (fun y hy => h y (by simp [hy])) (by simp; omega)]
      simp [hp]
    | false =>
      simp only [h3]
      rw [comp_filterA e g p xs acc (fun y hy => h y (by simp [hy])) (by omega)]
      simp [hp]
/-! loops -/
def loopB (o : SOut) (f : Env → Mem → SOut) : SOut := match o with
  | .nx ρ2 M2 => f ρ2 M2
  | .ct ρ2 M2 => f ρ2 M2
  | .bk ρ2 M2 => .nx ρ2 M2
  | o => o
@[simp] theorem loopB_nx {f} : loopB (.nx ρ M) f = f ρ M := Eq.trans rfl rfl
@[simp] theorem loopB_ct {f} : loopB (.ct ρ M) f = f ρ M := Eq.trans rfl rfl
@[simp] theorem loopB_bk {f} : loopB (.bk ρ M) f = .nx ρ M := Eq.trans rfl rfl
@[simp] theorem loopB_rt {d f} : loopB (.rt d M) f = .rt d M := Eq.trans rfl rfl
@[simp] theorem loopB_exc {x f} : loopB (.exc x ρ M) f = .exc x ρ M := Eq.trans rfl rfl
@[simp] theorem for_nil {t body} : forGo κ t body [] ρ M = .nx ρ M := Eq.trans rfl rfl
theorem for_cons {t body x xs} : forGo κ t body (x :: xs) ρ M = tgB (t.set x ρ) fun ρ1 => loopB (body κ ρ1 M) (forGo κ t body xs) := by
  show (match t.set x ρ with | none => _ | some ρ1 => _) = _
  unfold tgB
  cases t.set x ρ with
  | none => rfl
  | some ρ1 => simp only [loopB]; try (cases body κ ρ1 M <;> rfl)
@[simp] theorem unlockS_n {o} : unlockS none o = o := by cases o <;> rfl
@[simp] theorem pFor_eq {t it body} : pFor t it body κ ρ M = iS ρ (it κ ρ M) fun xs src M1 => unlockS src (forGo κ t body xs ρ M1) := Eq.trans rfl rfl
@[simp] theorem pWhile_eq {c body} : pWhile c body κ ρ M = whileGo κ c body κ.wf ρ M := Eq.trans rfl rfl
theorem while_s {c body n} : whileGo κ c body (n + 1) ρ M = brS ρ (c κ ρ M) (fun M' => loopB (body κ ρ (M'.take M.length)) (whileGo κ c body n)) (fun M' => .nx ρ (M'.take M.length)) := by
  show ofOut ρ (c κ ρ M) _ = ofOut ρ (c κ ρ M) _
  apply congrArg
  funext x M'
  rcases x with _ | (_ | _) | _ | _ | _ | _ | _ | _ | _ <;> first | rfl | (simp only [loopB]; cases body κ ρ (M'.take M.length) <;> rfl)
/-! lists in the memory -/
@[simp] theorem intsOf_nil : intsOf [] = some [] := Eq.trans rfl rfl
@[simp] theorem intsOf_cons {i r} : intsOf (.int i :: r) = (intsOf r).map (i :: ·) := Eq.trans rfl rfl
@[simp] theorem intsOf_map : ∀ ns : List Int, intsOf (ns.map .int) = some ns
  | [] => rfl
  | n :: ns => by simp [intsOf_map ns]
@[simp] theorem blsOf_nil : blsOf [] = some [] := Eq.trans rfl rfl
@[simp] theorem blsOf_cons {i r} : blsOf (.bl i :: r) = (blsOf r).map (i :: ·) := Eq.trans rfl rfl
@[simp] theorem blsOf_map : ∀ ns : List Bool, blsOf (ns.map .bl) = some ns
  | [] => rfl
  | n :: ns => by simp [blsOf_map ns]
@[simp] theorem blsOf_mapc {α : Type} (f : α → Bool) (l : List α) : blsOf (l.map (D.bl ∘ f)) = some (l.map f) := by rw [← List.map_map]; exact blsOf_map _
@[simp] theorem intsOf_mapc {α : Type} (f : α → Int) (l : List α) : intsOf (l.map (D.int ∘ f)) = some (l.map f) := by rw [← List.map_map]; exact intsOf_map _
@[simp] theorem dSum_loc {a} : dSum (.loc a) M = oB ((rdL M a).bind intsOf) fun ns => .ok (.int ns.sum) M := by simp only [dSum, lstAt, oB]; cases (rdL M a).bind intsOf <;> rfl
@[simp] theorem dAll_loc {a} : dAll (.loc a) M = oB ((rdL M a).bind blsOf) fun ns => .ok (.bl (ns.all id)) M := by simp only [dAll, lstAt, oB]; cases (rdL M a).bind blsOf <;> rfl
@[simp] theorem dAny_loc {a} : dAny (.loc a) M = oB ((rdL M a).bind blsOf) fun ns => .ok (.bl (ns.any id)) M := by simp only [dAny, lstAt, oB]; cases (rdL M a).bind blsOf <;> rfl
def mxB (o : Option (List Int)) (M : Mem) : Out := match o with
  | some (n :: r) => .ok (.int (maxI (n :: r))) M
  | _ => .bad
@[simp] theorem dMax_loc {a} : dMax [.loc a] M = mxB ((rdL M a).bind intsOf) M := Eq.trans rfl rfl
@[simp] theorem mxB_cons {n r} : mxB (some (n :: r)) M = .ok (.int (maxI (n :: r))) M := Eq.trans rfl rfl
theorem mxB_ne {l} (h : l ≠ []) : mxB (some l) M = .ok (.int (maxI l)) M := by
  cases l with
  | nil => exact absurd rfl h
  | cons n r => rfl
@[simp] theorem maxI_1 {n} : maxI [n] = n := Eq.trans rfl rfl
@[simp] theorem maxI_2 {n m r} : maxI (n :: m :: r) = max n (maxI (m :: r)) := Eq.trans rfl rfl
@[simp] theorem dAdd_loc {a b} : dAdd (.loc a) (.loc b) M = (match ownL M a, ownL M b with
    | some xs, some ys => if xs.length + ys.length ≤ 16777216 then alloc (.lst (xs ++ ys)) M else .bad
    | _, _ => .bad) := Eq.trans rfl rfl
theorem dIn_loc {x a ys} (h : rdL M a = some ys) (hx : x.flat = true) (hy : D.flatL ys = true) (hd : D.depL ys ≤ 150) : dInB T x (.loc a) M = .ok (.bl (ys.any fun z => z.eqv x)) M := by
  have e : dIn T x (.loc a) M = some (ys.any fun z => z.eqv x) := by
    cases x <;> first | (simp [D.flat] at hx; done) | (simp [dIn, h, hx, hy, hd]; done)
  simp [dInB, e]
theorem dIn_kd {s n} : dIn T (.str s) (.kd n) M = (kget T n s).map (·.isSome) := by
  rcases s with _ | ⟨c, _ | ⟨d, s⟩⟩ <;> rfl
@[simp] theorem dNotIn_kd {s n} : dNotInB T (.str s) (.kd n) M = (match (kget T n s).map (·.isSome) with | some b => .ok (.bl !b) M | none => .bad) := by simp only [dNotInB, dIn_kd]; try (cases (kget T n s).map (·.isSome) <;> rfl)
@[simp] theorem dIn_ch {c t} : dInB T (.str [c]) (.str t) M = .ok (.bl (decide (c ∈ t))) M := Eq.trans rfl rfl
@[simp] theorem dNotIn_ch {c t} : dNotInB T (.str [c]) (.str t) M = .ok (.bl !(decide (c ∈ t))) M := Eq.trans rfl rfl
@[simp] theorem dCut_str {lo hi s} : dCut lo hi (.str s) M = if s.length ≤ 16777216 then .ok (.str (cut s lo hi)) M else .bad := Eq.trans rfl rfl
@[simp] theorem dSorted_loc {a} : dSorted (.loc a) M = (match rdL M a, rdK M a with
    | some xs, _ => sortD xs M
    | none, some kvs => if kvs.length < 64 then sortD (kvs.map (·.1)) M else .bad
    | none, none => .bad) := Eq.trans rfl rfl
theorem sortD_int {ns : List Int} : sortD (ns.map .int) M = alloc (.lst ((sortI ns).map .int)) M := by simp [sortD]
@[simp] theorem strsOf_map : ∀ ns : List (List Nat), strsOf (ns.map .str) = some ns
  | [] => rfl
  | n :: ns => by simp [strsOf, strsOf_map ns]
theorem sortD_str {ns : List (List Nat)} (hn : ns ≠ []) (h : ns.length < 64) : sortD (ns.map .str) M = alloc (.lst ((sortS ns).map .str)) M := by
  have : intsOf (ns.map .str) = none := by cases ns with | nil => exact absurd rfl hn | cons a b => rfl
  simp [sortD, this, h]
@[simp] theorem dRev_loc {a} : dRev (.loc a) M = oB (rdL M a) fun xs => alloc (.lst xs.reverse) M := by simp only [dRev, oB]; cases rdL M a <;> rfl
@[simp] theorem dAppend_eq {a d} : dAppend [.loc a, d] M = (match M[a]? with
    | some (.lst xs) => if d.lt a && decide (xs.length < 16777216) then .ok .non (M.set a (.lst (xs ++ [d]))) else .bad
    | _ => .bad) := Eq.trans rfl rfl
@[simp] theorem dExtend_eq {a b} : dExtend [.loc a, .loc b] M = (match M[a]?, ownL M b with
    | some (.lst xs), some ys => if D.ltL a ys && decide (xs.length + ys.length ≤ 16777216) then .ok .non (M.set a (.lst (xs ++ ys))) else .bad
    | _, _ => .bad) := Eq.trans rfl rfl
@[simp] theorem dPop_eq {a} : dPop [.loc a] M = (match M[a]? with
    | some (.lst xs) => match xs.getLast? with
      | some d => .ok d (M.set a (.lst xs.dropLast))
      | none => .bad
    | _ => .bad) := Eq.trans rfl rfl
@[simp] theorem pRaise_eq {c fs d0 as} : pRaise c fs d0 as κ ρ M = if 2 ≤ κ.lev then ofOut ρ (as κ ρ M) fun ds M' => (match ds with
  | .tup l => if (l ++ d0).length = fs.length ∧ fs.length ≤ 9 ∧ D.ltL 0 (l ++ d0) = true then .exc ⟨c, fs.zip (l ++ d0)⟩ ρ M' else .bad
  | _ => .bad) else .bad := rfl
def oI {α : Type} (o : Option α) (f : α → IOut) : IOut := match o with | some x => f x | none => .bad
@[simp] theorem oI_some {α : Type} {x : α} {f} : oI (some x) f = f x := Eq.trans rfl rfl
theorem ofF_loc {a k} : ofF (.loc a) k M = oI (rdL M a) fun xs => if D.ltL k xs then .ok xs (lockD k (M.take k) (.loc a)).1 (lockD k (M.take k) (.loc a)).2 else .ok xs (lockD M.length M (.loc a)).1 (lockD M.length M (.loc a)).2 := by
  simp only [ofF, D.items, oI]; cases rdL M a <;> rfl
/-- a list that is new is walked as it is -/
@[simp] theorem ofF_nw {i} {l : Mem} : ofF (.loc (M.length + i)) M.length (M ++ l) = oI ((l[i]?).bind MO.rd) fun xs => if D.ltL M.length xs then .ok xs none M else .ok xs (lockD (M ++ l).length (M ++ l) (.loc (M.length + i))).1 (lockD (M ++ l).length (M ++ l) (.loc (M.length + i))).2 := by
  have h : ¬ (M.length + i < M.length) := by omega
  rw [ofF_loc]; simp [lockD, h]
@[simp] theorem ofF_nw0 {l : Mem} : ofF (.loc M.length) M.length (M ++ l) = oI ((l[0]?).bind MO.rd) fun xs => if D.ltL M.length xs then .ok xs none M else .ok xs (lockD (M ++ l).length (M ++ l) (.loc M.length)).1 (lockD (M ++ l).length (M ++ l) (.loc M.length)).2 := ofF_nw (i := 0)
@[simp] theorem unlockS_snx {a} : unlockS (some a) (.nx ρ M) = (match unlock (some a) M with | some M' => .nx ρ M' | none => .bad) := Eq.trans rfl rfl
@[simp] theorem unlockS_srt {a d} : unlockS (some a) (.rt d M) = (match unlock (some a) M with | some M' => .rt d M' | none => .bad) := Eq.trans rfl rfl
@[simp] theorem unlock_s {a} : unlock (some a) M = (match M[a]? with
    | some (.lck xs) => some (M.set a (.lst xs))
    | _ => none) := Eq.trans rfl rfl
@[simp] theorem finC_so {a ds} : finC (some a) (.ok ds M) = (match unlock (some a) M with
    | some M3 => alloc (.lst ds) M3
    | none => .bad) := Eq.trans rfl rfl
@[simp] theorem lockD_loc {k a} : lockD k M (.loc a) = if a < k then lockAt a M else (none, M) := Eq.trans rfl rfl
@[simp] theorem lockAt_eq {a} : lockAt a M = (match M[a]? with
    | some (.lst xs) => (some a, M.set a (.lck xs))
    | _ => (none, M)) := Eq.trans rfl rfl
@[simp] theorem dMul_str {xs j} : dMul (.str xs) (.int j) M = if xs.length * j.toNat ≤ 16777216 ∧ -(2 ^ 62) < j ∧ j < 2 ^ 62 then .ok (.str (List.replicate j.toNat xs).flatten) M else .bad := Eq.trans rfl rfl
/-! a def -/
def finS (k : Nat) (o : SOut) : Out := match o with
  | .rt d M' => .ok (gcM k d M').1 (gcM k d M').2
  | .nx _ M' => .ok .non (M'.take k)
  | .exc x _ M' => .exc x (M'.take k)
  | _ => .bad
@[simp] theorem finS_rt {k d} : finS k (.rt d M) = .ok (gcM k d M).1 (gcM k d M).2 := Eq.trans rfl rfl
@[simp] theorem finS_nx {k} : finS k (.nx ρ M) = .ok .non (M.take k) := Eq.trans rfl rfl
@[simp] theorem finS_exc {k x} : finS k (.exc x ρ M) = .exc x (M.take k) := Eq.trans rfl rfl
def envO : List D → Env
  | [] => []
  | d :: ds => some d :: envO ds
@[simp] theorem envO_nil : envO [] = [] := Eq.trans rfl rfl
@[simp] theorem envO_cons {d ds} : envO (d :: ds) = some d :: envO ds := Eq.trans rfl rfl
theorem envO_map : ∀ ds : List D, ds.map some = envO ds
  | [] => rfl
  | d :: ds => by rw [List.map_cons, envO_map ds]; rfl
@[simp] theorem runDef_eq {np ns body ds} (h : ds.length = np) : runDef ⟨np, ns, body⟩ κ ds M = finS M.length (body κ (envO ds ++ List.replicate (ns - ds.length) none) M) := by
  unfold runDef; rw [if_pos h]; unfold finS startE; rw [envO_map]; try rfl
end PK
end

section
set_option Elab.async false
set_option linter.all false
set_option maxHeartbeats 4000000
set_option maxRecDepth 100000
namespace PK.proofkernel_k00_whole_terms_places_and_p
open PK
/-! terms -/
inductive UF where | one | two
inductive BF where | pi | fn | ap | sg
inductive TF where | pr | lt
def ut : UF → List Nat
  | .one => [111, 110, 101]
  | .two => [116, 119, 111]
def bt : BF → List Nat
  | .pi => [112, 105]
  | .fn => [102, 117, 110]
  | .ap => [97, 112, 112]
  | .sg => [115, 105, 103]
def tt : TF → List Nat
  | .pr => [112, 97, 105, 114]
  | .lt => [108, 101, 116]
def bi : BF → Int
  | .ap => 0
  | _ => 1
def ti : TF → Int
  | .lt => 1
  | .pr => 0
inductive Tm where
  | pl (i : Int) | nm (s : List Nat) | so (i : Int) | u (f : UF) (a : Tm) | b (f : BF) (a b : Tm) | t (f : TF) (a b c : Tm)
def enc : Tm → D
  | .pl i => .tup [.str [97, 116], .int i]
  | .nm s => .tup [.str [110, 97, 109, 101], .str s]
  | .so i => .tup [.str [115, 111, 114, 116], .int i]
  | .u f a => .tup [.str (ut f), enc a]
  | .b f a b => .tup [.str (bt f), enc a, enc b]
  | .t f a b c => .tup [.str (tt f), enc a, enc b, enc c]
def kids : Tm → List Tm
  | .u _ a => [a]
  | .b _ a b => [a, b]
  | .t _ a b c => [a, b, c]
  | _ => []
def bnd : Tm → List Int
  | .u _ _ => [0]
  | .b f _ _ => [0, bi f]
  | .t f _ _ _ => [0, 0, ti f]
  | _ => []
@[simp] theorem kids_pl {i} : kids (.pl i) = [] := rfl
@[simp] theorem kids_nm {i} : kids (.nm i) = [] := rfl
@[simp] theorem kids_so {i} : kids (.so i) = [] := rfl
@[simp] theorem kids_u {f a} : kids (.u f a) = [a] := rfl
@[simp] theorem kids_b {f a b} : kids (.b f a b) = [a, b] := rfl
@[simp] theorem kids_t {f a b c} : kids (.t f a b c) = [a, b, c] := rfl
@[simp] theorem bnd_pl {i} : bnd (.pl i) = [] := rfl
@[simp] theorem bnd_nm {i} : bnd (.nm i) = [] := rfl
@[simp] theorem bnd_so {i} : bnd (.so i) = [] := rfl
@[simp] theorem bnd_u {f a} : bnd (.u f a) = [0] := rfl
@[simp] theorem bnd_b {f a b} : bnd (.b f a b) = [0, bi f] := rfl
@[simp] theorem bnd_t {f a b c} : bnd (.t f a b c) = [0, 0, ti f] := rfl
@[simp] def dp : Tm → Nat
  | .u _ a => dp a + 1
  | .b _ a b => max (dp a) (dp b) + 1
  | .t _ a b c => max (dp a) (max (dp b) (dp c)) + 1
  | _ => 0
@[simp] def sz : Tm → Nat
  | .u _ a => sz a + 1
  | .b _ a b => sz a + sz b + 1
  | .t _ a b c => sz a + sz b + sz c + 1
  | _ => 1
@[simp] theorem kg_at : kget tb 0 [97, 116] = some (some (.tup [])) := by rfl
@[simp] theorem kg_nm : kget tb 0 [110, 97, 109, 101] = some (some (.tup [])) := by rfl
@[simp] theorem kg_so : kget tb 0 [115, 111, 114, 116] = some (some (.tup [])) := by rfl
@[simp] theorem kg_u {f} : kget tb 0 (ut f) = some (some (.tup [.tup [.int 1, .int 0]])) := by cases f <;> rfl
@[simp] theorem kg_b {f} : kget tb 0 (bt f) = some (some (.tup [.tup [.int 1, .int 0], .tup [.int 2, .int (bi f)]])) := by cases f <;> rfl
@[simp] theorem kg_t {f} : kget tb 0 (tt f) = some (some (.tup [.tup [.int 1, .int 0], .tup [.int 2, .int 0], .tup [.int 3, .int (ti f)]])) := by cases f <;> rfl
@[simp] theorem u_at1 {f} : (ut f == [97, 116]) = false := by cases f <;> rfl
@[simp] theorem u_at2 {f} : ([97, 116] = ut f) = False := by cases f <;> simp [ut]
@[simp] theorem b_at1 {f} : (bt f == [97, 116]) = false := by cases f <;> rfl
@[simp] theorem b_at2 {f} : ([97, 116] = bt f) = False := by cases f <;> simp [bt]
@[simp] theorem t_at1 {f} : (tt f == [97, 116]) = false := by cases f <;> rfl
@[simp] theorem t_at2 {f} : ([97, 116] = tt f) = False := by cases f <;> simp [tt]
@[simp] theorem u_nm1 {f} : (ut f == [110, 97, 109, 101]) = false := by cases f <;> rfl
@[simp] theorem u_nm2 {f} : ([110, 97, 109, 101] = ut f) = False := by cases f <;> simp [ut]
@[simp] theorem b_nm1 {f} : (bt f == [110, 97, 109, 101]) = false := by cases f <;> rfl
@[simp] theorem b_nm2 {f} : ([110, 97, 109, 101] = bt f) = False := by cases f <;> simp [bt]
@[simp] theorem t_nm1 {f} : (tt f == [110, 97, 109, 101]) = false := by cases f <;> rfl
@[simp] theorem t_nm2 {f} : ([110, 97, 109, 101] = tt f) = False := by cases f <;> simp [tt]
@[simp] theorem u_so1 {f} : (ut f == [115, 111, 114, 116]) = false := by cases f <;> rfl
@[simp] theorem u_so2 {f} : ([115, 111, 114, 116] = ut f) = False := by cases f <;> simp [ut]
@[simp] theorem b_so1 {f} : (bt f == [115, 111, 114, 116]) = false := by cases f <;> rfl
@[simp] theorem b_so2 {f} : ([115, 111, 114, 116] = bt f) = False := by cases f <;> simp [bt]
@[simp] theorem t_so1 {f} : (tt f == [115, 111, 114, 116]) = false := by cases f <;> rfl
@[simp] theorem t_so2 {f} : ([115, 111, 114, 116] = tt f) = False := by cases f <;> simp [tt]
@[simp] theorem u_fr2 {f} : ([102, 114, 101, 101] = ut f) = False := by cases f <;> simp [ut]
@[simp] theorem b_fr2 {f} : ([102, 114, 101, 101] = bt f) = False := by cases f <;> simp [bt]
@[simp] theorem t_fr2 {f} : ([102, 114, 101, 101] = tt f) = False := by cases f <;> simp [tt]
@[simp] theorem u_ho2 {f} : ([104, 111, 108, 101] = ut f) = False := by cases f <;> simp [ut]
@[simp] theorem b_ho2 {f} : ([104, 111, 108, 101] = bt f) = False := by cases f <;> simp [bt]
@[simp] theorem t_ho2 {f} : ([104, 111, 108, 101] = tt f) = False := by cases f <;> simp [tt]
@[simp] theorem dIn_str {s ys M} : dInB tb (.str s) (.tup ys) M = (if D.flatL ys && decide (D.depL ys ≤ 150) then .ok (.bl (ys.any fun z => z.eqv (.str s))) M else .bad) := by
  rcases s with _ | ⟨c, _ | ⟨d, s⟩⟩ <;> simp only [dInB, dIn, D.flat, Bool.true_and] <;> split <;> first | rfl | (split <;> simp_all)
@[simp] theorem eqv_str {s t} : D.eqv (.str s) (.str t) = (s == t) := rfl
@[simp] theorem enc_lt (k : Nat) (t : Tm) : (enc t).lt k = true := by induction t <;> simp_all [enc]
theorem enc_flat (t : Tm) : (enc t).flat = true := by induction t <;> simp_all [enc, D.flat, D.flatL]
theorem enc_dep (t : Tm) : (enc t).dep = dp t + 1 := by induction t <;> simp_all [enc, D.dep, D.depL] <;> omega
/-- the first word -/
def tg : Tm → List Nat
  | .pl _ => [97, 116]
  | .nm _ => [110, 97, 109, 101]
  | .so _ => [115, 111, 114, 116]
  | .u f _ => ut f
  | .b f _ _ => bt f
  | .t f _ _ _ => tt f
@[simp] theorem tg_pl {i} : tg (.pl i) = [97, 116] := rfl
@[simp] theorem tg_nm {i} : tg (.nm i) = [110, 97, 109, 101] := rfl
@[simp] theorem tg_so {i} : tg (.so i) = [115, 111, 114, 116] := rfl
@[simp] theorem tg_u {f a} : tg (.u f a) = ut f := rfl
@[simp] theorem tg_b {f a b} : tg (.b f a b) = bt f := rfl
@[simp] theorem tg_t {f a b c} : tg (.t f a b c) = tt f := rfl
@[simp] theorem enc_0 {t M} : dIx tb (enc t) (.int 0) M = .ok (.str (tg t)) M := by cases t <;> simp [enc]
@[simp] theorem enc_pl {i M} : dIx tb (enc (.pl i)) (.int 1) M = .ok (.int i) M := by simp [enc]
@[simp] theorem enc_nm {i M} : dIx tb (enc (.nm i)) (.int 1) M = .ok (.str i) M := by simp [enc]
@[simp] theorem enc_so {i M} : dIx tb (enc (.so i)) (.int 1) M = .ok (.int i) M := by simp [enc]
@[simp] theorem encs_lt (k : Nat) : ∀ ts : List Tm, D.ltL k (ts.map enc) = true
  | [] => rfl
  | t :: ts => by simp [encs_lt k ts]
variable {wf : Nat}
theorem callS {n f : Nat} {d : Def} (h : pg f = some d) (ds : List D) (M : Mem) : callN pg wf (n + 1) f ds M = runDef d ⟨callN pg wf n, wf, n⟩ ds M := by
  show (match pg f with | some d => runDef d ⟨callN pg wf n, wf, n⟩ ds M | none => .bad) = _
  rw [h]
/-! kids_of .. -/
@[simp] theorem c7 (n : Nat) (M : Mem) (t : Tm) : callN pg wf (n + 1) 7 [enc t] M = .ok (.tup ((kids t).map enc)) M := by
  rw [callS (d := d7) rfl]
  cases t <;> simp [d7, gcM_lt, enc]
@[simp] theorem c8 (n : Nat) (M : Mem) (t : Tm) : callN pg wf (n + 1) 8 [enc t] M = .ok (.tup ((bnd t).map .int)) M := by
  rw [callS (d := d8) rfl]
  cases t <;> simp [d8, gcM_lt, enc]
@[simp] theorem c37 (n : Nat) (M : Mem) (t : Tm) : callN pg wf (n + 1) 37 [enc t] M = .ok (.tup ((kids t).map enc)) M := by
  rw [callS (d := d37) rfl]
  cases t <;> simp [d37, gcM_lt, D.flat, D.flatL, D.dep, D.depL, enc]
@[simp] theorem c38 (n : Nat) (M : Mem) (t : Tm) : callN pg wf (n + 2) 38 [enc t] M = .ok (.tup ((bnd t).map .int)) M := by
  rw [callS (d := d38) rfl]
  cases t with
  | b f a c => cases f <;> simp [d38, gcM_lt, D.flat, D.flatL, D.dep, D.depL, bt, bi]
  | u f a => cases f <;> simp [d38, gcM_lt, D.flat, D.flatL, D.dep, D.depL, ut]
  | t f a c d => cases f <;> simp [d38, gcM_lt, D.flat, D.flatL, D.dep, D.depL, tt, ti]
  | _ => simp [d38, gcM_lt, D.flat, D.flatL, D.dep, D.depL]
/-- one of the same form -/
def rb : Tm → List Tm → Tm
  | .u f _, [a] => .u f a
  | .b f _ _, [a, b] => .b f a b
  | .t f _ _ _, [a, b, c] => .t f a b c
  | t, _ => t
@[simp] theorem rb_u {f a x} : rb (.u f a) [x] = .u f x := rfl
@[simp] theorem rb_b {f a b x y} : rb (.b f a b) [x, y] = .b f x y := rfl
@[simp] theorem rb_t {f a b c x y z} : rb (.t f a b c) [x, y, z] = .t f x y z := rfl
@[simp] theorem rb_pl {i l} : rb (.pl i) l = .pl i := rfl
@[simp] theorem rb_nm {i l} : rb (.nm i) l = .nm i := rfl
@[simp] theorem rb_so {i l} : rb (.so i) l = .so i := rfl
theorem c9 (n : Nat) (M : Mem) (t : Tm) (ks : List Tm) (h : ks.length = (kids t).length) : callN pg wf (n + 1) 9 [enc t, .loc M.length] (M ++ [.lst (ks.map enc)]) = .ok (enc (rb t ks)) (M ++ [.lst (ks.map enc)]) := by
  rw [callS (d := d9) rfl]
  cases t with
  | b f a c => match ks, h with | [x, y], _ => simp [d9, gcM_lt]; simp [enc]
  | u f a => match ks, h with | [x], _ => simp [d9, gcM_lt]; simp [enc]
  | t f a c d => match ks, h with | [x, y, z], _ => simp [d9, gcM_lt]; simp [enc]
  | _ => match ks, h with | [], _ => simp [d9, gcM_lt]
@[simp] theorem c9_pl (n : Nat) (M : Mem) (i : Int) : callN pg wf (n + 1) 9 [enc (.pl i), .loc M.length] (M ++ [.lst []]) = .ok (enc (.pl i)) (M ++ [.lst []]) := c9 n M (.pl i) [] rfl
@[simp] theorem c9_nm (n : Nat) (M : Mem) (i : List Nat) : callN pg wf (n + 1) 9 [enc (.nm i), .loc M.length] (M ++ [.lst []]) = .ok (enc (.nm i)) (M ++ [.lst []]) := c9 n M (.nm i) [] rfl
@[simp] theorem c9_so (n : Nat) (M : Mem) (i : Int) : callN pg wf (n + 1) 9 [enc (.so i), .loc M.length] (M ++ [.lst []]) = .ok (enc (.so i)) (M ++ [.lst []]) := c9 n M (.so i) [] rfl
@[simp] theorem c9_1 (n : Nat) (M : Mem) (f : UF) (a x : Tm) : callN pg wf (n + 1) 9 [enc (.u f a), .loc M.length] (M ++ [.lst [enc x]]) = .ok (enc (.u f x)) (M ++ [.lst [enc x]]) := c9 n M (.u f a) [x] rfl
@[simp] theorem c9_2 (n : Nat) (M : Mem) (f : BF) (a b x y : Tm) : callN pg wf (n + 1) 9 [enc (.b f a b), .loc M.length] (M ++ [.lst [enc x, enc y]]) = .ok (enc (.b f x y)) (M ++ [.lst [enc x, enc y]]) := c9 n M (.b f a b) [x, y] rfl
@[simp] theorem c9_3 (n : Nat) (M : Mem) (f : TF) (a b c x y z : Tm) : callN pg wf (n + 1) 9 [enc (.t f a b c), .loc M.length] (M ++ [.lst [enc x, enc y, enc z]]) = .ok (enc (.t f x y z)) (M ++ [.lst [enc x, enc y, enc z]]) := c9 n M (.t f a b c) [x, y, z] rfl
/-! shifted, put -/
@[simp] def sh (by_ : Int) : Tm → Int → Tm
  | .pl i, low => if low ≤ i then .pl (i + by_) else .pl i
  | .u f a, low => .u f (sh by_ a low)
  | .b f a b, low => .b f (sh by_ a low) (sh by_ b (low + bi f))
  | .t f a b c, low => .t f (sh by_ a low) (sh by_ b low) (sh by_ c (low + ti f))
  | t, _ => t
theorem c14 (by_ : Int) (t : Tm) : ∀ (n : Nat) (low : Int) (M : Mem), dp t < n → callN pg wf (n + 1) 14 [enc t, .int by_, .int low] M = .ok (enc (sh by_ t low)) M := by
  induction t with
  | pl i => intro n low M h; rw [callS (d := d14) rfl]; by_cases hl : low ≤ i <;> simp [d14, gcM_lt, hl]; simp [enc]
  | nm i => intro n low M h; rw [callS (d := d14) rfl]; obtain ⟨m, rfl⟩ : ∃ m, n = m + 1 := ⟨n - 1, by omega⟩; simp [d14, gcM_lt]
  | so i => intro n low M h; rw [callS (d := d14) rfl]; obtain ⟨m, rfl⟩ : ∃ m, n = m + 1 := ⟨n - 1, by omega⟩; simp [d14, gcM_lt]
  | u f a iha => intro n low M h; rw [callS (d := d14) rfl]; obtain ⟨m, rfl⟩ : ∃ m, n = m + 1 := ⟨n - 1, by omega⟩; simp at h; simp [d14, gcM_lt, iha m _ _ (by omega)]
  | b f a b iha ihb => intro n low M h; rw [callS (d := d14) rfl]; obtain ⟨m, rfl⟩ : ∃ m, n = m + 1 := ⟨n - 1, by omega⟩; simp at h; simp [d14, gcM_lt, iha m _ _ (by omega), ihb m _ _ (by omega)]
  | t f a b c iha ihb ihc => intro n low M h; rw [callS (d := d14) rfl]; obtain ⟨m, rfl⟩ : ∃ m, n = m + 1 := ⟨n - 1, by omega⟩; simp at h; simp [d14, gcM_lt, iha m _ _ (by omega), ihb m _ _ (by omega), ihc m _ _ (by omega)]
theorem c39 (by_ : Int) (t : Tm) : ∀ (n : Nat) (low : Int) (M : Mem), dp t + 1 < n → callN pg wf (n + 1) 39 [enc t, .int by_, .int low] M = .ok (enc (sh by_ t low)) M := by
  induction t with
  | pl i => intro n low M h; rw [callS (d := d39) rfl]; by_cases hl : low ≤ i <;> simp [d39, gcM_lt, hl]; simp [enc]
  | nm i => intro n low M h; rw [callS (d := d39) rfl]; obtain ⟨m, rfl⟩ : ∃ m, n = m + 2 := ⟨n - 2, by omega⟩; simp [d39, gcM_lt]
  | so i => intro n low M h; rw [callS (d := d39) rfl]; obtain ⟨m, rfl⟩ : ∃ m, n = m + 2 := ⟨n - 2, by omega⟩; simp [d39, gcM_lt]
  | u f a iha => intro n low M h; rw [callS (d := d39) rfl]; obtain ⟨m, rfl⟩ : ∃ m, n = m + 2 := ⟨n - 2, by omega⟩; simp at h; simp [d39, gcM_lt, iha (m + 1) _ _ (by omega)]; simp [enc]
  | b f a b iha ihb => intro n low M h; rw [callS (d := d39) rfl]; obtain ⟨m, rfl⟩ : ∃ m, n = m + 2 := ⟨n - 2, by omega⟩; simp at h; simp [d39, gcM_lt, iha (m + 1) _ _ (by omega), ihb (m + 1) _ _ (by omega)]; simp [enc]
  | t f a b c iha ihb ihc => intro n low M h; rw [callS (d := d39) rfl]; obtain ⟨m, rfl⟩ : ∃ m, n = m + 2 := ⟨n - 2, by omega⟩; simp at h; simp [d39, gcM_lt, iha (m + 1) _ _ (by omega), ihb (m + 1) _ _ (by omega), ihc (m + 1) _ _ (by omega)]; simp [enc]
@[simp] def pu (v : Tm) : Tm → Int → Tm
  | .pl i, k => if i = k then sh k v 0 else if k < i then .pl (i - 1) else .pl i
  | .u f a, k => .u f (pu v a k)
  | .b f a b, k => .b f (pu v a k) (pu v b (k + bi f))
  | .t f a b c, k => .t f (pu v a k) (pu v b k) (pu v c (k + ti f))
  | t, _ => t
theorem c15 (v : Tm) (t : Tm) : ∀ (n : Nat) (k : Int) (M : Mem), dp t + dp v + 1 < n → callN pg wf (n + 1) 15 [enc t, enc v, .int k] M = .ok (enc (pu v t k)) M := by
  induction t with
  | pl i =>
    intro n k M h; rw [callS (d := d15) rfl]; obtain ⟨m, rfl⟩ : ∃ m, n = m + 1 := ⟨n - 1, by omega⟩
    simp at h
    by_cases h1 : i = k
    · simp [d15, gcM_lt, h1, c14 k v m 0 M (by omega)]
    · by_cases h2 : k < i <;> simp [d15, gcM_lt, h1, h2]; simp [enc]
  | nm i => intro n low M h; rw [callS (d := d15) rfl]; obtain ⟨m, rfl⟩ : ∃ m, n = m + 1 := ⟨n - 1, by omega⟩; simp [d15, gcM_lt]
  | so i => intro n low M h; rw [callS (d := d15) rfl]; obtain ⟨m, rfl⟩ : ∃ m, n = m + 1 := ⟨n - 1, by omega⟩; simp [d15, gcM_lt]
  | u f a iha => intro n low M h; rw [callS (d := d15) rfl]; obtain ⟨m, rfl⟩ : ∃ m, n = m + 1 := ⟨n - 1, by omega⟩; simp at h; simp [d15, gcM_lt, iha m _ _ (by omega)]
  | b f a b iha ihb => intro n low M h; rw [callS (d := d15) rfl]; obtain ⟨m, rfl⟩ : ∃ m, n = m + 1 := ⟨n - 1, by omega⟩; simp at h; simp [d15, gcM_lt, iha m _ _ (by omega), ihb m _ _ (by omega)]
  | t f a b c iha ihb ihc => intro n low M h; rw [callS (d := d15) rfl]; obtain ⟨m, rfl⟩ : ∃ m, n = m + 1 := ⟨n - 1, by omega⟩; simp at h; simp [d15, gcM_lt, iha m _ _ (by omega), ihb m _ _ (by omega), ihc m _ _ (by omega)]
theorem c40 (v : Tm) (t : Tm) : ∀ (n : Nat) (k : Int) (M : Mem), dp t + dp v + 2 < n → callN pg wf (n + 1) 40 [enc t, enc v, .int k] M = .ok (enc (pu v t k)) M := by
  induction t with
  | pl i =>
    intro n k M h; rw [callS (d := d40) rfl]; obtain ⟨m, rfl⟩ : ∃ m, n = m + 1 := ⟨n - 1, by omega⟩
    simp at h
    by_cases h1 : i = k
    · simp [d40, gcM_lt, h1, c39 k v m 0 M (by omega)]
    · by_cases h2 : k < i <;> simp [d40, gcM_lt, h1, h2]; simp [enc]
  | nm i => intro n low M h; rw [callS (d := d40) rfl]; obtain ⟨m, rfl⟩ : ∃ m, n = m + 2 := ⟨n - 2, by omega⟩; simp [d40, gcM_lt]
  | so i => intro n low M h; rw [callS (d := d40) rfl]; obtain ⟨m, rfl⟩ : ∃ m, n = m + 2 := ⟨n - 2, by omega⟩; simp [d40, gcM_lt]
  | u f a iha => intro n low M h; rw [callS (d := d40) rfl]; obtain ⟨m, rfl⟩ : ∃ m, n = m + 2 := ⟨n - 2, by omega⟩; simp at h; simp [d40, gcM_lt, iha (m + 1) _ _ (by omega)]; simp [enc]
  | b f a b iha ihb => intro n low M h; rw [callS (d := d40) rfl]; obtain ⟨m, rfl⟩ : ∃ m, n = m + 2 := ⟨n - 2, by omega⟩; simp at h; simp [d40, gcM_lt, iha (m + 1) _ _ (by omega), ihb (m + 1) _ _ (by omega)]; simp [enc]
  | t f a b c iha ihb ihc => intro n low M h; rw [callS (d := d40) rfl]; obtain ⟨m, rfl⟩ : ∃ m, n = m + 2 := ⟨n - 2, by omega⟩; simp at h; simp [d40, gcM_lt, iha (m + 1) _ _ (by omega), ihb (m + 1) _ _ (by omega), ihc (m + 1) _ _ (by omega)]; simp [enc]
/-! size_of, depth_of -/
theorem c12 (t : Tm) : ∀ (n : Nat) (M : Mem), dp t < n → callN pg wf (n + 1) 12 [enc t] M = .ok (.int (sz t)) M := by
  induction t with
  | u f a iha => intro n M h; rw [callS (d := d12) rfl]; obtain ⟨m, rfl⟩ : ∃ m, n = m + 1 := ⟨n - 1, by omega⟩; simp at h; simp [d12, gcM_lt, iha m _ (by omega)]; omega
  | b f a b iha ihb => intro n M h; rw [callS (d := d12) rfl]; obtain ⟨m, rfl⟩ : ∃ m, n = m + 1 := ⟨n - 1, by omega⟩; simp at h; simp [d12, gcM_lt, iha m _ (by omega), ihb m _ (by omega)]; omega
  | t f a b c iha ihb ihc => intro n M h; rw [callS (d := d12) rfl]; obtain ⟨m, rfl⟩ : ∃ m, n = m + 1 := ⟨n - 1, by omega⟩; simp at h; simp [d12, gcM_lt, iha m _ (by omega), ihb m _ (by omega), ihc m _ (by omega)]; omega
  | _ => intro n M h; rw [callS (d := d12) rfl]; obtain ⟨m, rfl⟩ : ∃ m, n = m + 1 := ⟨n - 1, by omega⟩; simp [d12, gcM_lt]
theorem c13 (t : Tm) : ∀ (n : Nat) (M : Mem), dp t < n → callN pg wf (n + 1) 13 [enc t] M = .ok (.int (dp t)) M := by
  induction t with
  | u f a iha => intro n M h; rw [callS (d := d13) rfl]; obtain ⟨m, rfl⟩ : ∃ m, n = m + 1 := ⟨n - 1, by omega⟩; simp at h; simp [d13, gcM_lt, iha m _ (by omega)]; omega
  | b f a b iha ihb => intro n M h; rw [callS (d := d13) rfl]; obtain ⟨m, rfl⟩ : ∃ m, n = m + 1 := ⟨n - 1, by omega⟩; simp at h; simp [d13, gcM_lt, iha m _ (by omega), ihb m _ (by omega)]; omega
  | t f a b c iha ihb ihc => intro n M h; rw [callS (d := d13) rfl]; obtain ⟨m, rfl⟩ : ∃ m, n = m + 1 := ⟨n - 1, by omega⟩; simp at h; simp [d13, gcM_lt, iha m _ (by omega), ihb m _ (by omega), ihc m _ (by omega)]; omega
  | _ => intro n M h; rw [callS (d := d13) rfl]; obtain ⟨m, rfl⟩ : ∃ m, n = m + 1 := ⟨n - 1, by omega⟩; simp [d13, gcM_lt]
/-! rows of arguments -/
theorem c16_0 (n : Nat) (M : Mem) (t : Tm) : callN pg wf (n + 1) 16 [enc t, .tup []] M = .ok (enc t) M := by
  rw [callS (d := d16) rfl]; simp [d16, gcM_lt]
theorem c16_2 (n : Nat) (M : Mem) (t a b : Tm) (h : dp (pu (sh 1 b 0) t 0) + dp (sh 0 a 0) + dp t + dp (sh 1 b 0) + dp a + dp b + 1 < n) : callN pg wf (n + 2) 16 [enc t, .tup [enc a, enc b]] M = .ok (enc (pu (sh 0 a 0) (pu (sh 1 b 0) t 0) 0)) M := by
  rw [callS (d := d16) rfl]
  simp [d16, gcM_lt, for_cons, c14 1 b n 0 M (by omega), c14 0 a n 0 M (by omega), c15 (sh 1 b 0) t n 0 M (by omega), c15 (sh 0 a 0) (pu (sh 1 b 0) t 0) n 0 M (by omega)]
theorem c19_3 (n : Nat) (M : Mem) (h a b c : Tm) : callN pg wf (n + 1) 19 [enc h, .tup [enc a, enc b, enc c]] M = .ok (enc (.b .ap (.b .ap (.b .ap h a) b) c)) M := by
  rw [callS (d := d19) rfl]; simp [d19, gcM_lt, for_cons]; simp [enc, bt]
theorem c41_3 (n : Nat) (M : Mem) (h a b c : Tm) : callN pg wf (n + 1) 41 [enc h, .tup [enc a, enc b, enc c]] M = .ok (enc (.b .ap (.b .ap (.b .ap h a) b) c)) M := by
  rw [callS (d := d41) rfl]; simp [d41, gcM_lt, for_cons]; simp [enc, bt]
theorem c21_2 (n : Nat) (M : Mem) (e a b : Tm) : callN pg wf (n + 1) 21 [.tup [enc a, enc b], enc e] M = .ok (enc (.b .pi a (.b .pi b e))) M := by
  rw [callS (d := d21) rfl]; simp [d21, gcM_lt, for_cons]; simp [enc, bt]
theorem c22_2 (n : Nat) (M : Mem) (e a b : Tm) : callN pg wf (n + 1) 22 [.tup [enc a, enc b], enc e] M = .ok (enc (.b .fn a (.b .fn b e))) M := by
  rw [callS (d := d22) rfl]; simp [d22, gcM_lt, for_cons]; simp [enc, bt]
theorem c21_3 (n : Nat) (M : Mem) (e a b c : Tm) : callN pg wf (n + 1) 21 [.tup [enc a, enc b, enc c], enc e] M = .ok (enc (.b .pi a (.b .pi b (.b .pi c e)))) M := by
  rw [callS (d := d21) rfl]; simp [d21, gcM_lt, for_cons]; simp [enc, bt]
@[simp] theorem enc_ap1 {a b M} : dIx tb (enc (.b f a b)) (.int 1) M = .ok (enc a) M := by simp [enc]
@[simp] theorem enc_ap2 {a b M} : dIx tb (enc (.b f a b)) (.int 2) M = .ok (enc b) M := by simp [enc]
theorem c20_3 (n : Nat) (M : Mem) (s : List Nat) (a b c : Tm) (hw : wf = w + 5) : callN pg wf (n + 1) 20 [enc (.b .ap (.b .ap (.b .ap (.nm s) a) b) c)] M = .ok (.tup [enc (.nm s), .tup [enc a, enc b, enc c]]) M := by
  rw [callS (d := d20) rfl]; subst hw; simp [d20, gcM_lt, gcM_new, while_s, bt]
theorem c20_0 (n : Nat) (M : Mem) (i : Int) (hw : wf = w + 5) : callN pg wf (n + 1) 20 [enc (.so i)] M = .ok (.tup [enc (.so i), .tup []]) M := by
  rw [callS (d := d20) rfl]; subst hw; simp [d20, gcM_lt, gcM_new, while_s, bt]
theorem c23_3 (n : Nat) (M : Mem) (i : Int) (a b c : Tm) (hw : wf = w + 5) : callN pg wf (n + 1) 23 [enc (.b .pi a (.b .pi b (.b .pi c (.so i))))] M = .ok (.tup [.tup [enc a, enc b, enc c], enc (.so i)]) M := by
  rw [callS (d := d23) rfl]; subst hw; simp [d23, gcM_lt, gcM_new, while_s, bt]
end PK.proofkernel_k00_whole_terms_places_and_p
end

section
set_option Elab.async false
set_option linter.all false
set_option maxHeartbeats 4000000
set_option maxRecDepth 100000
namespace PK.proofkernel_k00_whole_terms_places_and_p
open PK
variable {wf : Nat}
/-! paths -/
def encp (p : List Int) : D := .tup (p.map .int)
def paths : Tm → List (List Int)
  | .u _ a => [] :: (paths a).map (0 :: ·)
  | .b _ a b => [] :: ((paths a).map (0 :: ·) ++ (paths b).map (1 :: ·))
  | .t _ a b c => [] :: ((paths a).map (0 :: ·) ++ (paths b).map (1 :: ·) ++ (paths c).map (2 :: ·))
  | _ => [[]]
@[simp] theorem encp_lt {k p} : (encp p).lt k = true := by
  unfold encp; rw [lt_tup]; exact ltL_all fun d h => by simp at h; obtain ⟨_, _, rfl⟩ := h; simp
@[simp] theorem encps_lt (k : Nat) : ∀ ts : List (List Int), D.ltL k (ts.map encp) = true
  | [] => rfl
  | t :: ts => by simp [encps_lt k ts]
@[simp] theorem encps_lt2 (k : Nat) {α : Type} (f : α → List Int) (ts : List α) : D.ltL k (ts.map (encp ∘ f)) = true := by rw [← List.map_map]; exact encps_lt k _
@[simp] theorem dAdd_encp {p k} {M : Mem} : dAdd (encp p) (.tup [.int k]) M = if p.length + 1 ≤ 16777216 then .ok (encp (p ++ [k])) M else .bad := by simp [encp]
theorem sz_pos (t : Tm) : 0 < sz t := by cases t <;> simp
theorem dp_sz (t : Tm) : dp t < sz t := by induction t <;> simp <;> omega
theorem paths_len (t : Tm) : (paths t).length = sz t := by induction t <;> simp_all [paths] <;> omega
theorem paths_short (t : Tm) : ∀ p ∈ paths t, p.length ≤ dp t := by
  induction t with
  | u f a iha => intro p h; simp [paths] at h; rcases h with rfl | ⟨q, h, rfl⟩; simp; have := iha q h; simp; omega
  | b f a b iha ihb =>
    intro p h; simp [paths] at h
    rcases h with rfl | ⟨q, h, rfl⟩ | ⟨q, h, rfl⟩
    · simp
    · have := iha q h; simp; omega
    · have := ihb q h; simp; omega
  | t f a b c iha ihb ihc =>
    intro p h; simp [paths] at h
    rcases h with rfl | ⟨q, h, rfl⟩ | ⟨q, h, rfl⟩ | ⟨q, h, rfl⟩
    · simp
    · have := iha q h; simp; omega
    · have := ihb q h; simp; omega
    · have := ihc q h; simp; omega
  | _ => intro p h; simp [paths] at h; subst h; simp
/-- so short and so few that all fits -/
def okp (ps : List (List Int)) : Prop := ps.length ≤ 16000000 ∧ ∀ p ∈ ps, p.length ≤ 16000000
theorem okp_paths {t : Tm} (h : sz t ≤ 10000) : okp (paths t) := by
  have h1 := paths_len t; have h2 := paths_short t; have h3 := dp_sz t
  exact ⟨by omega, fun p hp => by have := h2 p hp; omega⟩
abbrev e44 : SE := (sBin dAdd (sTup (sCons (sVar 3) (sNil))) (sVar 4))
theorem comp44 {κ x0 x1 x2 x4} {k : Int} {M : Mem} {ps : List (List Int)} (h : okp ps) : compGo κ [x0, x1, x2, some (.int k), x4] (.name 4) none e44 (ps.map encp) [] M = .ok ((ps.map (k :: ·)).map encp) M := by
  rw [comp_map (fun d => match d with | .tup xs => .tup (.int k :: xs) | d => d)]
  · simp [List.map_map]; intro a _; rfl
  · intro x hx
    simp at hx
    obtain ⟨p, hp, rfl⟩ := hx
    have := h.2 p hp
    refine ⟨_, M, rfl, ?_, by simp, ?_⟩
    · simp [e44, encp]; omega
    · show D.lt _ (.tup (.int k :: p.map .int)) = true
      have : (encp (k :: p)).lt M.length = true := encp_lt
      exact this
  · have := h.1; simp; omega
theorem c44 (t : Tm) : ∀ (n : Nat) (M : Mem), dp t < n → sz t ≤ 10000 → callN pg wf (n + 1) 44 [enc t] M = .ok (.loc M.length) (M ++ [.lst ((paths t).map encp)]) := by
  induction t with
  | u f a iha =>
    intro n M h hs; rw [callS (d := d44) rfl]; obtain ⟨m, rfl⟩ : ∃ m, n = m + 1 := ⟨n - 1, by omega⟩; simp at h hs
    have ha : okp (paths a) := okp_paths (by omega)
    have la := paths_len a
    have h1 : 1 + (paths a).length ≤ 16777216 := by omega
    simp [d44, gcM_lt, gcM_locE, for_cons, iha m _ (by omega) (by omega), comp44 ha, h1, paths, encp]
  | b f a b iha ihb =>
    intro n M h hs; rw [callS (d := d44) rfl]; obtain ⟨m, rfl⟩ : ∃ m, n = m + 1 := ⟨n - 1, by omega⟩; simp at h hs
    have ha : okp (paths a) := okp_paths (by omega)
    have hb : okp (paths b) := okp_paths (by omega)
    have la := paths_len a
    have lb := paths_len b
    have h1 : 1 + (paths a).length ≤ 16777216 := by omega
    have h2 : (paths a).length + 1 + (paths b).length ≤ 16777216 := by omega
    simp [d44, gcM_lt, gcM_locE, for_cons, iha m _ (by omega) (by omega), ihb m _ (by omega) (by omega), comp44 ha, comp44 hb, h1, h2, paths, encp]
  | t f a b c iha ihb ihc =>
    intro n M h hs; rw [callS (d := d44) rfl]; obtain ⟨m, rfl⟩ : ∃ m, n = m + 1 := ⟨n - 1, by omega⟩; simp at h hs
    have ha : okp (paths a) := okp_paths (by omega)
    have hb : okp (paths b) := okp_paths (by omega)
    have hc : okp (paths c) := okp_paths (by omega)
    have la := paths_len a
    have lb := paths_len b
    have lc := paths_len c
    have h1 : 1 + (paths a).length ≤ 16777216 := by omega
    have h2 : (paths a).length + 1 + (paths b).length ≤ 16777216 := by omega
    have h3 : (paths a).length + (paths b).length + 1 + (paths c).length ≤ 16777216 := by omega
    simp [d44, gcM_lt, gcM_locE, for_cons, iha m _ (by omega) (by omega), ihb m _ (by omega) (by omega), ihc m _ (by omega) (by omega), comp44 ha, comp44 hb, comp44 hc, h1, h2, h3, paths, encp]
  | _ => intro n M h hs; rw [callS (d := d44) rfl]; obtain ⟨m, rfl⟩ : ∃ m, n = m + 1 := ⟨n - 1, by omega⟩; simp [d44, gcM_lt, gcM_new, paths, encp]
/-! paths_of: the stack, its top ahead -/
def eP (x : List Int × Tm) : D := .tup [encp x.1, enc x.2]
def out24 (l : List (List Int × Tm)) : List (List Int) := l.flatMap fun x => (paths x.2).map (x.1 ++ ·)
def tot (l : List (List Int × Tm)) : Nat := (l.map fun x => sz x.2).sum
abbrev wc24 : SE := (sBin dGt (sRow (dLen tb) (sCons (sVar 2) (sNil))) (sC (.int 0)))
abbrev wb24 : SS := (pSeq (pTup [3, 4] (sMeth dPop (sVar 2) sNil)) (pSeq (pDrop (sMeth dAppend (sVar 1) (sCons (sVar 3) (sNil)))) (pSeq (pSet 5 (sCall 7 [] (sCons (sVar 4) (sNil)))) (pSeq (pDrop (sMeth dExtend (sVar 2) (sCons (sComp [6] (.name 6) (iR3 (sCons (sBin dSub (sRow (dLen tb) (sCons (sVar 5) (sNil))) (sC (.int 1))) (sCons (sUn dNeg (sC (.int 1))) (sCons (sUn dNeg (sC (.int 1))) (sNil))))) none (sTup (sCons (sBin dAdd (sVar 3) (sTup (sCons (sVar 6) (sNil)))) (sCons (sBin (dIx tb) (sVar 5) (sVar 6)) (sNil))))) (sNil)))) (pNil)))))
theorem w24 {n : Nat} {M : Mem} {κ : Ctx} (hκ : κ = ⟨callN pg wf (n + 1), wf, n + 1⟩) {x0 : Option D} : ∀ (f : Nat) (l : List (List Int × Tm)) (F : List D) (x3 x4 x5 x6 : Option D), tot l < f → F.length + tot l ≤ 10000 → (∀ x ∈ l, x.1.length + sz x.2 ≤ 10000) → D.ltL M.length F = true →
    ∃ ρ', whileGo κ wc24 wb24 f [x0, some (.loc M.length), some (.loc (M.length + 1)), x3, x4, x5, x6] (M ++ [.lst F, .lst (l.reverse.map eP)]) = .nx ρ' (M ++ [.lst (F ++ (out24 l).map encp), .lst []]) ∧ ρ'[1]? = some (some (.loc M.length)) := by
  intro f
  induction f with
  | zero => intro l F _ _ _ _ h; omega
  | succ f ih =>
    intro l F x3 x4 x5 x6 hf hs hl hF
    match l with
    | [] => exact ⟨[x0, some (.loc M.length), some (.loc (M.length + 1)), x3, x4, x5, x6], by simp [while_s, out24], rfl⟩
    | (p, t) :: l =>
      have hp := hl (p, t) (by simp)
      simp only at hp
      have e0 : ((p, t) :: l).reverse.map eP = l.reverse.map eP ++ [.tup [encp p, enc t]] := by simp [eP]
      have htot : tot ((p, t) :: l) = sz t + tot l := by simp [tot]
      have hll : l.length ≤ tot l := by
        clear ih hf hs hl hp e0 htot
        induction l with
        | nil => simp
        | cons x l ih => have := sz_pos x.2; simp [tot] at ih ⊢; omega
      have h1 : F.length < 16777216 := by omega
      have sp := sz_pos t
      rw [htot] at hf hs
      have hF2 : D.ltL M.length (F ++ [encp p]) = true := by simp [hF]
      have hl2 : ∀ x ∈ l, x.1.length + sz x.2 ≤ 10000 := fun x hx => hl x (by simp [hx])
      have h3 : l.length ≤ 10000 := by omega
      have h4 : l.length ≤ 16777215 := by omega
      have h5 : l.length ≤ 16777214 := by omega
      have h6 : l.length ≤ 16777213 := by omega
      have h7 : l.length ≤ 16777216 := by omega
      have h8 : p.length ≤ 16777215 := by omega
      cases t with
      | u g a =>
        simp at hf hs hp
        obtain ⟨ρ', hw, hr⟩ := ih ((p ++ [0], a) :: l) (F ++ [encp p]) (some (encp p)) (some (enc (.u g a))) (some (.tup [enc a])) x6 (by simp [tot] at hf ⊢; omega) (by simp [tot] at hs ⊢; omega) (by simp; exact ⟨by omega, fun x y h => hl2 (x, y) h⟩) hF2
        refine ⟨ρ', ?_, hr⟩
        rw [while_s, e0]
        simp [hκ, eP] at hw
        simp [hκ, gcM_lt, h1, h4, h8, hw, out24, paths, List.flatMap, Function.comp_def]
      | b g a b =>
        simp at hf hs hp
        obtain ⟨ρ', hw, hr⟩ := ih ((p ++ [0], a) :: (p ++ [1], b) :: l) (F ++ [encp p]) (some (encp p)) (some (enc (.b g a b))) (some (.tup [enc a, enc b])) x6 (by simp [tot] at hf ⊢; omega) (by simp [tot] at hs ⊢; omega) (by simp; exact ⟨by omega, by omega, fun x y h => hl2 (x, y) h⟩) hF2
        refine ⟨ρ', ?_, hr⟩
        rw [while_s, e0]
        simp [hκ, eP] at hw
        simp [hκ, gcM_lt, h1, h5, h8, hw, out24, paths, List.flatMap, Function.comp_def]
      | t g a b c =>
        simp at hf hs hp
        obtain ⟨ρ', hw, hr⟩ := ih ((p ++ [0], a) :: (p ++ [1], b) :: (p ++ [2], c) :: l) (F ++ [encp p]) (some (encp p)) (some (enc (.t g a b c))) (some (.tup [enc a, enc b, enc c])) x6 (by simp [tot] at hf ⊢; omega) (by simp [tot] at hs ⊢; omega) (by simp; exact ⟨by omega, by omega, by omega, fun x y h => hl2 (x, y) h⟩) hF2
        refine ⟨ρ', ?_, hr⟩
        rw [while_s, e0]
        simp [hκ, eP] at hw
        simp [hκ, gcM_lt, h1, h6, h8, hw, out24, paths, List.flatMap, Function.comp_def]
      | pl i =>
        simp at hf hs hp
        obtain ⟨ρ', hw, hr⟩ := ih l (F ++ [encp p]) (some (encp p)) (some (enc (.pl i))) (some (.tup [])) x6 (by omega) (by simp; omega) hl2 hF2
        refine ⟨ρ', ?_, hr⟩
        rw [while_s, e0]
        simp [hκ, eP] at hw
        simp [hκ, gcM_lt, h1, h7, h8, hw, out24, paths, List.flatMap, Function.comp_def]
      | nm i =>
        simp at hf hs hp
        obtain ⟨ρ', hw, hr⟩ := ih l (F ++ [encp p]) (some (encp p)) (some (enc (.nm i))) (some (.tup [])) x6 (by omega) (by simp; omega) hl2 hF2
        refine ⟨ρ', ?_, hr⟩
        rw [while_s, e0]
        simp [hκ, eP] at hw
        simp [hκ, gcM_lt, h1, h7, h8, hw, out24, paths, List.flatMap, Function.comp_def]
      | so i =>
        simp at hf hs hp
        obtain ⟨ρ', hw, hr⟩ := ih l (F ++ [encp p]) (some (encp p)) (some (enc (.so i))) (some (.tup [])) x6 (by omega) (by simp; omega) hl2 hF2
        refine ⟨ρ', ?_, hr⟩
        rw [while_s, e0]
        simp [hκ, eP] at hw
        simp [hκ, gcM_lt, h1, h7, h8, hw, out24, paths, List.flatMap, Function.comp_def]
theorem c24 (t : Tm) (n : Nat) (M : Mem) (hs : sz t ≤ 10000) (hw : sz t < wf) : callN pg wf (n + 2) 24 [enc t] M = .ok (.loc M.length) (M ++ [.lst ((paths t).map encp)]) := by
  rw [callS (d := d24) rfl]
  obtain ⟨ρ', h, hr⟩ := w24 (wf := wf) (n := n) (M := M) rfl (x0 := some (enc t)) wf [([], t)] [] none none none none (by simpa [tot] using hw) (by simpa [tot] using hs) (by simpa using hs) rfl
  simp [eP, encp, out24] at h
  simp [d24, gcM_lt, gcM_tupF, h, hr, gcM_locE]
end PK.proofkernel_k00_whole_terms_places_and_p
end

section
set_option Elab.async false
set_option linter.all false
set_option maxHeartbeats 4000000
set_option maxRecDepth 100000
namespace PK.proofkernel_k00_whole_terms_places_and_p
open PK
variable {wf : Nat}
/-! where a path leads -/
inductive At : Tm → List Int → Tm → Prop
  | nil (t : Tm) : At t [] t
  | cons {t a u : Tm} {p : List Int} (k : Nat) (h : (kids t)[k]? = some a) (r : At a p u) : At t ((k : Int) :: p) u
theorem at_paths (t : Tm) : ∀ p ∈ paths t, ∃ u, At t p u := by
  induction t with
  | u f a iha =>
    intro p h; simp [paths] at h
    rcases h with rfl | ⟨q, h, rfl⟩
    · exact ⟨_, .nil _⟩
    · obtain ⟨u, hu⟩ := iha q h; exact ⟨u, .cons 0 rfl hu⟩
  | b f a b iha ihb =>
    intro p h; simp [paths] at h
    rcases h with rfl | ⟨q, h, rfl⟩ | ⟨q, h, rfl⟩
    · exact ⟨_, .nil _⟩
    · obtain ⟨u, hu⟩ := iha q h; exact ⟨u, .cons 0 rfl hu⟩
    · obtain ⟨u, hu⟩ := ihb q h; exact ⟨u, .cons 1 rfl hu⟩
  | t f a b c iha ihb ihc =>
    intro p h; simp [paths] at h
    rcases h with rfl | ⟨q, h, rfl⟩ | ⟨q, h, rfl⟩ | ⟨q, h, rfl⟩
    · exact ⟨_, .nil _⟩
    · obtain ⟨u, hu⟩ := iha q h; exact ⟨u, .cons 0 rfl hu⟩
    · obtain ⟨u, hu⟩ := ihb q h; exact ⟨u, .cons 1 rfl hu⟩
    · obtain ⟨u, hu⟩ := ihc q h; exact ⟨u, .cons 2 rfl hu⟩
  | _ => intro p h; simp [paths] at h; subst h; exact ⟨_, .nil _⟩
theorem at_nonneg {t p u} (h : At t p u) : ∀ k ∈ p, 0 ≤ k := by
  induction h with
  | nil => simp
  | cons k _ _ ih => intro j hj; simp at hj; rcases hj with rfl | hj; omega; exact ih j hj
theorem at_len {t p u} (h : At t p u) : p.length ≤ dp t := by
  induction h with
  | nil => simp
  | @cons t a u p k h _ ih =>
    have : dp a < dp t := by
      cases t with
      | u f x => match k, h with | 0, h => simp at h; subst h; simp
      | b f x y => match k, h with | 0, h => simp at h; subst h; simp; omega | 1, h => simp at h; subst h; simp; omega
      | t f x y z => match k, h with | 0, h => simp at h; subst h; simp; omega | 1, h => simp at h; subst h; simp; omega | 2, h => simp at h; subst h; simp; omega
      | _ => simp at h
    simp; omega
theorem kids_3 (t : Tm) : (kids t).length ≤ 3 := by cases t <;> simp
theorem bnd_len (t : Tm) : (bnd t).length = (kids t).length := by cases t <;> simp
theorem bnd_get {t : Tm} {k : Nat} {a : Tm} (h : (kids t)[k]? = some a) : ∃ b, (bnd t)[k]? = some b := by
  have := bnd_len t
  have hk : k < (kids t).length := by
    rcases Nat.lt_or_ge k (kids t).length with h1 | h1
    · exact h1
    · rw [List.getElem?_eq_none h1] at h; cases h
  exact ⟨(bnd t)[k], List.getElem?_eq_getElem _⟩
theorem get_lt {α : Type} {l : List α} {k : Nat} {a : α} (h : l[k]? = some a) : k < l.length := by
  rcases Nat.lt_or_ge k l.length with h1 | h1
  · exact h1
  · rw [List.getElem?_eq_none h1] at h; cases h
@[simp] theorem dLen_encp {p} {M : Mem} : dLen tb [encp p] M = .ok (.int p.length) M := by simp [encp]
@[simp] theorem dIx_encp {k p} {M : Mem} : dIx tb (encp (k :: p)) (.int 0) M = .ok (.int k) M := by simp [encp]
@[simp] theorem dCut_encp {k p} {M : Mem} : dCut (some 1) none (encp (k :: p)) M = .ok (encp p) M := by simp [encp]
theorem ints_lt (k : Nat) : ∀ p : List Int, D.ltL k (p.map .int) = true
  | [] => rfl
  | t :: ts => by simp [ints_lt k ts]
@[simp] theorem ofF_encp {p k} {M : Mem} : ofF (encp p) k M = .ok (p.map .int) none (M.take k) := by simp [encp, ints_lt]
@[simp] theorem isi_encp {p} {M : Mem} : dIsi .tuple (encp p) M = .ok (.bl true) M := by simp [encp]
/-! is_path -/
@[simp] theorem c0_int (n : Nat) (M : Mem) (i : Int) : callN pg wf (n + 1) 0 [.int i] M = .ok (.bl true) M := by
  rw [callS (d := d0) rfl]; simp [d0, gcM_lt]
theorem c2 (n : Nat) (M : Mem) (p : List Int) (hp : ∀ k ∈ p, 0 ≤ k) (hl : p.length ≤ 200) : callN pg wf (n + 2) 2 [encp p] M = .ok (.bl true) M := by
  rw [callS (d := d2) rfl]
  have hl2 : (p.length : Int) ≤ 200 := by omega
  have hc : ∀ x1, compGo ⟨callN pg wf (n + 1), wf, n + 1⟩ [some (encp p), x1] (.name 1) none (sAnd (sCall 0 [] (sCons (sVar 1) (sNil))) (sBin dGe (sVar 1) (sC (.int 0)))) (p.map .int) [] M = .ok ((p.map fun _ => true).map .bl) M := by
    intro x1
    rw [comp_map (fun _ => .bl true)]
    · simp
    · intro x hx
      simp at hx
      obtain ⟨k, hk, rfl⟩ := hx
      have := hp k hk
      exact ⟨_, M, rfl, by simp [this], by simp, by simp⟩
    · simp; omega
  simp [d2, gcM_lt, hl2, hc]
theorem c3 (n : Nat) (M : Mem) (p : List Int) (hp : ∀ k ∈ p, 0 ≤ k) (hl : p.length ≤ 200) : callN pg wf (n + 3) 3 [encp p] M = .ok .non M := by
  rw [callS (d := d3) rfl]
  simp [d3, gcM_lt, c2 n M p hp hl]
/-! part_at .. -/
abbrev fb43 : SS := (pSeq (pSet 0 (sBin (dIx tb) (sCall 37 [] (sCons (sVar 0) (sNil))) (sVar 2))) (pNil))
theorem f43 {κ : Ctx} {n : Nat} (hκ : κ = ⟨callN pg wf (n + 1), wf, n + 1⟩) {t p u} (h : At t p u) : ∀ (M : Mem) (rest : List D) (x1 x2 : Option D), ∃ x2', forGo κ (.name 2) fb43 (p.map .int ++ rest) [some (enc t), x1, x2] M = forGo κ (.name 2) fb43 rest [some (enc u), x1, x2'] M := by
  induction h with
  | nil => intro M rest x1 x2; exact ⟨x2, rfl⟩
  | @cons t a u p k h _ ih =>
    intro M rest x1 x2
    obtain ⟨y, hy⟩ := ih M rest x1 (some (.int k))
    refine ⟨y, ?_⟩
    rw [← hy]
    simp [for_cons, hκ, atI_nat, h, gcM_lt]
theorem c43 {t p u} (h : At t p u) (n : Nat) (M : Mem) : callN pg wf (n + 2) 43 [enc t, encp p] M = .ok (enc u) M := by
  rw [callS (d := d43) rfl]
  obtain ⟨y, hy⟩ := f43 (wf := wf) (n := n) rfl h M [] (some (encp p)) none
  simp at hy
  simp [d43, gcM_lt, hy]
abbrev fb25 : SS := (pSeq (pSet 3 (sCall 7 [] (sCons (sVar 0) (sNil)))) (pSeq (pIf (sBin dGe (sVar 2) (sRow (dLen tb) (sCons (sVar 3) (sNil)))) (pSeq (pRaise 2 [0, 1] [.tup []] (sCons (sC (.str [112, 97, 116, 104])) (sNil))) (pNil)) (pNil)) (pSeq (pSet 0 (sBin (dIx tb) (sVar 3) (sVar 2))) (pNil))))
theorem f25 {κ : Ctx} {n : Nat} (hκ : κ = ⟨callN pg wf (n + 1), wf, n + 1⟩) {t p u} (h : At t p u) : ∀ (M : Mem) (rest : List D) (x1 x2 x3 : Option D), ∃ x2' x3', forGo κ (.name 2) fb25 (p.map .int ++ rest) [some (enc t), x1, x2, x3] M = forGo κ (.name 2) fb25 rest [some (enc u), x1, x2', x3'] M := by
  induction h with
  | nil => intro M rest x1 x2 x3; exact ⟨x2, x3, rfl⟩
  | @cons t a u p k h _ ih =>
    intro M rest x1 x2 x3
    obtain ⟨y, z, hy⟩ := ih M rest x1 (some (.int k)) (some (.tup ((kids t).map enc)))
    refine ⟨y, z, ?_⟩
    rw [← hy]
    have hk := get_lt h
    have hk2 : ¬ (kids t).length ≤ k := by omega
    simp [for_cons, hκ, atI_nat, h, gcM_lt, hk2]
def pathExc : Exn := ⟨2, [(0, .str [112, 97, 116, 104]), (1, .tup [])]⟩
theorem c25 {t p u} (h : At t p u) (n : Nat) (M : Mem) (hp : p.length ≤ 200) : callN pg wf (n + 4) 25 [enc t, encp p] M = .ok (enc u) M := by
  rw [callS (d := d25) rfl]
  obtain ⟨y, z, hy⟩ := f25 (wf := wf) (n := n + 2) rfl h M [] (some (encp p)) none none
  simp at hy
  simp [d25, gcM_lt, hy, c3 n M p (at_nonneg h) hp]
theorem c25_far {t p u} (h : At t p u) (n : Nat) (M : Mem) (hp : p.length ≤ 199) : callN pg wf (n + 4) 25 [enc t, encp (p ++ [3])] M = .exc pathExc M := by
  rw [callS (d := d25) rfl]
  obtain ⟨y, z, hy⟩ := f25 (wf := wf) (n := n + 2) rfl h M [.int 3] (some (encp (p ++ [3]))) none none
  have h3 := kids_3 u
  have h4 : ((kids u).length : Int) ≤ 3 := by omega
  have hc := c3 (wf := wf) n M (p ++ [3]) (by intro k hk; simp at hk; rcases hk with hk | rfl; exact at_nonneg h k hk; omega) (by simp; omega)
  simp [for_cons, gcM_lt, h3, h4] at hy
  simp [d25, gcM_lt, hy, hc, pathExc]
abbrev fb26 : SS := (pSeq (pSet 4 (sCall 7 [] (sCons (sVar 0) (sNil)))) (pSeq (pIf (sBin dGe (sVar 3) (sRow (dLen tb) (sCons (sVar 4) (sNil)))) (pSeq (pRaise 2 [0, 1] [.tup []] (sCons (sC (.str [112, 97, 116, 104])) (sNil))) (pNil)) (pNil)) (pSeq (pAug dAug 2 (sBin (dIx tb) (sCall 8 [] (sCons (sVar 0) (sNil))) (sVar 3))) (pSeq (pSet 0 (sBin (dIx tb) (sVar 4) (sVar 3))) (pNil)))))
def ar : Tm → List Int → Int
  | _, [] => 0
  | t, k :: p => ((bnd t)[k.toNat]?).getD 0 + (match (kids t)[k.toNat]? with | some a => ar a p | none => 0)
theorem f26 {κ : Ctx} {n : Nat} (hκ : κ = ⟨callN pg wf (n + 1), wf, n + 1⟩) {t p u} (h : At t p u) : ∀ (M : Mem) (rest : List D) (x1 x3 x4 : Option D) (s : Int), ∃ x3' x4', forGo κ (.name 3) fb26 (p.map .int ++ rest) [some (enc t), x1, some (.int s), x3, x4] M = forGo κ (.name 3) fb26 rest [some (enc u), x1, some (.int (s + ar t p)), x3', x4'] M := by
  induction h with
  | nil => intro M rest x1 x3 x4 s; exact ⟨x3, x4, by simp [ar]⟩
  | @cons t a u p k h _ ih =>
    intro M rest x1 x3 x4 s
    obtain ⟨b, hb⟩ := bnd_get h
    obtain ⟨y, z, hy⟩ := ih M rest x1 (some (.int k)) (some (.tup ((kids t).map enc))) (s + b)
    refine ⟨y, z, ?_⟩
    have hk := get_lt h
    have hk2 : ¬ (kids t).length ≤ k := by omega
    have e : s + ar t (↑k :: p) = s + b + ar a p := by simp [ar, h, hb]; omega
    rw [e, ← hy]
    simp [for_cons, hκ, atI_nat, h, hb, gcM_lt, hk2]
theorem c26 {t p u} (h : At t p u) (n : Nat) (M : Mem) (hp : p.length ≤ 200) : callN pg wf (n + 4) 26 [enc t, encp p] M = .ok (.int (ar t p)) M := by
  rw [callS (d := d26) rfl]
  obtain ⟨y, z, hy⟩ := f26 (wf := wf) (n := n + 2) rfl h M [] (some (encp p)) none none 0
  simp at hy
  simp [d26, gcM_lt, hy, c3 n M p (at_nonneg h) hp]
theorem c26_far {t p u} (h : At t p u) (n : Nat) (M : Mem) (hp : p.length ≤ 199) : callN pg wf (n + 4) 26 [enc t, encp (p ++ [3])] M = .exc pathExc M := by
  rw [callS (d := d26) rfl]
  obtain ⟨y, z, hy⟩ := f26 (wf := wf) (n := n + 2) rfl h M [.int 3] (some (encp (p ++ [3]))) none none 0
  have h3 := kids_3 u
  have h4 : ((kids u).length : Int) ≤ 3 := by omega
  have hc := c3 (wf := wf) n M (p ++ [3]) (by intro k hk; simp at hk; rcases hk with hk | rfl; exact at_nonneg h k hk; omega) (by simp; omega)
  simp [for_cons, gcM_lt, h3, h4] at hy
  simp [d26, gcM_lt, hy, hc, pathExc]
abbrev fb48 : SS := (pSeq (pTup [2, 0] (sTup (sCons (sBin dAdd (sVar 2) (sBin (dIx tb) (sCall 38 [] (sCons (sVar 0) (sNil))) (sVar 3))) (sCons (sBin (dIx tb) (sCall 37 [] (sCons (sVar 0) (sNil))) (sVar 3)) (sNil))))) (pNil))
theorem f48 {κ : Ctx} {n : Nat} (hκ : κ = ⟨callN pg wf (n + 2), wf, n + 2⟩) {t p u} (h : At t p u) : ∀ (M : Mem) (x1 x3 : Option D) (s : Int), ∃ x3', forGo κ (.name 3) fb48 (p.map .int) [some (enc t), x1, some (.int s), x3] M = .nx [some (enc u), x1, some (.int (s + ar t p)), x3'] M := by
  induction h with
  | nil => intro M x1 x3 s; exact ⟨x3, by simp [ar]⟩
  | @cons t a u p k h _ ih =>
    intro M x1 x3 s
    obtain ⟨b, hb⟩ := bnd_get h
    obtain ⟨y, hy⟩ := ih M x1 (some (.int k)) (s + b)
    refine ⟨y, ?_⟩
    have e : s + ar t (↑k :: p) = s + b + ar a p := by simp [ar, h, hb]; omega
    rw [e, ← hy]
    simp [for_cons, hκ, atI_nat, h, hb, gcM_lt]
theorem c48 {t p u} (h : At t p u) (n : Nat) (M : Mem) : callN pg wf (n + 3) 48 [enc t, encp p] M = .ok (.int (ar t p)) M := by
  rw [callS (d := d48) rfl]
  obtain ⟨y, hy⟩ := f48 (wf := wf) (n := n) rfl h M (some (encp p)) none 0
  simp at hy
  simp [d48, gcM_lt, hy]
def rp : Tm → List Int → Tm → Tm
  | _, [], new => new
  | t, k :: p, new => match (kids t)[k.toNat]? with | some a => rb t ((kids t).set k.toNat (rp a p new)) | none => t
theorem ixN_nat {n k : Nat} : L2.ixN n (k : Int) = if k < n then some k else none := by
  simp [L2.ixN]
@[simp] theorem dPut_loc {a i v} {M : Mem} : dPut (.loc a) i v M = (match M[a]? with
    | some (.lst xs) => match i with
      | .int k => match L2.ixN xs.length k with
        | some j => if v.lt a then some (M.set a (.lst (xs.set j v))) else none
        | none => none
      | _ => none
    | some (.dic kvs) => if isKey i && v.lt a && decide (kvs.length < 16777216) then some (M.set a (.dic (putK i v kvs))) else none
    | _ => none) := rfl
theorem c27 {t p u} (h : At t p u) (new : Tm) : ∀ (n : Nat) (M : Mem), p.length < n → callN pg wf (n + 1) 27 [enc t, encp p, enc new] M = .ok (enc (rp t p new)) M := by
  induction h with
  | nil => intro n M hn; rw [callS (d := d27) rfl]; simp [d27, gcM_lt, rp]
  | @cons t a u p k h _ ih =>
    intro n M hn; rw [callS (d := d27) rfl]
    obtain ⟨m, rfl⟩ : ∃ m, n = m + 1 := ⟨n - 1, by omega⟩
    simp at hn
    have hk := get_lt h
    have hk2 : ¬ (kids t).length ≤ k := by omega
    have h0 : ¬ ((p.length : Int) + 1 = 0) := by omega
    have he : (kids t)[k] = a := by rw [List.getElem?_eq_getElem hk] at h; exact Option.some.inj h
    have h9 := c9 (wf := wf) m M t ((kids t).set k (rp a p new)) (by simp)
    simp at h9
    simp [d27, gcM_lt, gcM_locE, h0, atI_nat, h, hk2, ih m _ hn, ixN_nat, hk, he, h9, rp]
theorem c27_far {t p u} (h : At t p u) (new : Tm) : ∀ (n : Nat) (M : Mem), p.length + 3 < n → callN pg wf (n + 1) 27 [enc t, encp (p ++ [3]), enc new] M = .exc pathExc M := by
  induction h with
  | nil t =>
    intro n M hn; rw [callS (d := d27) rfl]
    obtain ⟨m, rfl⟩ : ∃ m, n = m + 3 := ⟨n - 3, by omega⟩
    have h3 := kids_3 t
    have h4 : ((kids t).length : Int) ≤ 3 := by omega
    simp [d27, gcM_lt, gcM_locE, h4, pathExc]
  | @cons t a u p k h _ ih =>
    intro n M hn; rw [callS (d := d27) rfl]
    obtain ⟨m, rfl⟩ : ∃ m, n = m + 1 := ⟨n - 1, by omega⟩
    simp at hn
    have hk := get_lt h
    have hk2 : ¬ (kids t).length ≤ k := by omega
    have h0 : ¬ ((p.length : Int) + 1 + 1 = 0) := by omega
    have he : (kids t)[k] = a := by rw [List.getElem?_eq_getElem hk] at h; exact Option.some.inj h
    simp [d27, gcM_lt, gcM_locE, h0, atI_nat, h, hk2, ih m _ (by omega), ixN_nat, hk, he]
theorem swp {t a x : Tm} {k : Nat} (h : (kids t)[k]? = some a) : D.tup (.str (tg t) :: (((kids t).map enc).take k ++ enc x :: ((kids t).map enc).drop (k + 1))) = enc (rb t ((kids t).set k x)) := by
  cases t with
  | u f y => match k, h with | 0, _ => simp [enc]
  | b f y z => match k, h with | 0, _ => simp [enc] | 1, _ => simp [enc]
  | t f y z w => match k, h with | 0, _ => simp [enc] | 1, _ => simp [enc] | 2, _ => simp [enc]
  | _ => simp at h
theorem cut_from1 {α : Type} (xs : List α) (k : Nat) : cut xs (some ((k : Int) + 1)) none = xs.drop (k + 1) := cut_from xs (k + 1)
theorem c45 {t p u} (h : At t p u) (new : Tm) : ∀ (n : Nat) (M : Mem), p.length < n → callN pg wf (n + 1) 45 [enc t, encp p, enc new] M = .ok (enc (rp t p new)) M := by
  induction h with
  | nil => intro n M hn; rw [callS (d := d45) rfl]; simp [d45, gcM_lt, rp]
  | @cons t a u p k h _ ih =>
    intro n M hn; rw [callS (d := d45) rfl]
    obtain ⟨m, rfl⟩ : ∃ m, n = m + 1 := ⟨n - 1, by omega⟩
    simp at hn
    have h0 : ¬ ((p.length : Int) + 1 = 0) := by omega
    have h3 := kids_3 t
    have h4 : 1 + min k (kids t).length ≤ 16777216 := by omega
    have h5 : min k (kids t).length + 1 + 1 ≤ 16777216 := by omega
    have h6 : min k (kids t).length + 1 + 1 + ((kids t).length - (k + 1)) ≤ 16777216 := by omega
    have hs := swp (x := rp a p new) h
    simp [d45, gcM_lt, gcM_locE, h0, atI_nat, h, ih m _ hn, cut_from1, cut_to, rp, h4, h5, h6, hs]
end PK.proofkernel_k00_whole_terms_places_and_p
end

section
set_option Elab.async false
set_option linter.all false
set_option maxHeartbeats 4000000
set_option maxRecDepth 100000
namespace PK.proofkernel_k00_whole_terms_places_and_p
open PK
variable {wf : Nat}
/-! numerals -/
def num : Nat → Tm
  | 0 => .nm [122, 101, 114, 111]
  | n + 1 => .b .ap (.nm [115, 117, 99, 99]) (num n)
theorem num_dp (n : Nat) : dp (num n) ≤ n := by induction n <;> simp [num]; omega
abbrev fb28 : SS := (pSeq (pSet 1 (sTup (sCons (sC (.str [97, 112, 112])) (sCons (sTup (sCons (sC (.str [110, 97, 109, 101])) (sCons (sC (.str [115, 117, 99, 99])) (sNil)))) (sCons (sVar 1) (sNil)))))) (pNil))
abbrev fb42 : SS := (pSeq (pSet 1 (sTup (sCons (sC (.str [97, 112, 112])) (sCons (sTup (sCons (sC (.str [110, 97, 109, 101])) (sCons (sC (.str [115, 117, 99, 99])) (sNil)))) (sCons (sVar 1) (sNil)))))) (pNil))
theorem fnum {κ : Ctx} {x0 : Option D} : ∀ (k : Nat) (a c : Int) (m : Nat) (x2 : Option D) (M : Mem), ∃ y, forGo κ (.name 2) fb28 (rangeD a c k) [x0, some (enc (num m)), x2] M = .nx [x0, some (enc (num (m + k))), y] M
  | 0, a, c, m, x2, M => ⟨x2, by simp⟩
  | k + 1, a, c, m, x2, M => by
    obtain ⟨y, hy⟩ := fnum (κ := κ) (x0 := x0) k (a + c) c (m + 1) (some (.int a)) M
    refine ⟨y, ?_⟩
    have e : m + (k + 1) = m + 1 + k := by omega
    have e2 : D.tup [.str [97, 112, 112], .tup [.str [110, 97, 109, 101], .str [115, 117, 99, 99]], enc (num m)] = enc (num (m + 1)) := by simp [num, enc, bt]
    rw [e, ← hy, range_s]
    simp [for_cons, gcM_lt]
    rw [e2]
theorem c1 (n : Nat) (M : Mem) (k : Nat) (hk : k ≤ 60) : callN pg wf (n + 2) 1 [.int k, .int 0, .int 60] M = .ok .non M := by
  rw [callS (d := d1) rfl]
  have : (k : Int) ≤ 60 := by omega
  simp [d1, gcM_lt, this]
theorem c28 (n : Nat) (M : Mem) (k : Nat) (hk : k ≤ 60) : callN pg wf (n + 3) 28 [.int k] M = .ok (enc (num k)) M := by
  rw [callS (d := d28) rfl]
  obtain ⟨y, hy⟩ := fnum (κ := ⟨callN pg wf (n + 2), wf, n + 2⟩) (x0 := some (.int k)) k 0 1 0 none M
  have e2 : D.tup [.str [110, 97, 109, 101], .str [122, 101, 114, 111]] = enc (num 0) := by simp [num, enc]
  have h1 : k ≤ 16777216 := by omega
  simp at hy
  simp [d28, gcM_lt, c1 n M k hk, h1]
  simp [e2, hy, gcM_lt]
theorem c42 (n : Nat) (M : Mem) (k : Nat) (hk : k ≤ 60) : callN pg wf (n + 1) 42 [.int k] M = .ok (enc (num k)) M := by
  rw [callS (d := d42) rfl]
  obtain ⟨y, hy⟩ := fnum (κ := ⟨callN pg wf n, wf, n⟩) (x0 := some (.int k)) k 0 1 0 none M
  have e2 : D.tup [.str [110, 97, 109, 101], .str [122, 101, 114, 111]] = enc (num 0) := by simp [num, enc]
  have h1 : k ≤ 16777216 := by omega
  simp at hy
  simp [d42, gcM_lt, h1]
  simp [e2, hy, gcM_lt]
abbrev wc29 : SE := (sAnd (sBin dEqB (sBin (dIx tb) (sVar 0) (sC (.int 0))) (sC (.str [97, 112, 112]))) (sBin dEqB (sBin (dIx tb) (sVar 0) (sC (.int 1))) (sTup (sCons (sC (.str [110, 97, 109, 101])) (sCons (sC (.str [115, 117, 99, 99])) (sNil))))))
abbrev wb29 : SS := (pSeq (pTup [1, 0] (sTup (sCons (sBin dAdd (sVar 1) (sC (.int 1))) (sCons (sBin (dIx tb) (sVar 0) (sC (.int 2))) (sNil))))) (pNil))
theorem eq_succ {M : Mem} : dEqB (enc (.nm [115, 117, 99, 99])) (.tup [.str [110, 97, 109, 101], .str [115, 117, 99, 99]]) M = .ok (.bl true) M := by
  rw [show D.tup [.str [110, 97, 109, 101], .str [115, 117, 99, 99]] = enc (.nm [115, 117, 99, 99]) from by simp [enc]]
  exact eqB_same (enc_flat _) (by rw [enc_dep]; simp)
theorem w29 {κ : Ctx} {M : Mem} : ∀ (k f : Nat) (s : Int), k < f → whileGo κ wc29 wb29 f [some (enc (num k)), some (.int s)] M = .nx [some (enc (num 0)), some (.int (s + k))] M
  | 0, f, s, h => by
    obtain ⟨g, rfl⟩ : ∃ g, f = g + 1 := ⟨f - 1, by omega⟩
    simp [while_s, num, gcM_lt]
  | k + 1, f, s, h => by
    obtain ⟨g, rfl⟩ : ∃ g, f = g + 1 := ⟨f - 1, by omega⟩
    have ih := w29 (κ := κ) (M := M) k g (s + 1) (by omega)
    have e : s + ((k + 1 : Nat) : Int) = s + 1 + k := by omega
    rw [e, ← ih]
    simp [while_s, num, gcM_lt, eq_succ, bt]
theorem c29 (n : Nat) (M : Mem) (k : Nat) (hw : k < wf) : callN pg wf (n + 1) 29 [enc (num k)] M = .ok (.int k) M := by
  rw [callS (d := d29) rfl]
  have h := w29 (κ := ⟨callN pg wf n, wf, n⟩) (M := M) k wf 0 hw
  have e : dEqB (enc (num 0)) (.tup [.str [110, 97, 109, 101], .str [122, 101, 114, 111]]) M = .ok (.bl true) M := by
    rw [show D.tup [.str [110, 97, 109, 101], .str [122, 101, 114, 111]] = enc (num 0) from by simp [enc, num]]
    exact eqB_same (enc_flat _) (by rw [enc_dep]; simp [num])
  simp at h
  simp [d29, gcM_lt, h, e]
theorem c29_f (n : Nat) (M : Mem) (hw : wf = w + 5) : callN pg wf (n + 1) 29 [.tup [.str [97, 112, 112], .tup [.str [110, 97, 109, 101], .str [115, 117, 99, 99]], .tup [.str [110, 97, 109, 101], .str [102]]]] M = .ok .non M := by
  rw [callS (d := d29) rfl]
  subst hw
  have e : ∀ x y : List Nat, dEqB (.tup [.str [110, 97, 109, 101], .str x]) (.tup [.str [110, 97, 109, 101], .str y]) M = .ok (.bl (x == y)) M := by
    intro x y; simp [dEqB, dEq, D.flat, D.flatL, D.dep, D.depL, D.eqv, D.eqvL]
  simp [d29, gcM_lt, while_s, e]
/-! _law_state, _law_take -/
theorem c31 (n : Nat) (M : Mem) (s : Nat) (a b m : Int) (hs : M[s]? = some (.lst [.int a, .int b])) (hm : 0 < m) (hm2 : m < 1073741824) (ha : 0 ≤ a) (hb : 0 ≤ b) :
    ∃ v a' b', callN pg wf (n + 1) 31 [.loc s, .int m] M = .ok (.int v) (M.set s (.lst [.int a', .int b'])) ∧ 0 ≤ v ∧ v < m ∧ 0 ≤ a' ∧ 0 ≤ b' := by
  rw [callS (d := d31) rfl]
  have hlt : s < M.length := get_lt hs
  have hl2 : ∀ o, (M.set s o)[s]? = some o := fun o => by rw [List.getElem?_set_self hlt]
  have ht : ∀ o, (M.set s o).take M.length = M.set s o := fun o => by rw [← List.length_set (a := o) (i := s) (as := M)]; exact List.take_length
  by_cases h0 : 0 < a
  · refine ⟨a % m, a / m, b, ?_, Int.emod_nonneg _ (by omega), Int.emod_lt_of_pos _ hm, Int.ediv_nonneg ha (by omega), hb⟩
    simp [d31, gcM_lt, hs, h0, hm, hm2, ixN_nat, L2.ixN, ht]
  · refine ⟨(b * 48271 + 11) % 2147483647 / 7 % m, a, (b * 48271 + 11) % 2147483647, ?_, Int.emod_nonneg _ (by omega), Int.emod_lt_of_pos _ hm, ha, Int.emod_nonneg _ (by omega)⟩
    simp [d31, gcM_lt, hs, h0, hm, hm2, L2.ixN, ht, hl2]
end PK.proofkernel_k00_whole_terms_places_and_p
end

section
set_option Elab.async false
set_option linter.all false
set_option maxHeartbeats 4000000
set_option maxRecDepth 100000
namespace PK.proofkernel_k00_whole_terms_places_and_p
open PK
variable {wf : Nat}
abbrev fb30 : SS := (pSeq (pSet 1 (sBin dAdd (sBin dMul (sVar 1) (sC (.int 1000003))) (sRow (one dAbs) (sCons (sVar 3) (sNil))))) (pSeq (pSet 2 (sBin dMod (sRow (one dToInt) (sCons (sBin dAdd (sBin dMul (sVar 2) (sC (.int 48271))) (sVar 3)) (sNil))) (sC (.int 2147483647)))) (pNil)))
theorem f30 {κ : Ctx} {x0 : Option D} {M : Mem} : ∀ (ns : List Int) (a b : Int) (x3 : Option D), 0 ≤ a → 0 ≤ b → ∃ a' b' x3', forGo κ (.name 3) fb30 (ns.map .int) [x0, some (.int a), some (.int b), x3] M = .nx [x0, some (.int a'), some (.int b'), x3'] M ∧ 0 ≤ a' ∧ 0 ≤ b'
  | [], a, b, x3, ha, hb => ⟨a, b, x3, by simp, ha, hb⟩
  | i :: ns, a, b, x3, ha, hb => by
    obtain ⟨a', b', y, hy, h1, h2⟩ := f30 (κ := κ) (x0 := x0) (M := M) ns (a * 1000003 + (if i < 0 then -i else i)) ((b * 48271 + i) % 2147483647) (some (.int i)) (by split <;> omega) (Int.emod_nonneg _ (by omega))
    refine ⟨a', b', y, ?_, h1, h2⟩
    rw [← hy]
    simp [for_cons, gcM_lt]
/-- the state's list -/
def st (a b : Int) : MO := .lst [.int a, .int b]
theorem c30 (n : Nat) (M : Mem) (ns : List Int) : ∃ a b, callN pg wf (n + 1) 30 [.kst ns] M = .ok (.loc M.length) (M ++ [st a b]) ∧ 0 ≤ a ∧ 0 ≤ b := by
  obtain ⟨a, b, y, h, ha, hb⟩ := f30 (κ := ⟨callN pg wf n, wf, n⟩) (x0 := some (.kst ns)) (M := M) (cut ns none (some 63)) 0 1 none (by omega) (by omega)
  refine ⟨a, if b = 1973665155 then 7 else b, ?_, ha, by split <;> omega⟩
  rw [callS (d := d30) rfl]
  by_cases h7 : b = 1973665155
  · simp [d30, gcM_lt, h, ints_lt, h7, gcM_locE, st]
  · simp [d30, gcM_lt, h, ints_lt, h7, gcM_locE, st]
theorem s31 (n : Nat) (M : Mem) (s : Nat) (hs : s < M.length) (m : Int) (hm : 0 < m) (hm2 : m < 1073741824) (a b : Int) (ha : 0 ≤ a) (hb : 0 ≤ b) :
    ∃ v a' b', callN pg wf (n + 1) 31 [.loc s, .int m] (M.set s (st a b)) = .ok (.int v) (M.set s (st a' b')) ∧ 0 ≤ v ∧ v < m ∧ 0 ≤ a' ∧ 0 ≤ b' := by
  obtain ⟨v, a', b', h, h1, h2, h3, h4⟩ := c31 (wf := wf) n (M.set s (st a b)) s a b m (by rw [List.getElem?_set_self hs]; rfl) hm hm2 ha hb
  exact ⟨v, a', b', by rw [h, List.set_set]; rfl, h1, h2, h3, h4⟩
/-- terms as the law draws them -/
@[simp] def wt : Tm → Prop
  | .pl i => 0 ≤ i ∧ i < 6
  | .nm s => s = [102] ∨ s = [103] ∨ s = [104]
  | .so i => 0 ≤ i ∧ i < 6
  | .u _ a => wt a
  | .b _ a b => wt a ∧ wt b
  | .t _ a b c => wt a ∧ wt b ∧ wt c
theorem take_set {M : Mem} {s o} : (M.set s o).take M.length = M.set s o := by
  rw [← List.length_set (a := o) (i := s) (as := M)]; exact List.take_length
theorem l46 (s n : Nat) (M : Mem) (hs : s < M.length) (deep v a b a0 b0 : Int) (ha : 0 ≤ a) (hb : 0 ≤ b) (hv : 0 ≤ v) (hv3 : v < 3)
    (hk : callN pg wf (n + 1) 31 [.loc s, .int (if 0 < deep then 11 else 3)] (M.set s (st a0 b0)) = .ok (.int v) (M.set s (st a b))) :
    ∃ t a' b', callN pg wf (n + 2) 46 [.loc s, .int deep] (M.set s (st a0 b0)) = .ok (enc t) (M.set s (st a' b')) ∧ 0 ≤ a' ∧ 0 ≤ b' ∧ wt t ∧ dp t = 0 ∧ sz t = 1 := by
  obtain ⟨v1, a1, b1, e1, p1, q1, ha1, hb1⟩ := s31 (wf := wf) n M s hs 6 (by omega) (by omega) a b ha hb
  obtain ⟨v2, a2, b2, e2, p2, q2, ha2, hb2⟩ := s31 (wf := wf) n M s hs 3 (by omega) (by omega) a1 b1 ha1 hb1
  obtain ⟨v3, a3, b3, e3, p3, q3, ha3, hb3⟩ := s31 (wf := wf) n M s hs 6 (by omega) (by omega) a2 b2 ha2 hb2
  have hn : ∃ c, L2.atI [102, 103, 104] v2 = some c ∧ (c = 102 ∨ c = 103 ∨ c = 104) := by
    rcases (by omega : v2 = 0 ∨ v2 = 1 ∨ v2 = 2) with rfl | rfl | rfl
    · exact ⟨102, rfl, by simp⟩
    · exact ⟨103, rfl, by simp⟩
    · exact ⟨104, rfl, by simp⟩
  obtain ⟨c, hc, hc3⟩ := hn
  by_cases h0 : 0 < deep
  · rw [if_pos h0] at hk
    rcases (by omega : v = 0 ∨ v = 1 ∨ v = 2) with rfl | rfl | rfl
    · exact ⟨.pl v1, a3, b3, by rw [callS (d := d46) rfl]; simp [d46, h0, hk, gcM_lt, take_set, e1, e2, e3, hc]; simp [enc], ha3, hb3, ⟨p1, q1⟩, rfl, rfl⟩
    · exact ⟨.nm [c], a3, b3, by rw [callS (d := d46) rfl]; simp [d46, h0, hk, gcM_lt, take_set, e1, e2, e3, hc]; simp [enc], ha3, hb3, by simpa using hc3, rfl, rfl⟩
    · exact ⟨.so v3, a3, b3, by rw [callS (d := d46) rfl]; simp [d46, h0, hk, gcM_lt, take_set, e1, e2, e3, hc]; simp [enc], ha3, hb3, ⟨p3, q3⟩, rfl, rfl⟩
  · rw [if_neg h0] at hk
    rcases (by omega : v = 0 ∨ v = 1 ∨ v = 2) with rfl | rfl | rfl
    · exact ⟨.pl v1, a3, b3, by rw [callS (d := d46) rfl]; simp [d46, h0, hk, gcM_lt, take_set, e1, e2, e3, hc]; simp [enc], ha3, hb3, ⟨p1, q1⟩, rfl, rfl⟩
    · exact ⟨.nm [c], a3, b3, by rw [callS (d := d46) rfl]; simp [d46, h0, hk, gcM_lt, take_set, e1, e2, e3, hc]; simp [enc], ha3, hb3, by simpa using hc3, rfl, rfl⟩
    · exact ⟨.so v3, a3, b3, by rw [callS (d := d46) rfl]; simp [d46, h0, hk, gcM_lt, take_set, e1, e2, e3, hc]; simp [enc], ha3, hb3, ⟨p3, q3⟩, rfl, rfl⟩
theorem s46 (s : Nat) : ∀ (deep n : Nat) (M : Mem), s < M.length → deep < n → ∀ a b : Int, 0 ≤ a → 0 ≤ b →
    ∃ t a' b', callN pg wf (n + 1) 46 [.loc s, .int deep] (M.set s (st a b)) = .ok (enc t) (M.set s (st a' b')) ∧ 0 ≤ a' ∧ 0 ≤ b' ∧ wt t ∧ dp t ≤ deep ∧ 2 * sz t + 1 ≤ 3 ^ (deep + 1) := by
  intro deep
  induction deep with
  | zero =>
    intro n M hs hn a b ha hb
    obtain ⟨m, rfl⟩ : ∃ m, n = m + 1 := ⟨n - 1, by omega⟩
    obtain ⟨v, a1, b1, e1, p1, q1, ha1, hb1⟩ := s31 (wf := wf) m M s hs 3 (by omega) (by omega) a b ha hb
    obtain ⟨t, a2, b2, e2, ha2, hb2, h3, h4, h5⟩ := l46 s m M hs 0 v a1 b1 a b ha1 hb1 p1 q1 (by rw [if_neg (by omega)]; exact e1)
    exact ⟨t, a2, b2, e2, ha2, hb2, h3, by omega, by omega⟩
  | succ deep ih =>
    intro n M hs hn a b ha hb
    obtain ⟨m, rfl⟩ : ∃ m, n = m + 1 := ⟨n - 1, by omega⟩
    have h0 : (0 : Int) < ((deep + 1 : Nat) : Int) := by omega
    obtain ⟨v, a1, b1, e1, p1, q1, ha1, hb1⟩ := s31 (wf := wf) m M s hs 11 (by omega) (by omega) a b ha hb
    have hpow : 3 ^ (deep + 1 + 1) = 3 * 3 ^ (deep + 1) := by rw [Nat.pow_succ (n := 3) (m := deep + 1)]; omega
    have hpos : 3 ≤ 3 ^ (deep + 1) := by have := Nat.pow_pos (n := deep) (show 0 < 3 by omega); rw [Nat.pow_succ]; omega
    by_cases hv : v < 3
    · obtain ⟨t, a2, b2, e2, ha2, hb2, h3, h4, h5⟩ := l46 s m M hs ((deep + 1 : Nat) : Int) v a1 b1 a b ha1 hb1 p1 hv (by rw [if_pos h0]; exact e1)
      exact ⟨t, a2, b2, e2, ha2, hb2, h3, by omega, by omega⟩
    · obtain ⟨t1, a2, b2, e2, ha2, hb2, w1, d1, z1⟩ := ih m M hs (by omega) a1 b1 ha1 hb1
      obtain ⟨t2, a3, b3, e3, ha3, hb3, w2, d2, z2⟩ := ih m M hs (by omega) a2 b2 ha2 hb2
      obtain ⟨t3, a4, b4, e4, ha4, hb4, w3, d3, z3⟩ := ih m M hs (by omega) a3 b3 ha3 hb3
      have hd : ((deep : Int) + 1 - 1) = deep := by omega
      have h0' : (0 : Int) < (deep : Int) + 1 := by omega
      rcases (by omega : v = 3 ∨ v = 4 ∨ v = 5 ∨ v = 6 ∨ v = 7 ∨ v = 8 ∨ v = 9 ∨ v = 10) with rfl | rfl | rfl | rfl | rfl | rfl | rfl | rfl
      · exact ⟨.b .pi t1 t2, a3, b3, by rw [callS (d := d46) rfl]; simp [d46, h0', e1, gcM_lt, take_set, L2.atI, L2.ixN, D.flatL, D.flat, D.depL, D.dep, hd, e2, e3]; simp [enc, bt], ha3, hb3, ⟨w1, w2⟩, by simp; omega, by simp; omega⟩
      · exact ⟨.b .fn t1 t2, a3, b3, by rw [callS (d := d46) rfl]; simp [d46, h0', e1, gcM_lt, take_set, L2.atI, L2.ixN, D.flatL, D.flat, D.depL, D.dep, hd, e2, e3]; simp [enc, bt], ha3, hb3, ⟨w1, w2⟩, by simp; omega, by simp; omega⟩
      · exact ⟨.b .ap t1 t2, a3, b3, by rw [callS (d := d46) rfl]; simp [d46, h0', e1, gcM_lt, take_set, L2.atI, L2.ixN, D.flatL, D.flat, D.depL, D.dep, hd, e2, e3]; simp [enc, bt], ha3, hb3, ⟨w1, w2⟩, by simp; omega, by simp; omega⟩
      · exact ⟨.b .sg t1 t2, a3, b3, by rw [callS (d := d46) rfl]; simp [d46, h0', e1, gcM_lt, take_set, L2.atI, L2.ixN, D.flatL, D.flat, D.depL, D.dep, hd, e2, e3]; simp [enc, bt], ha3, hb3, ⟨w1, w2⟩, by simp; omega, by simp; omega⟩
      · exact ⟨.t .pr t1 t2 t3, a4, b4, by rw [callS (d := d46) rfl]; simp [d46, h0', e1, gcM_lt, take_set, L2.atI, L2.ixN, D.flatL, D.flat, D.depL, D.dep, hd, e2, e3, e4]; simp [enc, tt], ha4, hb4, ⟨w1, w2, w3⟩, by simp; omega, by simp; omega⟩
      · exact ⟨.u .one t1, a2, b2, by rw [callS (d := d46) rfl]; simp [d46, h0', e1, gcM_lt, take_set, L2.atI, L2.ixN, D.flatL, D.flat, D.depL, D.dep, hd, e2]; simp [enc, ut], ha2, hb2, w1, by simp; omega, by simp; omega⟩
      · exact ⟨.u .two t1, a2, b2, by rw [callS (d := d46) rfl]; simp [d46, h0', e1, gcM_lt, take_set, L2.atI, L2.ixN, D.flatL, D.flat, D.depL, D.dep, hd, e2]; simp [enc, ut], ha2, hb2, w1, by simp; omega, by simp; omega⟩
      · exact ⟨.t .lt t1 t2 t3, a4, b4, by rw [callS (d := d46) rfl]; simp [d46, h0', e1, gcM_lt, take_set, L2.atI, L2.ixN, D.flatL, D.flat, D.depL, D.dep, hd, e2, e3, e4]; simp [enc, tt], ha4, hb4, ⟨w1, w2, w3⟩, by simp; omega, by simp; omega⟩
end PK.proofkernel_k00_whole_terms_places_and_p
end

section
set_option Elab.async false
set_option linter.all false
set_option maxHeartbeats 4000000
set_option maxRecDepth 100000
namespace PK.proofkernel_k00_whole_terms_places_and_p
open PK
variable {wf : Nat}
@[simp] theorem c32 (n : Nat) (M : Mem) (a b : Bool) : callN pg wf (n + 1) 32 [.bl a, .bl b] M = .ok (.bl (a == b)) M := by
  rw [callS (d := d32) rfl]; simp [d32, gcM_lt]
@[simp] theorem c33 (n : Nat) (M : Mem) (i : Int) : callN pg wf (n + 1) 33 [.int i] M = .ok (.bl true) M := by
  rw [callS (d := d33) rfl]; simp [d33, gcM_lt]
/-- what _law_same is asked of -/
inductive Gd : D → Prop
  | int (i : Int) : Gd (.int i)
  | str (s : List Nat) : Gd (.str s)
  | tup (xs : List D) (h : ∀ x ∈ xs, Gd x) (hl : xs.length ≤ 16000000) : Gd (.tup xs)
theorem depL_mem : ∀ {xs : List D} {x : D}, x ∈ xs → x.dep ≤ D.depL xs
  | y :: ys, x, h => by
    simp at h
    simp only [D.depL]
    rcases h with rfl | h
    · omega
    · have := depL_mem h; omega
theorem c34 : ∀ (n : Nat) (d : D) (M : Mem), Gd d → d.dep + 1 < n → callN pg wf (n + 1) 34 [d, d] M = .ok (.bl true) M := by
  intro n
  induction n with
  | zero => intro d M _ h; omega
  | succ n ih =>
    intro d M hd h
    rw [callS (d := d34) rfl]
    obtain ⟨m, rfl⟩ : ∃ m, n = m + 1 := ⟨n - 1, by omega⟩
    cases hd with
    | int i => simp [d34, gcM_lt]
    | str s => simp [d34, gcM_lt]
    | tup xs hx hl =>
      have hl2 : xs.length ≤ 16777216 := by omega
      have hc : ∀ κ : Ctx, κ = ⟨callN pg wf (m + 1 + 1), wf, m + 1 + 1⟩ → compGo κ [some (.tup xs), some (.tup xs), none] (.name 2) none (sCall 34 [] (sCons (sBin (dIx tb) (sVar 0) (sVar 2)) (sCons (sBin (dIx tb) (sVar 1) (sVar 2)) (sNil)))) (rangeD 0 1 xs.length) [] M = .ok ((rangeD 0 1 xs.length).map (D.bl ∘ fun _ => true)) M := by
        intro κ hκ
        rw [comp_map (D.bl ∘ fun _ => true)]
        · simp
        · intro x hxr
          simp only [rangeD, List.mem_map, List.mem_range] at hxr
          obtain ⟨i, hi, rfl⟩ := hxr
          have hmem : xs[i] ∈ xs := List.getElem_mem hi
          have hdp := depL_mem hmem
          simp [D.dep] at h
          refine ⟨_, M, rfl, ?_, by simp, by simp⟩
          simp [hκ, atI_nat, hi, ih xs[i] M (hx _ hmem) (by omega)]
        · simp [rangeD]; omega
      simp [d34, gcM_lt, hl2, hc _ rfl]
/-! _law_told -/
def malT : D := .tup [.str [109, 97, 108, 102, 111, 114, 109, 101, 100], .non, .non]
def refT : D := .tup [.str [114, 101, 102, 117, 115, 101, 100], .str [112, 97, 116, 104], .tup []]
@[simp] theorem pTry_eq {body hs κ ρ M} : pTry body hs κ ρ M = (match body κ ρ M with
  | .exc x ρ' M' => tryGo hs x ρ' M'
  | o => o) := Eq.trans rfl rfl
theorem t35_2 {n f : Nat} {x y : D} {M : Mem} (h : callN pg wf n f [x, y] M = .exc pathExc M) : callN pg wf (n + 1) 35 [.fn f, .tup [x, y]] M = .ok refT M := by
  rw [callS (d := d35) rfl]
  simp [d35, gcM_lt, h, pathExc, tryGo, xTup, xCons, xC, xNil, xGet, refT, List.lookup]
theorem t35_3 {n f : Nat} {x y z : D} {M : Mem} (h : callN pg wf n f [x, y, z] M = .exc pathExc M) : callN pg wf (n + 1) 35 [.fn f, .tup [x, y, z]] M = .ok refT M := by
  rw [callS (d := d35) rfl]
  simp [d35, gcM_lt, h, pathExc, tryGo, xTup, xCons, xC, xNil, xGet, refT, List.lookup]
theorem m35_1 {n f : Nat} {x : D} {M : Mem} (h : callN pg wf n f [x] M = .exc ⟨1, []⟩ M) : callN pg wf (n + 1) 35 [.fn f, .tup [x]] M = .ok malT M := by
  rw [callS (d := d35) rfl]
  simp [d35, gcM_lt, h, tryGo, xTup, xCons, xC, xNil, xGet, malT]
theorem m35_2 {n f : Nat} {x y : D} {M : Mem} (h : callN pg wf n f [x, y] M = .exc ⟨1, []⟩ M) : callN pg wf (n + 1) 35 [.fn f, .tup [x, y]] M = .ok malT M := by
  rw [callS (d := d35) rfl]
  simp [d35, gcM_lt, h, tryGo, xTup, xCons, xC, xNil, xGet, malT]
theorem c36 (n : Nat) (M : Mem) (a : Nat) (xs : List D) (ha : M[a]? = some (.lst xs)) (hl : D.ltL M.length xs = true) (hn : xs.length ≤ 1000)
    (h : ∀ x ∈ xs, ∃ f g, x = .tup [.fn f, g] ∧ callN pg wf n 35 [.fn f, g] (M.set a (.lck xs)) = .ok malT (M.set a (.lck xs))) : callN pg wf (n + 1) 36 [.loc a] M = .ok (.bl true) M := by
  rw [callS (d := d36) rfl]
  have hlt := get_lt ha
  have hof : ofF (.loc a) M.length M = .ok xs (some a) (M.set a (.lck xs)) := by
    have := ofF_old (M := M) hlt (by simpa using ha) hl
    simpa using this
  have hc : ∀ κ : Ctx, κ = ⟨callN pg wf n, wf, n⟩ → compGo κ [some (.loc a), none, none] (.tup [1, 2]) none (sBin dEqB (sCall 35 [] (sCons (sVar 1) (sCons (sVar 2) (sNil)))) (sTup (sCons (sC (.str [109, 97, 108, 102, 111, 114, 109, 101, 100])) (sCons (sC .non) (sCons (sC .non) (sNil)))))) xs [] (M.set a (.lck xs)) = .ok (xs.map (D.bl ∘ fun _ => true)) (M.set a (.lck xs)) := by
    intro κ hκ
    rw [comp_map (D.bl ∘ fun _ => true)]
    · simp
    · intro x hx
      obtain ⟨f, g, rfl, hf⟩ := h x hx
      refine ⟨_, M.set a (.lck xs), rfl, ?_, by rw [List.take_length], by simp⟩
      have e := eqB_same (M := M.set a (.lck xs)) (d := malT) (by rfl) (by simp [malT, D.dep, D.depL])
      simp only [malT] at e hf
      simp [hκ, hf, e]
    · simp; omega
  have hM : M.set a (.lst xs) = M := by
    apply List.ext_getElem?
    intro i
    rw [List.getElem?_set]
    by_cases h : a = i
    · subst h; rw [if_pos rfl, if_pos hlt, ha]
    · simp [h]
  have hf : ∀ ds, finC (some a) (.ok ds (M.set a (.lck xs))) = .ok (.loc M.length) (M ++ [.lst ds]) := by
    intro ds
    rw [finC_s (xs := xs) (by rw [List.getElem?_set_self hlt]), List.set_set, hM]; simp
  simp [d36, gcM_lt, hof, hc _ rfl, hf]
end PK.proofkernel_k00_whole_terms_places_and_p
end

section
set_option Elab.async false
set_option linter.all false
set_option maxHeartbeats 4000000
set_option maxRecDepth 100000
namespace PK.proofkernel_k00_whole_terms_places_and_p
open PK
variable {wf : Nat}
/-! _law_free -/
@[simp] def fr : Tm → Int → List Int
  | .pl i, d => if d ≤ i then [i - d] else []
  | .u _ a, d => fr a d
  | .b f a b, d => fr a d ++ fr b (d + bi f)
  | .t f a b c, d => fr a d ++ fr b d ++ fr c (d + ti f)
  | _, _ => []
theorem fr_len (t : Tm) : ∀ d, (fr t d).length ≤ sz t := by
  induction t with
  | pl i => intro d; simp; split <;> simp
  | u f a iha => intro d; have := iha d; simp; omega
  | b f a b iha ihb => intro d; have := iha d; have := ihb (d + bi f); simp; omega
  | t f a b c iha ihb ihc => intro d; have := iha d; have := ihb d; have := ihc (d + ti f); simp; omega
  | _ => intro d; simp
theorem c47 (t : Tm) : ∀ (n : Nat) (d : Int) (M : Mem), dp t + 1 < n → sz t ≤ 10000 → callN pg wf (n + 1) 47 [enc t, .int d] M = .ok (.loc M.length) (M ++ [.lst ((fr t d).map .int)]) := by
  induction t with
  | pl i =>
    intro n d M h hs; rw [callS (d := d47) rfl]
    by_cases h1 : d ≤ i <;> simp [d47, gcM_lt, gcM_locE, h1]
  | u f a iha =>
    intro n d M h hs; rw [callS (d := d47) rfl]; obtain ⟨m, rfl⟩ : ∃ m, n = m + 2 := ⟨n - 2, by omega⟩; simp at h hs
    have la := fr_len a d
    have h1 : (fr a d).length ≤ 16777216 := by omega
    simp [d47, gcM_lt, gcM_locE, gcM_tupF, for_cons, iha (m + 1) _ _ (by omega) (by omega), ints_lt, h1]
  | b f a b iha ihb =>
    intro n d M h hs; rw [callS (d := d47) rfl]; obtain ⟨m, rfl⟩ : ∃ m, n = m + 2 := ⟨n - 2, by omega⟩; simp at h hs
    have la := fr_len a d
    have lb := fr_len b (d + bi f)
    have h1 : (fr a d).length ≤ 16777216 := by omega
    have h2 : (fr a d).length + (fr b (d + bi f)).length ≤ 16777216 := by omega
    simp [d47, gcM_lt, gcM_locE, gcM_tupF, for_cons, iha (m + 1) _ _ (by omega) (by omega), ihb (m + 1) _ _ (by omega) (by omega), ints_lt, h1, h2]
  | t f a b c iha ihb ihc =>
    intro n d M h hs; rw [callS (d := d47) rfl]; obtain ⟨m, rfl⟩ : ∃ m, n = m + 2 := ⟨n - 2, by omega⟩; simp at h hs
    have la := fr_len a d
    have lb := fr_len b d
    have lc := fr_len c (d + ti f)
    have h1 : (fr a d).length ≤ 16777216 := by omega
    have h2 : (fr a d).length + (fr b d).length ≤ 16777216 := by omega
    have h3 : (fr a d).length + (fr b d).length + (fr c (d + ti f)).length ≤ 16777216 := by omega
    simp [d47, gcM_lt, gcM_locE, gcM_tupF, for_cons, iha (m + 1) _ _ (by omega) (by omega), ihb (m + 1) _ _ (by omega) (by omega), ihc (m + 1) _ _ (by omega) (by omega), ints_lt, h1, h2, h3]
  | _ => intro n d M h hs; rw [callS (d := d47) rfl]; obtain ⟨m, rfl⟩ : ∃ m, n = m + 2 := ⟨n - 2, by omega⟩; simp [d47, gcM_lt, gcM_tupF, gcM_locE]
/-! free_places -/
def kvI (ks : List Int) : List (D × D) := ks.map fun i => (.int i, .bl true)
def insK {α : Type} [DecidableEq α] (k : α) (ks : List α) : List α := if k ∈ ks then ks else ks ++ [k]
theorem kvI_any {i : Int} {ks : List Int} : ((kvI ks).any fun p => p.1.eqv (.int i)) = decide (i ∈ ks) := by
  induction ks with
  | nil => simp [kvI]
  | cons k ks ih =>
    simp only [kvI, List.map_cons, List.any_cons, D.eqv] at ih ⊢; rw [ih]; by_cases h : k = i
    · simp [h]
    · have h2 : ¬ i = k := fun e => h e.symm
      simp [h, h2]
theorem kvI_put {i : Int} {ks : List Int} : putK (.int i) (.bl true) (kvI ks) = kvI (insK i ks) := by
  unfold putK insK
  rw [kvI_any]
  by_cases h : i ∈ ks
  · simp only [h, decide_true, if_true, kvI, List.map_map]
    apply List.map_congr_left
    intro k _
    by_cases e : k = i <;> simp [D.eqv, e]
  · simp [h, kvI]
@[simp] theorem mem_insK {α : Type} [DecidableEq α] {k c : α} {ks : List α} : c ∈ insK k ks ↔ c = k ∨ c ∈ ks := by
  unfold insK; split
  · constructor; exact Or.inr; rintro (rfl | h); assumption; exact h
  · simp [or_comm]
theorem nodup_insK {α : Type} [DecidableEq α] {k : α} {ks : List α} (h : ks.Nodup) : (insK k ks).Nodup := by
  unfold insK; split
  · exact h
  · rename_i hk; rw [List.nodup_append]; exact ⟨h, by simp, by simp; intro a ha e; exact hk (e ▸ ha)⟩
theorem len_insK {α : Type} [DecidableEq α] {k : α} {ks : List α} : (insK k ks).length ≤ ks.length + 1 := by
  unfold insK; split <;> simp
def eD (x : Tm × Int) : D := .tup [enc x.1, .int x.2]
def totD (l : List (Tm × Int)) : Nat := (l.map fun x => sz x.1).sum
def inD (c : Int) (l : List (Tm × Int)) : Prop := ∃ x ∈ l, c ∈ fr x.1 x.2
abbrev wc17 : SE := (sBin dGt (sRow (dLen tb) (sCons (sVar 2) (sNil))) (sC (.int 0)))
abbrev wb17 : SS := (pSeq (pTup [3, 4] (sMeth dPop (sVar 2) sNil)) (pSeq (pIf (sAnd (sBin dEqB (sBin (dIx tb) (sVar 3) (sC (.int 0))) (sC (.str [97, 116]))) (sBin dGe (sBin (dIx tb) (sVar 3) (sC (.int 1))) (sVar 4))) (pSeq (pPut (sVar 1) (sBin dSub (sBin (dIx tb) (sVar 3) (sC (.int 1))) (sVar 4)) (sC (.bl true))) (pNil)) (pNil)) (pSeq (pDrop (sMeth dExtend (sVar 2) (sCons (sComp [5, 6] (.tup [5, 6]) (iZip (sCons (sCall 7 [] (sCons (sVar 3) (sNil))) (sCons (sCall 8 [] (sCons (sVar 3) (sNil))) (sNil)))) none (sTup (sCons (sVar 5) (sCons (sBin dAdd (sVar 4) (sVar 6)) (sNil))))) (sNil)))) (pNil))))
theorem w17 {n : Nat} {M : Mem} {κ : Ctx} (hκ : κ = ⟨callN pg wf (n + 1), wf, n + 1⟩) {x0 : Option D} : ∀ (f : Nat) (l : List (Tm × Int)) (ks : List Int) (x3 x4 x5 x6 : Option D), totD l < f → ks.length + totD l ≤ 10000 → ks.Nodup →
    ∃ ρ' ks', whileGo κ wc17 wb17 f [x0, some (.loc M.length), some (.loc (M.length + 1)), x3, x4, x5, x6] (M ++ [.dic (kvI ks), .lst (l.reverse.map eD)]) = .nx ρ' (M ++ [.dic (kvI ks'), .lst []]) ∧ ρ'[1]? = some (some (.loc M.length)) ∧ ks'.Nodup ∧ ks'.length ≤ ks.length + totD l ∧ ∀ c, c ∈ ks' ↔ c ∈ ks ∨ inD c l := by
  intro f
  induction f with
  | zero => intro l ks _ _ _ _ h; omega
  | succ f ih =>
    intro l ks x3 x4 x5 x6 hf hs hn
    match l with
    | [] => exact ⟨[x0, some (.loc M.length), some (.loc (M.length + 1)), x3, x4, x5, x6], ks, by simp [while_s], rfl, hn, by omega, by simp [inD]⟩
    | (t, d) :: l =>
      have e0 : ((t, d) :: l).reverse.map eD = l.reverse.map eD ++ [.tup [enc t, .int d]] := by simp [eD]
      have htot : totD ((t, d) :: l) = sz t + totD l := by simp [totD]
      have hll : l.length ≤ totD l := by
        clear ih hf hs e0 htot
        induction l with
        | nil => simp
        | cons x l ih => have := sz_pos x.1; simp [totD] at ih ⊢; omega
      have sp := sz_pos t
      rw [htot] at hf hs
      have hk : (kvI ks).length < 16777216 := by simp [kvI]; omega
      have h4 : l.length ≤ 16777215 := by omega
      have h5 : l.length ≤ 16777214 := by omega
      have h6 : l.length ≤ 16777213 := by omega
      have h7 : l.length ≤ 16777216 := by omega
      have hc : ∀ ks' : List Int, ks'.Nodup → (∀ c, c ∈ ks' ↔ c ∈ ks ∨ inD c ((t, d) :: l)) → True := fun _ _ _ => trivial
      cases t with
      | u g a =>
        simp at hf hs
        obtain ⟨ρ', ks', hw, hr, h1, h2, h3⟩ := ih ((a, d) :: l) ks (some (enc (.u g a))) (some (.int d)) x5 x6 (by simp [totD] at hf ⊢; omega) (by simp [totD] at hs ⊢; omega) hn
        refine ⟨ρ', ks', ?_, hr, h1, by simp [totD] at h2 ⊢; omega, fun c => (h3 c).trans (by simp [inD])⟩
        rw [while_s, e0]
        simp [hκ, eD] at hw
        simp [hκ, gcM_lt, h4, hw]
      | b g a b =>
        simp at hf hs
        obtain ⟨ρ', ks', hw, hr, h1, h2, h3⟩ := ih ((b, d + bi g) :: (a, d) :: l) ks (some (enc (.b g a b))) (some (.int d)) x5 x6 (by simp [totD] at hf ⊢; omega) (by simp [totD] at hs ⊢; omega) hn
        refine ⟨ρ', ks', ?_, hr, h1, by simp [totD] at h2 ⊢; omega, fun c => (h3 c).trans (by simp [inD, or_assoc, or_left_comm])⟩
        rw [while_s, e0]
        simp [hκ, eD] at hw
        simp [hκ, gcM_lt, h5, hw]
      | t g a b c =>
        simp at hf hs
        obtain ⟨ρ', ks', hw, hr, h1, h2, h3⟩ := ih ((c, d + ti g) :: (b, d) :: (a, d) :: l) ks (some (enc (.t g a b c))) (some (.int d)) x5 x6 (by simp [totD] at hf ⊢; omega) (by simp [totD] at hs ⊢; omega) hn
        refine ⟨ρ', ks', ?_, hr, h1, by simp [totD] at h2 ⊢; omega, fun c => (h3 c).trans (by simp [inD, or_assoc, or_left_comm])⟩
        rw [while_s, e0]
        simp [hκ, eD] at hw
        simp [hκ, gcM_lt, h6, hw]
      | pl i =>
        by_cases hi : d ≤ i
        · simp at hf hs
          have hlen := len_insK (k := i - d) (ks := ks)
          obtain ⟨ρ', ks', hw, hr, h1, h2, h3⟩ := ih l (insK (i - d) ks) (some (enc (.pl i))) (some (.int d)) x5 x6 (by omega) (by omega) (nodup_insK hn)
          refine ⟨ρ', ks', ?_, hr, h1, by simp [totD] at h2 ⊢; omega, fun c => (h3 c).trans (by simp [inD, hi]; constructor; (rintro ((h | h) | h) <;> simp [h]); (rintro (h | h | h) <;> simp [h]))⟩
          rw [while_s, e0]
          simp [hκ, eD] at hw
          simp [hκ, gcM_lt, h7, hi, hk, isKey, kvI_put, hw]
        · simp at hf hs
          obtain ⟨ρ', ks', hw, hr, h1, h2, h3⟩ := ih l ks (some (enc (.pl i))) (some (.int d)) x5 x6 (by omega) (by omega) hn
          refine ⟨ρ', ks', ?_, hr, h1, by simp [totD] at h2 ⊢; omega, fun c => (h3 c).trans (by simp [inD, hi])⟩
          rw [while_s, e0]
          simp [hκ, eD] at hw
          simp [hκ, gcM_lt, h7, hi, hw]
      | nm i =>
        simp at hf hs
        obtain ⟨ρ', ks', hw, hr, h1, h2, h3⟩ := ih l ks (some (enc (.nm i))) (some (.int d)) x5 x6 (by omega) (by omega) hn
        refine ⟨ρ', ks', ?_, hr, h1, by simp [totD] at h2 ⊢; omega, fun c => (h3 c).trans (by simp [inD])⟩
        rw [while_s, e0]
        simp [hκ, eD] at hw
        simp [hκ, gcM_lt, h7, hw]
      | so i =>
        simp at hf hs
        obtain ⟨ρ', ks', hw, hr, h1, h2, h3⟩ := ih l ks (some (enc (.so i))) (some (.int d)) x5 x6 (by omega) (by omega) hn
        refine ⟨ρ', ks', ?_, hr, h1, by simp [totD] at h2 ⊢; omega, fun c => (h3 c).trans (by simp [inD])⟩
        rw [while_s, e0]
        simp [hκ, eD] at hw
        simp [hκ, gcM_lt, h7, hw]
theorem c17 (t : Tm) (n : Nat) (M : Mem) (hs : sz t < 64) (hw : 64 ≤ wf) : ∃ ks : List Int, ks.Nodup ∧ (∀ c, c ∈ ks ↔ c ∈ fr t 0) ∧ callN pg wf (n + 2) 17 [enc t] M = .ok (.tup ((sortI ks).map .int)) M := by
  obtain ⟨ρ', ks, h, hr, h1, h2, h3⟩ := w17 (wf := wf) (n := n) (M := M) rfl (x0 := some (enc t)) wf [(t, 0)] [] none none none none (by simp [totD]; omega) (by simp [totD]; omega) (by simp)
  refine ⟨ks, h1, fun c => (h3 c).trans (by simp [inD]), ?_⟩
  rw [callS (d := d17) rfl]
  have hl : ks.length < 64 := by simp [totD] at h2; omega
  have e : (kvI ks).map (·.1) = ks.map .int := by simp [kvI, Function.comp_def]
  simp [eD, kvI] at h
  have hl2 : (kvI ks).length < 64 := by simpa [kvI] using hl
  simp [d17, gcM_lt, gcM_tupF, h, hr, hl, Function.comp_def, sortD_int, ints_lt]
end PK.proofkernel_k00_whole_terms_places_and_p
end

section
set_option Elab.async false
set_option linter.all false
set_option maxHeartbeats 4000000
set_option maxRecDepth 100000
namespace PK.proofkernel_k00_whole_terms_places_and_p
open PK
variable {wf : Nat}
/-! names_in -/
@[simp] def nms : Tm → List (List Nat)
  | .nm s => [s]
  | .u _ a => nms a
  | .b _ a b => nms a ++ nms b
  | .t _ a b c => nms a ++ nms b ++ nms c
  | _ => []
def kvS (ks : List (List Nat)) : List (D × D) := ks.map fun i => (.str i, .bl true)
theorem kvS_any {i : List Nat} {ks : List (List Nat)} : ((kvS ks).any fun p => p.1.eqv (.str i)) = decide (i ∈ ks) := by
  induction ks with
  | nil => simp [kvS]
  | cons k ks ih =>
    simp only [kvS, List.map_cons, List.any_cons, D.eqv] at ih ⊢; rw [ih]; by_cases h : k = i
    · simp [h]
    · have h2 : ¬ i = k := fun e => h e.symm
      simp [h, h2]
theorem kvS_put {i : List Nat} {ks : List (List Nat)} : putK (.str i) (.bl true) (kvS ks) = kvS (insK i ks) := by
  unfold putK insK
  rw [kvS_any]
  by_cases h : i ∈ ks
  · simp only [h, decide_true, if_true, kvS, List.map_map]
    apply List.map_congr_left
    intro k _
    by_cases e : k = i <;> simp [D.eqv, e]
  · simp [h, kvS]
def totT (l : List Tm) : Nat := (l.map sz).sum
def inT (c : List Nat) (l : List Tm) : Prop := ∃ x ∈ l, c ∈ nms x
abbrev wc18 : SE := (sBin dGt (sRow (dLen tb) (sCons (sVar 2) (sNil))) (sC (.int 0)))
abbrev wb18 : SS := (pSeq (pSet 3 (sMeth dPop (sVar 2) sNil)) (pSeq (pIf (sBin dEqB (sBin (dIx tb) (sVar 3) (sC (.int 0))) (sC (.str [110, 97, 109, 101]))) (pSeq (pPut (sVar 1) (sBin (dIx tb) (sVar 3) (sC (.int 1))) (sC (.bl true))) (pNil)) (pNil)) (pSeq (pDrop (sMeth dExtend (sVar 2) (sCons (sRow (dList) (sCons (sCall 7 [] (sCons (sVar 3) (sNil))) (sNil))) (sNil)))) (pNil))))
theorem w18 {n : Nat} {M : Mem} {κ : Ctx} (hκ : κ = ⟨callN pg wf (n + 1), wf, n + 1⟩) {x0 : Option D} : ∀ (f : Nat) (l : List Tm) (ks : List (List Nat)) (x3 : Option D), totT l < f → ks.length + totT l ≤ 10000 → ks.Nodup →
    ∃ ρ' ks', whileGo κ wc18 wb18 f [x0, some (.loc M.length), some (.loc (M.length + 1)), x3] (M ++ [.dic (kvS ks), .lst (l.reverse.map enc)]) = .nx ρ' (M ++ [.dic (kvS ks'), .lst []]) ∧ ρ'[1]? = some (some (.loc M.length)) ∧ ks'.Nodup ∧ ks'.length ≤ ks.length + totT l ∧ ∀ c, c ∈ ks' ↔ c ∈ ks ∨ inT c l := by
  intro f
  induction f with
  | zero => intro l ks _ h; omega
  | succ f ih =>
    intro l ks x3 hf hs hn
    match l with
    | [] => exact ⟨[x0, some (.loc M.length), some (.loc (M.length + 1)), x3], ks, by simp [while_s], rfl, hn, by omega, by simp [inT]⟩
    | t :: l =>
      have e0 : (t :: l).reverse.map enc = l.reverse.map enc ++ [enc t] := by simp
      have htot : totT (t :: l) = sz t + totT l := by simp [totT]
      have hll : l.length ≤ totT l := by
        clear ih hf hs e0 htot
        induction l with
        | nil => simp
        | cons x l ih => have := sz_pos x; simp [totT] at ih ⊢; omega
      have sp := sz_pos t
      rw [htot] at hf hs
      have hk : (kvS ks).length < 16777216 := by simp [kvS]; omega
      have h4 : l.length ≤ 16777215 := by omega
      have h5 : l.length ≤ 16777214 := by omega
      have h6 : l.length ≤ 16777213 := by omega
      have h7 : l.length ≤ 16777216 := by omega
      cases t with
      | u g a =>
        simp at hf hs
        obtain ⟨ρ', ks', hw, hr, h1, h2, h3⟩ := ih (a :: l) ks (some (enc (.u g a))) (by simp [totT] at hf ⊢; omega) (by simp [totT] at hs ⊢; omega) hn
        refine ⟨ρ', ks', ?_, hr, h1, by simp [totT] at h2 ⊢; omega, fun c => (h3 c).trans (by simp [inT])⟩
        rw [while_s, e0]
        simp [hκ] at hw
        simp [hκ, gcM_lt, h4, hw]
      | b g a b =>
        simp at hf hs
        obtain ⟨ρ', ks', hw, hr, h1, h2, h3⟩ := ih (b :: a :: l) ks (some (enc (.b g a b))) (by simp [totT] at hf ⊢; omega) (by simp [totT] at hs ⊢; omega) hn
        refine ⟨ρ', ks', ?_, hr, h1, by simp [totT] at h2 ⊢; omega, fun c => (h3 c).trans (by simp [inT, or_assoc, or_left_comm])⟩
        rw [while_s, e0]
        simp [hκ] at hw
        simp [hκ, gcM_lt, h5, hw]
      | t g a b c =>
        simp at hf hs
        obtain ⟨ρ', ks', hw, hr, h1, h2, h3⟩ := ih (c :: b :: a :: l) ks (some (enc (.t g a b c))) (by simp [totT] at hf ⊢; omega) (by simp [totT] at hs ⊢; omega) hn
        refine ⟨ρ', ks', ?_, hr, h1, by simp [totT] at h2 ⊢; omega, fun c => (h3 c).trans (by simp [inT, or_assoc, or_left_comm])⟩
        rw [while_s, e0]
        simp [hκ] at hw
        simp [hκ, gcM_lt, h6, hw]
      | nm i =>
        simp at hf hs
        have hlen := len_insK (k := i) (ks := ks)
        obtain ⟨ρ', ks', hw, hr, h1, h2, h3⟩ := ih l (insK i ks) (some (enc (.nm i))) (by omega) (by omega) (nodup_insK hn)
        refine ⟨ρ', ks', ?_, hr, h1, by simp [totT] at h2 ⊢; omega, fun c => (h3 c).trans (by simp [inT]; constructor; (rintro ((h | h) | h) <;> simp [h]); (rintro (h | h | h) <;> simp [h]))⟩
        rw [while_s, e0]
        simp [hκ] at hw
        simp [hκ, gcM_lt, h7, hk, isKey, kvS_put, hw]
      | pl i =>
        simp at hf hs
        obtain ⟨ρ', ks', hw, hr, h1, h2, h3⟩ := ih l ks (some (enc (.pl i))) (by omega) (by omega) hn
        refine ⟨ρ', ks', ?_, hr, h1, by simp [totT] at h2 ⊢; omega, fun c => (h3 c).trans (by simp [inT])⟩
        rw [while_s, e0]
        simp [hκ] at hw
        simp [hκ, gcM_lt, h7, hw]
      | so i =>
        simp at hf hs
        obtain ⟨ρ', ks', hw, hr, h1, h2, h3⟩ := ih l ks (some (enc (.so i))) (by omega) (by omega) hn
        refine ⟨ρ', ks', ?_, hr, h1, by simp [totT] at h2 ⊢; omega, fun c => (h3 c).trans (by simp [inT])⟩
        rw [while_s, e0]
        simp [hκ] at hw
        simp [hκ, gcM_lt, h7, hw]
theorem strs_lt (k : Nat) : ∀ p : List (List Nat), D.ltL k (p.map .str) = true
  | [] => rfl
  | t :: ts => by simp [strs_lt k ts]
theorem c18 (t : Tm) (n : Nat) (M : Mem) (hs : sz t < 64) (hw : 64 ≤ wf) : ∃ ks : List (List Nat), ks.Nodup ∧ (∀ c, c ∈ ks ↔ c ∈ nms t) ∧ callN pg wf (n + 2) 18 [enc t] M = .ok (.tup ((sortS ks).map .str)) M := by
  obtain ⟨ρ', ks, h, hr, h1, h2, h3⟩ := w18 (wf := wf) (n := n) (M := M) rfl (x0 := some (enc t)) wf [t] [] none (by simp [totT]; omega) (by simp [totT]; omega) (by simp)
  refine ⟨ks, h1, fun c => (h3 c).trans (by simp [inT]), ?_⟩
  rw [callS (d := d18) rfl]
  have hl : ks.length < 64 := by simp [totT] at h2; omega
  simp [kvS] at h
  by_cases hne : ks = []
  · subst hne
    simp [sortS] at h ⊢
    simp [d18, gcM_lt, gcM_tupF, h, hr, sortD, intsOf, sortI]
  · simp [d18, gcM_lt, gcM_tupF, h, hr, hl, Function.comp_def, sortD_str hne hl, strs_lt]
/-! is_plain, is_local, is_name -/
def LET : List Nat := [97, 98, 99, 100, 101, 102, 103, 104, 105, 106, 107, 108, 109, 110, 111, 112, 113, 114, 115, 116, 117, 118, 119, 120, 121, 122, 65, 66, 67, 68, 69, 70, 71, 72, 73, 74, 75, 76, 77, 78, 79, 80, 81, 82, 83, 84, 85, 86, 87, 88, 89, 90]
def DIG : List Nat := [48, 49, 50, 51, 52, 53, 54, 55, 56, 57]
def okc (c : Nat) : Bool := decide (c ∈ LET) || (decide (c ∈ DIG) || decide (c ∈ [95, 46]))
def plainB : List Nat → Bool
  | [] => false
  | c :: r => decide ((c :: r).length ≤ 30) && (decide (c ∈ LET) && (!((c :: r).getLast (by simp) == 46) && (c :: r).all okc))
def localB : List Nat → Bool
  | c :: d :: r => c == 120 && (d :: r).all fun c => decide (c ∈ DIG)
  | _ => false
def WDS : List (List Nat) := [[100, 97, 116, 97], [100, 101, 102], [97, 120, 105, 111, 109], [112, 114, 111, 118, 101], [98, 121], [99, 104, 101, 99, 107], [101, 118, 97, 108], [114, 117, 110], [115, 97, 109, 101], [108, 101, 116], [105, 110], [85]]
def nameB : List Nat → Bool
  | [] => false
  | c :: r => plainB (c :: r) && (!(WDS.any fun w => w == c :: r) && (!localB (c :: r) && !(c == 85 && r.all fun c => decide (c ∈ DIG))))
theorem atI_neg1 {α : Type} {x : α} {xs : List α} : L2.atI (x :: xs) (-1) = some ((x :: xs).getLast (by simp)) := by
  have h1 : ¬ ((0 : Int) ≤ -1) := by omega
  have h2 : -(((x :: xs).length : Nat) : Int) ≤ -1 := by simp; omega
  have h3 : (-1 + ((x :: xs).length : Int)).toNat = (x :: xs).length - 1 := by simp; omega
  unfold L2.atI L2.ixN
  rw [if_neg h1, if_pos h2]
  simp only [Option.bind_some]
  rw [h3, List.getLast_eq_getElem, List.getElem?_eq_getElem]
theorem c4 (n : Nat) (M : Mem) (s : List Nat) (hs : s.length ≤ 1000) : callN pg wf (n + 1) 4 [.str s] M = .ok (.bl (plainB s)) M := by
  rw [callS (d := d4) rfl]
  have hl : s.length ≤ 16777216 := by omega
  have hc : ∀ κ x1, compGo κ [some (.str s), x1] (.name 1) none (sOr (sBin (dInB tb) (sVar 1) (sC (.str [97, 98, 99, 100, 101, 102, 103, 104, 105, 106, 107, 108, 109, 110, 111, 112, 113, 114, 115, 116, 117, 118, 119, 120, 121, 122, 65, 66, 67, 68, 69, 70, 71, 72, 73, 74, 75, 76, 77, 78, 79, 80, 81, 82, 83, 84, 85, 86, 87, 88, 89, 90]))) (sOr (sBin (dInB tb) (sVar 1) (sC (.str [48, 49, 50, 51, 52, 53, 54, 55, 56, 57]))) (sBin (dInB tb) (sVar 1) (sC (.str [95, 46]))))) (s.map fun c => .str [c]) [] M = .ok (s.map (D.bl ∘ okc)) M := by
    intro κ x1
    rw [comp_mapA (fun c => .str [c]) (D.bl ∘ okc)]
    · simp
    · intro c _
      exact ⟨_, M, rfl, by simp [okc, LET, DIG], by simp, by simp⟩
    · simp; omega
  match s with
  | [] => simp [d4, gcM_lt, plainB]
  | c :: r =>
    by_cases h1 : (c :: r).length ≤ 30
    · have h1' : r.length ≤ 29 := by simpa using h1
      have hl2 : r.length ≤ 16777215 := by omega
      have h30 : (r.length : Int) + 1 ≤ 30 := by omega
      have h01 : (1 : Int) ≤ (r.length : Int) + 1 := by omega
      by_cases h2 : c ∈ LET
      · by_cases h3 : (c :: r).getLast (by simp) = 46
        · have h2' := h2
          simp only [LET] at h2'
          simp [d4, gcM_lt, plainB, hl2, h30, h01, h2', atI_neg1, h3]
        · have h2' := h2
          simp only [LET] at h2'
          simp [d4, gcM_lt, plainB, hl2, h30, h01, h1', h2, h2', atI_neg1, h3, hc, -List.map_cons, -comp_cons]
      · have h2' := h2
        simp only [LET] at h2'
        simp [d4, gcM_lt, plainB, hl2, h30, h01, h2, h2']
    · have h1' : ¬ r.length ≤ 29 := by simpa using h1
      have hl2 : r.length ≤ 16777215 := by simp at hs; omega
      have h30 : ¬ (r.length : Int) + 1 ≤ 30 := by omega
      simp [d4, gcM_lt, plainB, hl2, h30, h1']
theorem c5 (n : Nat) (M : Mem) (s : List Nat) (hs : s.length ≤ 1000) : callN pg wf (n + 1) 5 [.str s] M = .ok (.bl (localB s)) M := by
  rw [callS (d := d5) rfl]
  have hl : s.length ≤ 16777216 := by omega
  match s with
  | [] => simp [d5, gcM_lt, localB]
  | [c] => simp [d5, gcM_lt, localB]
  | c :: d :: r =>
    have hc : ∀ κ x1, compGo κ [some (.str (c :: d :: r)), x1] (.name 1) none (sBin (dInB tb) (sVar 1) (sC (.str [48, 49, 50, 51, 52, 53, 54, 55, 56, 57]))) ((d :: r).map fun c => .str [c]) [] M = .ok ((d :: r).map (D.bl ∘ fun c => decide (c ∈ DIG))) M := by
      intro κ x1
      rw [comp_mapA (fun c => .str [c]) (D.bl ∘ fun c => decide (c ∈ DIG))]
      · simp
      · intro c _
        exact ⟨_, M, rfl, by simp [DIG], by simp, by simp⟩
      · simp at hs ⊢; omega
    have hl2 : r.length ≤ 16777214 := by simp at hs; omega
    have hl3 : r.length ≤ 16777215 := by simp at hs; omega
    have h01 : (2 : Int) ≤ (r.length : Int) + 1 + 1 := by omega
    by_cases h : c = 120
    · subst h
      simp [d5, gcM_lt, localB, hl2, hl3, h01, hc, -List.map_cons, -comp_cons]
    · simp [d5, gcM_lt, localB, hl2, h01, h]
theorem c6 (n : Nat) (M : Mem) (s : List Nat) (hs : s.length ≤ 1000) : callN pg wf (n + 2) 6 [.str s] M = .ok (.bl (nameB s)) M := by
  rw [callS (d := d6) rfl]
  have h4 := c4 (wf := wf) n M s hs
  have h5 := c5 (wf := wf) n M s hs
  match s with
  | [] => simp [plainB] at h4; simp [d6, gcM_lt, h4, nameB]
  | c :: r =>
    have hl2 : r.length ≤ 16777215 := by simp at hs; omega
    have hc : ∀ κ x1, compGo κ [some (.str (c :: r)), x1] (.name 1) none (sBin (dInB tb) (sVar 1) (sC (.str [48, 49, 50, 51, 52, 53, 54, 55, 56, 57]))) (r.map fun c => .str [c]) [] M = .ok (r.map (D.bl ∘ fun c => decide (c ∈ DIG))) M := by
      intro κ x1
      rw [comp_mapA (fun c => .str [c]) (D.bl ∘ fun c => decide (c ∈ DIG))]
      · simp
      · intro c _
        exact ⟨_, M, rfl, by simp [DIG], by simp, by simp⟩
      · simp at hs ⊢; omega
    have hw : (D.flatL [.str [100, 97, 116, 97], .str [100, 101, 102], .str [97, 120, 105, 111, 109], .str [112, 114, 111, 118, 101], .str [98, 121], .str [99, 104, 101, 99, 107], .str [101, 118, 97, 108], .str [114, 117, 110], .str [115, 97, 109, 101], .str [108, 101, 116], .str [105, 110], .str [85]] && decide (D.depL [.str [100, 97, 116, 97], .str [100, 101, 102], .str [97, 120, 105, 111, 109], .str [112, 114, 111, 118, 101], .str [98, 121], .str [99, 104, 101, 99, 107], .str [101, 118, 97, 108], .str [114, 117, 110], .str [115, 97, 109, 101], .str [108, 101, 116], .str [105, 110], .str [85]] ≤ 150)) = true := by rfl
    have hd : dInB tb (.str (c :: r)) (.tup [.str [100, 97, 116, 97], .str [100, 101, 102], .str [97, 120, 105, 111, 109], .str [112, 114, 111, 118, 101], .str [98, 121], .str [99, 104, 101, 99, 107], .str [101, 118, 97, 108], .str [114, 117, 110], .str [115, 97, 109, 101], .str [108, 101, 116], .str [105, 110], .str [85]]) M = .ok (.bl (WDS.any fun w => w == c :: r)) M := by
      rw [dIn_str, if_pos hw]
      simp only [WDS, List.any_cons, List.any_nil, eqv_str]
    by_cases hp : plainB (c :: r) = true
    · by_cases hq : (WDS.any fun w => w == c :: r) = true
      · rw [hp] at h4; rw [hq] at hd
        simp only [nameB, hp, hq]
        simp [d6, gcM_lt, h4, hd, -dIn_str]
      · rw [hp] at h4; simp only [Bool.not_eq_true] at hq; rw [hq] at hd
        simp only [nameB, hp, hq]
        by_cases hl : localB (c :: r) = true
        · rw [hl] at h5
          simp only [hl]
          simp [d6, gcM_lt, h4, h5, hd, -dIn_str]
        · simp only [Bool.not_eq_true] at hl; rw [hl] at h5
          simp only [hl]
          by_cases h : c = 85
          · subst h
            simp [d6, gcM_lt, h4, h5, hd, -dIn_str, hl2, hc]
          · simp [d6, gcM_lt, h4, h5, hd, -dIn_str, hl2, h]
    · simp only [Bool.not_eq_true] at hp
      rw [hp] at h4
      simp only [nameB, hp]
      simp [d6, gcM_lt, h4]
/-! is_node, is_term -/
@[simp] theorem isi_enc {t M} : dIsi .tuple (enc t) M = .ok (.bl true) M := by cases t <;> simp [enc]
@[simp] theorem dLen_enc {t M} : dLen tb [enc t] M = .ok (.int (match t with | .pl _ => 2 | .nm _ => 2 | .so _ => 2 | t => (kids t).length + 1)) M := by cases t <;> simp [enc]
theorem c11 (t : Tm) (h : wt t) (n : Nat) (M : Mem) : callN pg wf (n + 3) 11 [enc t] M = .ok (.bl true) M := by
  rw [callS (d := d11) rfl]
  cases t with
  | pl i => have h2 : i ≤ 1000 := by have := h.2; omega
            have h1 := h.1
            simp [d11, gcM_lt, D.flatL, D.flat, D.depL, D.dep, h1, h2]
  | nm s =>
    have e : callN pg wf (n + 2) 6 [.str s] M = .ok (.bl true) M := by
      rcases h with rfl | rfl | rfl <;> exact c6 n M _ (by simp)
    simp [d11, gcM_lt, D.flatL, D.flat, D.depL, D.dep, e]
  | so i => have h2 : i ≤ 5 := by have := h.2; omega
            have h1 := h.1
            simp [d11, gcM_lt, D.flatL, D.flat, D.depL, D.dep, h1, h2]
  | u f a => simp [d11, gcM_lt, D.flatL, D.flat, D.depL, D.dep]
  | b f a b => simp [d11, gcM_lt, D.flatL, D.flat, D.depL, D.dep]
  | t f a b c => simp [d11, gcM_lt, D.flatL, D.flat, D.depL, D.dep]
abbrev wc10 : SE := (sBin dGt (sRow (dLen tb) (sCons (sVar 1) (sNil))) (sC (.int 0)))
abbrev wb10 : SS := (pSeq (pTup [3, 4] (sMeth dPop (sVar 1) sNil)) (pSeq (pSet 2 (sBin dAdd (sVar 2) (sC (.int 1)))) (pSeq (pIf (sOr (sBin dGt (sVar 2) (sC (.int 6000))) (sOr (sBin dGt (sVar 4) (sC (.int 100))) (sUn dNot (sCall 11 [] (sCons (sVar 3) (sNil)))))) (pSeq (pRet (sC (.bl false))) (pNil)) (pNil)) (pSeq (pDrop (sMeth dExtend (sVar 1) (sCons (sComp [5] (.name 5) (iOf (sCall 7 [] (sCons (sVar 3) (sNil)))) none (sTup (sCons (sVar 5) (sCons (sBin dAdd (sVar 4) (sC (.int 1))) (sNil))))) (sNil)))) (pNil)))))
theorem w10 {n : Nat} {M : Mem} {κ : Ctx} (hκ : κ = ⟨callN pg wf (n + 3), wf, n + 3⟩) {x0 : Option D} : ∀ (f : Nat) (l : List (Tm × Int)) (m : Int) (x3 x4 x5 : Option D), totD l < f → m + totD l ≤ 6000 → 0 ≤ m → (∀ x ∈ l, wt x.1 ∧ x.2 + dp x.1 ≤ 100) →
    ∃ ρ', whileGo κ wc10 wb10 f [x0, some (.loc M.length), some (.int m), x3, x4, x5] (M ++ [.lst (l.reverse.map eD)]) = .nx ρ' (M ++ [.lst []]) := by
  intro f
  induction f with
  | zero => intro l _ _ _ _ h; omega
  | succ f ih =>
    intro l m x3 x4 x5 hf hs hm0 hw
    match l with
    | [] => exact ⟨[x0, some (.loc M.length), some (.int m), x3, x4, x5], by simp [while_s]⟩
    | (t, d) :: l =>
      have e0 : ((t, d) :: l).reverse.map eD = l.reverse.map eD ++ [.tup [enc t, .int d]] := by simp [eD]
      have htot : totD ((t, d) :: l) = sz t + totD l := by simp [totD]
      have ⟨wt0, hd0⟩ := hw (t, d) (by simp)
      have hll : l.length ≤ totD l := by
        clear ih hf hs e0 htot hw
        induction l with
        | nil => simp
        | cons x l ih => have := sz_pos x.1; simp [totD] at ih ⊢; omega
      have sp := sz_pos t
      rw [htot] at hf hs
      have h4 : l.length ≤ 16777215 := by omega
      have h5 : l.length ≤ 16777214 := by omega
      have h6 : l.length ≤ 16777213 := by omega
      have h7 : l.length ≤ 16777216 := by omega
      have hw2 : ∀ x ∈ l, wt x.1 ∧ x.2 + dp x.1 ≤ 100 := fun x hx => hw x (by simp [hx])
      have hm : ¬ (6000 : Int) < m + 1 := by omega
      have hd : ¬ (100 : Int) < d := by simp at hd0; omega
      have h11 : ∀ M, callN pg wf (n + 3) 11 [enc t] M = .ok (.bl true) M := c11 t wt0 n
      cases t with
      | u g a =>
        simp at hf hs hd0 wt0
        obtain ⟨ρ', hr⟩ := ih ((a, d + 1) :: l) (m + 1) (some (enc (.u g a))) (some (.int d)) x5 (by simp [totD] at hf ⊢; omega) (by simp [totD] at hs ⊢; omega) (by omega) (by simp; exact ⟨⟨wt0, by omega⟩, fun x y h => hw2 (x, y) h⟩)
        refine ⟨ρ', ?_⟩
        rw [while_s, e0]
        simp [hκ, eD] at hr
        simp [hκ, gcM_lt, h4, hm, hd, h11, hr]
      | b g a b =>
        simp at hf hs hd0 wt0
        obtain ⟨ρ', hr⟩ := ih ((b, d + 1) :: (a, d + 1) :: l) (m + 1) (some (enc (.b g a b))) (some (.int d)) x5 (by simp [totD] at hf ⊢; omega) (by simp [totD] at hs ⊢; omega) (by omega) (by simp; exact ⟨⟨wt0.2, by omega⟩, ⟨wt0.1, by omega⟩, fun x y h => hw2 (x, y) h⟩)
        refine ⟨ρ', ?_⟩
        rw [while_s, e0]
        simp [hκ, eD] at hr
        simp [hκ, gcM_lt, h5, hm, hd, h11, hr]
      | t g a b c =>
        simp at hf hs hd0 wt0
        obtain ⟨ρ', hr⟩ := ih ((c, d + 1) :: (b, d + 1) :: (a, d + 1) :: l) (m + 1) (some (enc (.t g a b c))) (some (.int d)) x5 (by simp [totD] at hf ⊢; omega) (by simp [totD] at hs ⊢; omega) (by omega) (by simp; exact ⟨⟨wt0.2.2, by omega⟩, ⟨wt0.2.1, by omega⟩, ⟨wt0.1, by omega⟩, fun x y h => hw2 (x, y) h⟩)
        refine ⟨ρ', ?_⟩
        rw [while_s, e0]
        simp [hκ, eD] at hr
        simp [hκ, gcM_lt, h6, hm, hd, h11, hr]
      | pl i =>
        simp at hf hs
        obtain ⟨ρ', hr⟩ := ih l (m + 1) (some (enc (.pl i))) (some (.int d)) x5 (by omega) (by omega) (by omega) hw2
        refine ⟨ρ', ?_⟩
        rw [while_s, e0]
        simp [hκ, eD] at hr
        simp [hκ, gcM_lt, h7, hm, hd, h11, hr]
      | nm i =>
        simp at hf hs
        obtain ⟨ρ', hr⟩ := ih l (m + 1) (some (enc (.nm i))) (some (.int d)) x5 (by omega) (by omega) (by omega) hw2
        refine ⟨ρ', ?_⟩
        rw [while_s, e0]
        simp [hκ, eD] at hr
        simp [hκ, gcM_lt, h7, hm, hd, h11, hr]
      | so i =>
        simp at hf hs
        obtain ⟨ρ', hr⟩ := ih l (m + 1) (some (enc (.so i))) (some (.int d)) x5 (by omega) (by omega) (by omega) hw2
        refine ⟨ρ', ?_⟩
        rw [while_s, e0]
        simp [hκ, eD] at hr
        simp [hκ, gcM_lt, h7, hm, hd, h11, hr]
theorem c10 (t : Tm) (n : Nat) (M : Mem) (h : wt t) (hd : dp t ≤ 100) (hs : sz t ≤ 6000) (hw : sz t < wf) : callN pg wf (n + 4) 10 [enc t] M = .ok (.bl true) M := by
  rw [callS (d := d10) rfl]
  obtain ⟨ρ', h⟩ := w10 (wf := wf) (n := n) (M := M) rfl (x0 := some (enc t)) wf [(t, 0)] 0 none none none (by simpa [totD] using hw) (by simp [totD]; omega) (by omega) (by simp; exact ⟨h, by omega⟩)
  simp [eD] at h
  simp [d10, gcM_lt, gcM_tupF, h]
theorem c10_bad (x : D) (n : Nat) (M : Mem) (hx : x.lt M.length = true) (hw : wf = w + 5) (h : ∀ M', callN pg wf (n + 1) 11 [x] (M ++ M') = .ok (.bl false) (M ++ M')) : callN pg wf (n + 2) 10 [x] M = .ok (.bl false) M := by
  rw [callS (d := d10) rfl]
  subst hw
  have hx2 : x.lt (M.length + 1) = true := lt_up (by omega) x hx
  simp [d10, gcM_lt, gcM_tupF, while_s, hx, hx2, h]
/-- one around one around .. -/
def ones : Nat → Tm
  | 0 => .pl 0
  | n + 1 => .u .one (ones n)
theorem ones_wt (k : Nat) : wt (ones k) := by induction k with | zero => exact ⟨by omega, by omega⟩ | succ k ih => exact ih
theorem w10_deep {n : Nat} {M : Mem} {κ : Ctx} (hκ : κ = ⟨callN pg wf (n + 3), wf, n + 3⟩) {x0 : Option D} : ∀ (j f : Nat) (d m : Int) (x3 x4 x5 : Option D), j < f → d + j = 101 → 0 ≤ m → m + j ≤ 5000 →
    ∃ M', whileGo κ wc10 wb10 f [x0, some (.loc M.length), some (.int m), x3, x4, x5] (M ++ [.lst [.tup [enc (ones j), .int d]]]) = .rt (.bl false) (M ++ M')
  | 0, f, d, m, x3, x4, x5, hf, hd, hm, hm2 => by
    obtain ⟨g, rfl⟩ : ∃ g, f = g + 1 := ⟨f - 1, by omega⟩
    have h1 : ¬ (6000 : Int) < m + 1 := by omega
    have h2 : (100 : Int) < d := by omega
    refine ⟨[.lst []], ?_⟩
    rw [while_s]
    simp [hκ, gcM_lt, ones, h1, h2]
  | j + 1, f, d, m, x3, x4, x5, hf, hd, hm, hm2 => by
    obtain ⟨g, rfl⟩ : ∃ g, f = g + 1 := ⟨f - 1, by omega⟩
    have h1 : ¬ (6000 : Int) < m + 1 := by omega
    have h2 : ¬ (100 : Int) < d := by omega
    obtain ⟨M', h⟩ := w10_deep (M := M) hκ (x0 := x0) j g (d + 1) (m + 1) (some (enc (ones (j + 1)))) (some (.int d)) x5 (by omega) (by omega) (by omega) (by omega)
    refine ⟨M', ?_⟩
    have h11 : ∀ M, callN pg wf (n + 3) 11 [enc (ones (j + 1))] M = .ok (.bl true) M := c11 _ (ones_wt _) n
    rw [while_s]
    simp [hκ, ones] at h h11
    simp [hκ, gcM_lt, ones, h1, h2, h11, h]
theorem c10_deep (n : Nat) (M : Mem) (hw : 200 ≤ wf) : callN pg wf (n + 4) 10 [enc (ones 101)] M = .ok (.bl false) M := by
  rw [callS (d := d10) rfl]
  obtain ⟨M', h⟩ := w10_deep (wf := wf) (n := n) (M := M) rfl (x0 := some (enc (ones 101))) 101 wf 0 0 none none none (by omega) (by omega) (by omega) (by omega)
  simp [d10, gcM_lt, gcM_tupF, h]
end PK.proofkernel_k00_whole_terms_places_and_p
end

section
set_option Elab.async false
set_option linter.all false
set_option maxHeartbeats 4000000
set_option maxRecDepth 100000
namespace PK.proofkernel_k00_whole_terms_places_and_p
open PK
variable {wf : Nat}
/-! putting in undoes moving on -/
theorem pu_sh (v t : Tm) : ∀ k, pu v (sh 1 t k) k = t := by
  induction t with
  | pl i =>
    intro k; by_cases h : k ≤ i
    · have h1 : ¬ i + 1 = k := by omega
      have h2 : k < i + 1 := by omega
      have h3 : i + 1 - 1 = i := by omega
      simp [h, h1, h2, h3]
    · have h1 : ¬ i = k := by omega
      have h2 : ¬ k < i := by omega
      simp [h, h1, h2]
  | u f a iha => intro k; simp [iha]
  | b f a b iha ihb => intro k; simp [iha, ihb]
  | t f a b c iha ihb ihc => intro k; simp [iha, ihb, ihc]
  | _ => intro k; simp
theorem sh_0 (t : Tm) : ∀ k, sh 0 t k = t := by
  induction t with
  | pl i => intro k; simp
  | u f a iha => intro k; simp [iha]
  | b f a b iha ihb => intro k; simp [iha, ihb]
  | t f a b c iha ihb ihc => intro k; simp [iha, ihb, ihc]
  | _ => intro k; simp
theorem sh_dp (b : Int) (t : Tm) : ∀ k, dp (sh b t k) = dp t := by
  induction t with
  | pl i => intro k; simp; split <;> rfl
  | u f a iha => intro k; simp [iha]
  | b f a b iha ihb => intro k; simp [iha, ihb]
  | t f a b c iha ihb ihc => intro k; simp [iha, ihb, ihc]
  | _ => intro k; simp
theorem pu_dp (v t : Tm) : ∀ k, dp (pu v t k) ≤ dp t + dp v := by
  induction t with
  | pl i => intro k; simp; split; rw [sh_dp]; omega; split <;> simp
  | u f a iha => intro k; have := iha k; simp; omega
  | b f a b iha ihb => intro k; have := iha k; have := ihb (k + bi f); simp; omega
  | t f a b c iha ihb ihc => intro k; have := iha k; have := ihb k; have := ihc (k + ti f); simp; omega
  | _ => intro k; simp
/-! rows in order -/
theorem srt_eq {α : Type} {r : α → α → Prop} (hr : ∀ a b, r a b → ¬ r b a) (hi : ∀ a, ¬ r a a) : ∀ {xs ys : List α}, xs.Pairwise r → ys.Pairwise r → (∀ c, c ∈ xs ↔ c ∈ ys) → xs = ys
  | [], [], _, _, _ => rfl
  | [], y :: ys, _, _, h => by have := (h y).2 (by simp); simp at this
  | x :: xs, [], _, _, h => by have := (h x).1 (by simp); simp at this
  | x :: xs, y :: ys, hx, hy, h => by
    rw [List.pairwise_cons] at hx hy
    have e : x = y := by
      have h1 := (h x).1 (by simp)
      have h2 := (h y).2 (by simp)
      simp at h1 h2
      rcases h1 with h1 | h1
      · exact h1
      · rcases h2 with h2 | h2
        · exact h2.symm
        · exact absurd (hy.1 x h1) (hr _ _ (hx.1 y h2))
    subst e
    congr 1
    apply srt_eq hr hi hx.2 hy.2
    intro c
    have := h c
    simp at this
    constructor
    · intro hc
      rcases this.1 (Or.inr hc) with rfl | h3
      · exact absurd (hx.1 _ hc) (hi _)
      · exact h3
    · intro hc
      rcases this.2 (Or.inr hc) with rfl | h3
      · exact absurd (hy.1 _ hc) (hi _)
      · exact h3
theorem insI_mem {x c : Int} : ∀ {l : List Int}, c ∈ insI x l ↔ c = x ∨ c ∈ l
  | [] => by simp [insI]
  | y :: r => by
    unfold insI; split
    · simp
    · simp [insI_mem (l := r)]; constructor; (rintro (h | h | h) <;> simp [h]); (rintro (h | h | h) <;> simp [h])
theorem insI_srt {x : Int} : ∀ {l : List Int}, l.Pairwise (· < ·) → x ∉ l → (insI x l).Pairwise (· < ·)
  | [], _, _ => by simp [insI]
  | y :: r, h, hx => by
    rw [List.pairwise_cons] at h
    simp at hx
    unfold insI; split
    · rename_i hle
      rw [List.pairwise_cons, List.pairwise_cons]
      refine ⟨fun z hz => ?_, h⟩
      simp at hz
      rcases hz with rfl | hz
      · omega
      · have := h.1 z hz; omega
    · rename_i hle
      rw [List.pairwise_cons]
      refine ⟨fun z hz => ?_, insI_srt h.2 hx.2⟩
      rcases insI_mem.1 hz with rfl | hz
      · omega
      · exact h.1 z hz
theorem sortI_mem {c : Int} : ∀ {l : List Int}, c ∈ sortI l ↔ c ∈ l
  | [] => by simp [sortI]
  | y :: r => by simp [sortI, insI_mem, sortI_mem (l := r)]
theorem sortI_srt : ∀ {l : List Int}, l.Nodup → (sortI l).Pairwise (· < ·)
  | [], _ => by simp [sortI]
  | y :: r, h => by
    rw [List.nodup_cons] at h
    exact insI_srt (sortI_srt h.2) (fun hm => h.1 (sortI_mem.1 hm))
theorem fr_range (t : Tm) (h : wt t) : ∀ d, 0 ≤ d → ∀ c ∈ fr t d, 0 ≤ c ∧ c < 6 := by
  induction t with
  | pl i => intro d hd c hc; simp at hc h; obtain ⟨h1, rfl⟩ := hc; omega
  | u f a iha => intro d hd c hc; exact iha h d hd c hc
  | b f a b iha ihb =>
    intro d hd c hc; simp at hc
    rcases hc with hc | hc
    · exact iha h.1 d hd c hc
    · exact ihb h.2 (d + bi f) (by cases f <;> simp [bi] <;> omega) c hc
  | t f a b c iha ihb ihc =>
    intro d hd x hc; simp at hc
    rcases hc with hc | hc | hc
    · exact iha h.1 d hd x hc
    · exact ihb h.2.1 d hd x hc
    · exact ihc h.2.2 (d + ti f) (by cases f <;> simp [ti] <;> omega) x hc
  | _ => intro d hd c hc; simp at hc
def r1001 : List Int := (List.range 1001).map fun i : Nat => (0 + (i : Int) * 1)
theorem range_1001 : rangeD 0 1 1001 = r1001.map .int := by simp [rangeD, r1001]
theorem free_sorted {t : Tm} {ks : List Int} (h : wt t) (hn : ks.Nodup) (hm : ∀ c, c ∈ ks ↔ c ∈ fr t 0) : sortI ks = r1001.filter (fun c => decide (c ∈ fr t 0)) := by
  apply srt_eq (r := (· < ·)) (fun a b h => by omega) (fun a => by omega) (sortI_srt hn)
  · apply List.Pairwise.filter
    unfold r1001
    rw [List.pairwise_map]
    apply List.Pairwise.imp _ List.pairwise_lt_range
    intro a b h; omega
  · intro c
    rw [sortI_mem, hm, List.mem_filter]
    constructor
    · intro hc
      have := fr_range t h 0 (by omega) c hc
      refine ⟨?_, by simpa using hc⟩
      unfold r1001
      rw [List.mem_map]
      exact ⟨c.toNat, by rw [List.mem_range]; omega, by omega⟩
    · intro hc; simpa using hc.2
/-! texts in order: of three letters only -/
theorem insS_mem {x c : List Nat} : ∀ {l : List (List Nat)}, c ∈ insS x l ↔ c = x ∨ c ∈ l
  | [] => by simp [insS]
  | y :: r => by
    unfold insS; split
    · simp
    · simp [insS_mem (l := r)]; constructor; (rintro (h | h | h) <;> simp [h]); (rintro (h | h | h) <;> simp [h])
theorem sortS_mem {c : List Nat} : ∀ {l : List (List Nat)}, c ∈ sortS l ↔ c ∈ l
  | [] => by simp [sortS]
  | y :: r => by simp [sortS, insS_mem, sortS_mem (l := r)]
/-- one letter each, the first one less -/
def ltS (a b : List Nat) : Prop := a.headD 0 < b.headD 0
def abc (l : List (List Nat)) : Prop := ∀ s ∈ l, s = [102] ∨ s = [103] ∨ s = [104]
theorem leL_abc {x y : List Nat} (hx : x = [102] ∨ x = [103] ∨ x = [104]) (hy : y = [102] ∨ y = [103] ∨ y = [104]) : leL x y = decide (x.headD 0 ≤ y.headD 0) := by
  rcases hx with rfl | rfl | rfl <;> rcases hy with rfl | rfl | rfl <;> rfl
theorem head_abc {x y : List Nat} (hx : x = [102] ∨ x = [103] ∨ x = [104]) (hy : y = [102] ∨ y = [103] ∨ y = [104]) (h : x.headD 0 = y.headD 0) : x = y := by
  rcases hx with rfl | rfl | rfl <;> rcases hy with rfl | rfl | rfl <;> simp_all
theorem insS_srt {x : List Nat} (hx3 : x = [102] ∨ x = [103] ∨ x = [104]) : ∀ {l : List (List Nat)}, abc l → l.Pairwise ltS → x ∉ l → (insS x l).Pairwise ltS
  | [], _, _, _ => by simp [insS]
  | y :: r, ha, h, hx => by
    rw [List.pairwise_cons] at h
    simp at hx
    have hy3 := ha y (by simp)
    have e := leL_abc hx3 hy3
    have hne : x.headD 0 ≠ y.headD 0 := fun e => hx.1 (head_abc hx3 hy3 e)
    unfold insS; split
    · rename_i hle
      rw [e] at hle
      have hle : x.headD 0 ≤ y.headD 0 := by simpa using hle
      rw [List.pairwise_cons, List.pairwise_cons]
      refine ⟨fun z hz => ?_, h⟩
      rw [List.mem_cons] at hz
      rcases hz with rfl | hz
      · unfold ltS; omega
      · have := h.1 z hz; unfold ltS at this ⊢; omega
    · rename_i hle
      rw [e] at hle
      have hle : ¬ x.headD 0 ≤ y.headD 0 := by simpa using hle
      rw [List.pairwise_cons]
      refine ⟨fun z hz => ?_, insS_srt hx3 (fun s hs => ha s (by simp [hs])) h.2 hx.2⟩
      rcases insS_mem.1 hz with rfl | hz
      · unfold ltS; omega
      · exact h.1 z hz
theorem sortS_srt : ∀ {l : List (List Nat)}, abc l → l.Nodup → (sortS l).Pairwise ltS
  | [], _, _ => by simp [sortS]
  | y :: r, ha, h => by
    rw [List.nodup_cons] at h
    have hr : abc r := fun s hs => ha s (by simp [hs])
    exact insS_srt (ha y (by simp)) (fun s hs => hr s (sortS_mem.1 hs)) (sortS_srt hr h.2) (fun hm => h.1 (sortS_mem.1 hm))
theorem nms_abc (t : Tm) (h : wt t) : abc (nms t) := by
  induction t with
  | nm s => intro x hx; simp at hx; subst hx; exact h
  | u f a iha => intro x hx; exact iha h x hx
  | b f a b iha ihb => intro x hx; simp at hx; rcases hx with hx | hx; exact iha h.1 x hx; exact ihb h.2 x hx
  | t f a b c iha ihb ihc => intro x hx; simp at hx; rcases hx with hx | hx | hx; exact iha h.1 x hx; exact ihb h.2.1 x hx; exact ihc h.2.2 x hx
  | _ => intro x hx; simp at hx
def fgh : List (List Nat) := [[102], [103], [104]]
theorem names_sorted {t : Tm} {ks : List (List Nat)} (h : wt t) (hn : ks.Nodup) (hm : ∀ c, c ∈ ks ↔ c ∈ nms t) : sortS ks = fgh.filter (fun c => decide (c ∈ nms t)) := by
  have hk : abc ks := fun s hs => nms_abc t h s ((hm s).1 hs)
  apply srt_eq (r := ltS) (fun a b h => by unfold ltS at *; omega) (fun a => by unfold ltS; omega) (sortS_srt hk hn)
  · apply List.Pairwise.filter
    simp [fgh, ltS]
  · intro c
    rw [sortS_mem, hm, List.mem_filter]
    constructor
    · intro hc
      refine ⟨?_, by simpa using hc⟩
      have := nms_abc t h c hc
      simpa [fgh] using this
    · intro hc; simpa using hc.2
/-! places -/
def sb : Tm → List Int → Tm
  | t, [] => t
  | t, k :: p => match (kids t)[k.toNat]? with | some a => sb a p | none => t
theorem at_sb {t p u} (h : At t p u) : sb t p = u := by
  induction h with
  | nil => rfl
  | cons k h _ ih => simp [sb, h, ih]
def isN (s : List Nat) : Tm → Bool
  | .nm x => x == s
  | _ => false
theorem any_nm (t : Tm) (s : List Nat) : ((paths t).any fun p => isN s (sb t p)) = decide (s ∈ nms t) := by
  induction t with
  | nm x =>
    simp only [paths, List.any_cons, List.any_nil, sb, isN, nms, Bool.or_false, List.mem_singleton]
    by_cases h : x = s
    · simp [h]
    · have h2 : ¬ s = x := fun e => h e.symm
      simp [h, h2]
  | u f a iha => rw [nms, ← iha]; simp [paths, List.any_map, Function.comp_def, sb, isN]
  | b f a b iha ihb =>
    rw [nms]; simp only [List.mem_append, Bool.decide_or]; rw [← iha, ← ihb]
    simp [paths, List.any_map, List.any_append, Function.comp_def, sb, isN]
  | t f a b c iha ihb ihc =>
    rw [nms]; simp only [List.mem_append, Bool.decide_or]; rw [← iha, ← ihb, ← ihc]
    simp [paths, List.any_map, List.any_append, Function.comp_def, sb, isN, Bool.or_assoc]
  | _ => simp [paths, sb, isN]
theorem eq_nm (u : Tm) (s : List Nat) {M : Mem} : dEqB (enc u) (.tup [.str [110, 97, 109, 101], .str s]) M = .ok (.bl (isN s u)) M := by
  have hf := enc_flat u
  have e : (enc u).eqv (.tup [.str [110, 97, 109, 101], .str s]) = isN s u := by
    cases u <;> simp [enc, D.eqv, D.eqvL, isN]
  have h : dEq (enc u) (.tup [.str [110, 97, 109, 101], .str s]) M = some (isN s u) := by
    have h2 : min (enc u).dep (D.tup [.str [110, 97, 109, 101], .str s]).dep ≤ 150 := by simp [D.dep, D.depL]; omega
    cases u <;> simp only [enc] at hf e h2 ⊢ <;> simp only [dEq, hf, e, h2, D.flat, D.flatL, enc_flat, Bool.true_and, Bool.and_true, decide_true, if_true]
  simp [dEqB, h]
theorem maxI_eq {m : Int} : ∀ {l : List Int}, (∀ x ∈ l, x ≤ m) → m ∈ l → maxI l = m
  | [x], _, h => by simp at h; subst h; rfl
  | x :: y :: r, h, hm => by
    rw [maxI_2]
    rw [List.mem_cons] at hm
    by_cases hm2 : m ∈ y :: r
    · rw [maxI_eq (fun z hz => h z (by simp at hz ⊢; right; exact hz)) hm2]
      have := h x (by simp); omega
    · have e : x = m := by rcases hm with e | e; exact e.symm; exact absurd e hm2
      have hle : maxI (y :: r) ≤ m := by
        have : ∀ (l : List Int), l ≠ [] → (∀ x ∈ l, x ≤ m) → maxI l ≤ m := by
          intro l
          induction l with
          | nil => intro h; exact absurd rfl h
          | cons a l ih =>
            intro _ h
            cases l with
            | nil => exact h a (by simp)
            | cons b l => rw [maxI_2]; have h1 := h a (by simp); have h2 := ih (by simp) (fun x hx => h x (by simp at hx ⊢; right; exact hx)); omega
        exact this _ (by simp) (fun z hz => h z (by simp at hz ⊢; right; exact hz))
      omega
theorem paths_deep (t : Tm) : ∃ p ∈ paths t, p.length = dp t := by
  induction t with
  | u f a iha => obtain ⟨p, hp, e⟩ := iha; exact ⟨0 :: p, by simp [paths, hp], by simp [e]⟩
  | b f a b iha ihb =>
    obtain ⟨p, hp, e⟩ := iha; obtain ⟨q, hq, e2⟩ := ihb
    by_cases h : dp b ≤ dp a
    · exact ⟨0 :: p, by simp [paths, hp], by simp [e]; omega⟩
    · exact ⟨1 :: q, by simp [paths, hq], by simp [e2]; omega⟩
  | t f a b c iha ihb ihc =>
    obtain ⟨p, hp, e⟩ := iha; obtain ⟨q, hq, e2⟩ := ihb; obtain ⟨r, hr, e3⟩ := ihc
    by_cases h : dp b ≤ dp a
    · by_cases h2 : dp c ≤ dp a
      · exact ⟨0 :: p, by simp [paths, hp], by simp [e]; omega⟩
      · exact ⟨2 :: r, by simp [paths, hr], by simp [e3]; omega⟩
    · by_cases h2 : dp c ≤ dp b
      · exact ⟨1 :: q, by simp [paths, hq], by simp [e2]; omega⟩
      · exact ⟨2 :: r, by simp [paths, hr], by simp [e3]; omega⟩
  | _ => exact ⟨[], by simp [paths], rfl⟩
theorem maxI_paths (t : Tm) : maxI ((paths t).map fun p => (p.length : Int)) = dp t := by
  apply maxI_eq
  · intro x hx; simp at hx; obtain ⟨p, hp, rfl⟩ := hx; have := paths_short t p hp; omega
  · obtain ⟨p, hp, e⟩ := paths_deep t; simp; exact ⟨p, hp, by omega⟩
/-! what may be compared -/
theorem gd_encp {p : List Int} (h : p.length ≤ 16000000) : Gd (encp p) := .tup _ (fun x hx => by simp at hx; obtain ⟨_, _, rfl⟩ := hx; exact .int _) (by simpa using h)
theorem gd_ints {p : List Int} (h : p.length ≤ 16000000) : Gd (.tup (p.map .int)) := gd_encp h
theorem gd_strs {p : List (List Nat)} (h : p.length ≤ 16000000) : Gd (.tup (p.map .str)) := .tup _ (fun x hx => by simp at hx; obtain ⟨_, _, rfl⟩ := hx; exact .str _) (by simpa using h)
theorem gd_paths {ps : List (List Int)} (h : okp ps) : Gd (.tup (ps.map encp)) := .tup _ (fun x hx => by simp at hx; obtain ⟨p, hp, rfl⟩ := hx; exact gd_encp (h.2 p hp)) (by simpa using h.1)
theorem depL_le {k : Nat} : ∀ {xs : List D}, (∀ x ∈ xs, x.dep ≤ k) → D.depL xs ≤ k
  | [], _ => by simp [D.depL]
  | x :: xs, h => by
    have h1 := h x (by simp)
    have h2 := depL_le (xs := xs) (fun y hy => h y (by simp [hy]))
    simp only [D.depL]; omega
theorem dep_encp {p : List Int} : (encp p).dep ≤ 1 := by
  have : D.depL (p.map .int) ≤ 0 := depL_le (fun x hx => by simp at hx; obtain ⟨_, _, rfl⟩ := hx; simp [D.dep])
  simp [encp, D.dep]; omega
theorem dep_strs {p : List (List Nat)} : (D.tup (p.map .str)).dep ≤ 1 := by
  have : D.depL (p.map .str) ≤ 0 := depL_le (fun x hx => by simp at hx; obtain ⟨_, _, rfl⟩ := hx; simp [D.dep])
  simp [D.dep]; omega
theorem dep_paths {ps : List (List Int)} : (D.tup (ps.map encp)).dep ≤ 2 := by
  have : D.depL (ps.map encp) ≤ 1 := depL_le (fun x hx => by simp at hx; obtain ⟨p, hp, rfl⟩ := hx; exact dep_encp)
  simp [D.dep]; omega
theorem flatL_all : ∀ {xs : List D}, (∀ x ∈ xs, x.flat = true) → D.flatL xs = true
  | [], _ => rfl
  | x :: xs, h => by simp only [D.flatL, Bool.and_eq_true]; exact ⟨h x (by simp), flatL_all (fun y hy => h y (by simp [hy]))⟩
theorem flat_ints {p : List Int} : D.flatL (p.map .int) = true := flatL_all (fun x hx => by simp at hx; obtain ⟨_, _, rfl⟩ := hx; simp [D.flat])
theorem flat_encs {p : List Tm} : D.flatL (p.map enc) = true := flatL_all (fun x hx => by simp at hx; obtain ⟨_, _, rfl⟩ := hx; exact enc_flat _)
@[simp] theorem ne_enc {t : Tm} {M : Mem} (h : dp t ≤ 149) : dNeB (enc t) (enc t) M = .ok (.bl false) M := neB_same (enc_flat t) (by rw [enc_dep]; omega)
theorem ne_kids {t : Tm} {M : Mem} (h : dp t ≤ 140) : dNeB (.tup ((kids t).map enc)) (.tup ((kids t).map enc)) M = .ok (.bl false) M := by
  apply neB_same
  · exact flat_encs
  · have : D.depL ((kids t).map enc) ≤ 149 := depL_le (fun x hx => by
      simp at hx; obtain ⟨a, ha, rfl⟩ := hx; rw [enc_dep]
      have : dp a ≤ dp t := by cases t <;> simp at ha <;> (try rcases ha with rfl | rfl | rfl) <;> (try rcases ha with rfl | rfl) <;> (try subst ha) <;> simp <;> omega
      omega)
    simp only [D.dep]; omega
theorem ne_ints {p : List Int} {M : Mem} : dNeB (.tup (p.map .int)) (.tup (p.map .int)) M = .ok (.bl false) M := neB_same flat_ints (by have := dep_encp (p := p); unfold encp at this; omega)
end PK.proofkernel_k00_whole_terms_places_and_p
end

section
set_option Elab.async false
set_option linter.all false
set_option maxHeartbeats 4000000
set_option maxRecDepth 100000
namespace PK.proofkernel_k00_whole_terms_places_and_p
open PK
variable {wf : Nat}
@[simp] theorem q0 : plainB [97] = true := by decide
@[simp] theorem q1 : localB [97] = false := by decide
@[simp] theorem q2 : nameB [97] = true := by decide
@[simp] theorem q3 : plainB [120, 49] = true := by decide
@[simp] theorem q4 : localB [120, 49] = true := by decide
@[simp] theorem q5 : nameB [120, 49] = false := by decide
@[simp] theorem q6 : plainB [120] = true := by decide
@[simp] theorem q7 : localB [120] = false := by decide
@[simp] theorem q8 : nameB [120] = true := by decide
@[simp] theorem q9 : plainB [120, 97, 49] = true := by decide
@[simp] theorem q10 : localB [120, 97, 49] = false := by decide
@[simp] theorem q11 : nameB [120, 97, 49] = true := by decide
@[simp] theorem q12 : plainB [85, 49] = true := by decide
@[simp] theorem q13 : localB [85, 49] = false := by decide
@[simp] theorem q14 : nameB [85, 49] = false := by decide
@[simp] theorem q15 : plainB [85] = true := by decide
@[simp] theorem q16 : localB [85] = false := by decide
@[simp] theorem q17 : nameB [85] = false := by decide
@[simp] theorem q18 : plainB [85, 97] = true := by decide
@[simp] theorem q19 : localB [85, 97] = false := by decide
@[simp] theorem q20 : nameB [85, 97] = true := by decide
@[simp] theorem q21 : plainB [98, 121] = true := by decide
@[simp] theorem q22 : localB [98, 121] = false := by decide
@[simp] theorem q23 : nameB [98, 121] = false := by decide
@[simp] theorem q24 : plainB [78, 97, 116, 46, 101, 108, 105, 109, 48] = true := by decide
@[simp] theorem q25 : localB [78, 97, 116, 46, 101, 108, 105, 109, 48] = false := by decide
@[simp] theorem q26 : nameB [78, 97, 116, 46, 101, 108, 105, 109, 48] = true := by decide
@[simp] theorem q27 : plainB [97, 46] = false := by decide
@[simp] theorem q28 : localB [97, 46] = false := by decide
@[simp] theorem q29 : nameB [97, 46] = false := by decide
@[simp] theorem q30 : plainB [49, 97] = false := by decide
@[simp] theorem q31 : localB [49, 97] = false := by decide
@[simp] theorem q32 : nameB [49, 97] = false := by decide
@[simp] theorem q33 : plainB [] = false := by decide
@[simp] theorem q34 : localB [] = false := by decide
@[simp] theorem q35 : nameB [] = false := by decide
@[simp] theorem q36 : plainB [97, 32, 98] = false := by decide
@[simp] theorem q37 : localB [97, 32, 98] = false := by decide
@[simp] theorem q38 : nameB [97, 32, 98] = false := by decide
@[simp] theorem q39 : plainB [97, 97, 97, 97, 97, 97, 97, 97, 97, 97, 97, 97, 97, 97, 97, 97, 97, 97, 97, 97, 97, 97, 97, 97, 97, 97, 97, 97, 97, 97, 97] = false := by decide
@[simp] theorem q40 : localB [97, 97, 97, 97, 97, 97, 97, 97, 97, 97, 97, 97, 97, 97, 97, 97, 97, 97, 97, 97, 97, 97, 97, 97, 97, 97, 97, 97, 97, 97, 97] = false := by decide
@[simp] theorem q41 : nameB [97, 97, 97, 97, 97, 97, 97, 97, 97, 97, 97, 97, 97, 97, 97, 97, 97, 97, 97, 97, 97, 97, 97, 97, 97, 97, 97, 97, 97, 97, 97] = false := by decide
@[simp] theorem q42 : plainB [97, 45, 98] = false := by decide
@[simp] theorem q43 : localB [97, 45, 98] = false := by decide
@[simp] theorem q44 : nameB [97, 45, 98] = false := by decide
@[simp] theorem q45 : plainB [95, 97] = false := by decide
@[simp] theorem q46 : localB [95, 97] = false := by decide
@[simp] theorem q47 : nameB [95, 97] = false := by decide
@[simp] theorem q48 : plainB [120, 49, 50] = true := by decide
@[simp] theorem q49 : localB [120, 49, 50] = true := by decide
@[simp] theorem q50 : nameB [120, 49, 50] = false := by decide
@[simp] theorem q51 : plainB [97, 97, 97, 97, 97, 97, 97, 97, 97, 97, 97, 97, 97, 97, 97, 97, 97, 97, 97, 97, 97, 97, 97, 97, 97, 97, 97, 97, 97, 97] = true := by decide
@[simp] theorem q52 : localB [97, 97, 97, 97, 97, 97, 97, 97, 97, 97, 97, 97, 97, 97, 97, 97, 97, 97, 97, 97, 97, 97, 97, 97, 97, 97, 97, 97, 97, 97] = false := by decide
@[simp] theorem q53 : nameB [97, 97, 97, 97, 97, 97, 97, 97, 97, 97, 97, 97, 97, 97, 97, 97, 97, 97, 97, 97, 97, 97, 97, 97, 97, 97, 97, 97, 97, 97] = true := by decide
theorem c4_ns (n : Nat) (M : Mem) (x : D) (h : dIsi .str x M = .ok (.bl false) M) : callN pg wf (n + 1) 4 [x] M = .ok (.bl false) M := by
  rw [callS (d := d4) rfl]; simp [d4, gcM_lt, h, -dIsi_loc]
theorem c5_ns (n : Nat) (M : Mem) (x : D) (h : dIsi .str x M = .ok (.bl false) M) : callN pg wf (n + 1) 5 [x] M = .ok (.bl false) M := by
  rw [callS (d := d5) rfl]; simp [d5, gcM_lt, h, -dIsi_loc]
theorem c6_ns (n : Nat) (M : Mem) (x : D) (h : dIsi .str x M = .ok (.bl false) M) : callN pg wf (n + 2) 6 [x] M = .ok (.bl false) M := by
  rw [callS (d := d6) rfl]; simp [d6, gcM_lt, c4_ns n M x h]
theorem c49 (n : Nat) (M : Mem) : callN pg wf (n + 3) 49 [] M = .ok (.bl true) M := by
  rw [callS (d := d49) rfl]
  simp [d49, gcM_lt, gcM_locE, ofF_loc, for_cons, c4, c5, c6, c4_ns, c5_ns, c6_ns]
end PK.proofkernel_k00_whole_terms_places_and_p
end

section
set_option Elab.async false
set_option linter.all false
set_option maxHeartbeats 4000000
set_option maxRecDepth 100000
namespace PK.proofkernel_k00_whole_terms_places_and_p
open PK
variable {wf m : Nat} {κ : Ctx} {t v a b : Tm} {s0 : MO} {A B : SS} {x0 x1 x2 x3 x4 x5 x6 x7 x8 x9 x10 x11 x12 x13 x14 x15 x16 x17 x18 x19 x20 x21 x22 : Option D}
abbrev mem2 (s0 : MO) (t : Tm) : Mem := [s0, .lst ((paths t).map encp), .lst ((paths t).map encp)]
abbrev mem3 (s0 : MO) (t : Tm) : Mem := [s0, .lst ((paths t).map encp), .lst ((paths t).map encp), .lst ((fr t 0).map .int)]
@[simp] theorem ctx_call {f w l} : (Ctx.mk f w l).call = f := rfl
theorem L0 (hκ : κ = ⟨callN pg wf (m + 200), wf, m + 200⟩) (ht : dp t ≤ 3) (hs : sz t < 64) : pIf (sOr (sUn dNot (sUn (dIsi .list) (sVar 5))) (sOr (sUn dNot (sCall 34 [] (sCons (sRow (dTuple) (sCons (sVar 5) (sNil))) (sCons (sRow (dTuple) (sCons (sVar 4) (sNil))) (sNil))))) (sOr (sUn dNot (sCall 34 [] (sCons (sCall 12 [] (sCons (sVar 2) (sNil))) (sCons (sRow (dLen tb) (sCons (sVar 4) (sNil))) (sNil))))) (sUn dNot (sCall 34 [] (sCons (sCall 13 [] (sCons (sVar 2) (sNil))) (sCons (sRow (dMax) (sCons (sComp [11] (.name 11) (iOf (sVar 4)) none (sRow (dLen tb) (sCons (sVar 11) (sNil)))) (sNil))) (sNil)))))))) A B κ [x0, x1, some (enc t), x3, some (.loc 1), some (.loc 2), x6, x7, x8, x9, x10, x11, x12, x13, x14, x15, x16, x17, x18, x19, x20, x21, x22] (mem2 s0 t) = B κ [x0, x1, some (enc t), x3, some (.loc 1), some (.loc 2), x6, x7, x8, x9, x10, x11, x12, x13, x14, x15, x16, x17, x18, x19, x20, x21, x22] (mem2 s0 t) := by
  have hp : okp (paths t) := okp_paths (by omega)
  have h1 : ∀ M, callN pg wf (m + 200) 34 [.tup ((paths t).map encp), .tup ((paths t).map encp)] M = .ok (.bl true) M := fun M => c34 (m + 199) _ M (gd_paths hp) (by have := dep_paths (ps := paths t); omega)
  have h2 : ∀ M i, callN pg wf (m + 200) 34 [.int i, .int i] M = .ok (.bl true) M := fun M i => c34 (m + 199) _ M (.int i) (by simp [D.dep])
  have h3 : ∀ M, callN pg wf (m + 200) 12 [enc t] M = .ok (.int (sz t)) M := fun M => c12 t (m + 199) M (by omega)
  have h4 : ∀ M, callN pg wf (m + 200) 13 [enc t] M = .ok (.int (dp t)) M := fun M => c13 t (m + 199) M (by omega)
  have hl := paths_len t
  have hcomp : ∀ (M : Mem) (ρ : Env), 11 < ρ.length → compGo κ ρ (.name 11) none (sRow (dLen tb) (sCons (sVar 11) sNil)) ((paths t).map encp) [] M = .ok ((paths t).map (D.int ∘ fun p : List Int => (p.length : Int))) M := by
    intro M ρ hρ
    rw [comp_mapA encp (D.int ∘ fun p : List Int => (p.length : Int))]
    · simp
    · intro p _
      exact ⟨_, M, rfl, by simp [hρ], by simp, by simp⟩
    · have := hp.1; simp; omega
  have hm : ∀ M, mxB (some ((paths t).map fun p : List Int => (p.length : Int))) M = .ok (.int (dp t)) M := by
    intro M
    rw [mxB_ne (by cases t <;> simp [paths]), maxI_paths]
  simp [hκ] at hcomp
  simp [hκ, mem2, h1, h2, h3, h4, hl, ofF_loc, hcomp, hm]
theorem rb_kids (t : Tm) : rb t (kids t) = t := by cases t <;> simp
theorem L1 (hκ : κ = ⟨callN pg wf (m + 200), wf, m + 200⟩) (ht : dp t ≤ 3) (hs : sz t < 64) (hw : wt t) (hwf : 64 ≤ wf) (M : Mem) : pIf (sOr (sBin dNeB (sCall 7 [] (sCons (sVar 2) (sNil))) (sCall 37 [] (sCons (sVar 2) (sNil)))) (sOr (sBin dNeB (sCall 8 [] (sCons (sVar 2) (sNil))) (sCall 38 [] (sCons (sVar 2) (sNil)))) (sOr (sBin dNeB (sCall 9 [] (sCons (sVar 2) (sCons (sRow (dList) (sCons (sCall 7 [] (sCons (sVar 2) (sNil))) (sNil))) (sNil)))) (sVar 2)) (sUn dNot (sCall 32 [] (sCons (sCall 10 [] (sCons (sVar 2) (sNil))) (sCons (sC (.bl true)) (sNil)))))))) A B κ [x0, x1, some (enc t), x3, x4, x5, x6, x7, x8, x9, x10, x11, x12, x13, x14, x15, x16, x17, x18, x19, x20, x21, x22] M = B κ [x0, x1, some (enc t), x3, x4, x5, x6, x7, x8, x9, x10, x11, x12, x13, x14, x15, x16, x17, x18, x19, x20, x21, x22] M := by
  have h1 := c9 (wf := wf) (m + 199) M t (kids t) rfl
  rw [rb_kids] at h1
  have h2 : ∀ M, callN pg wf (m + 200) 10 [enc t] M = .ok (.bl true) M := fun M => c10 t (m + 196) M hw (by omega) (by omega) (by omega)
  have h3 : ∀ M, dNeB (.tup ((kids t).map enc)) (.tup ((kids t).map enc)) M = .ok (.bl false) M := fun M => ne_kids (by omega)
  have h4 : ∀ M, dNeB (.tup ((bnd t).map .int)) (.tup ((bnd t).map .int)) M = .ok (.bl false) M := fun M => ne_ints
  have h5 : ∀ M, dNeB (enc t) (enc t) M = .ok (.bl false) M := fun M => ne_enc (by omega)
  have h6 : ∀ M, callN pg wf (m + 200) 38 [enc t] M = .ok (.tup ((bnd t).map .int)) M := fun M => c38 (m + 198) M t
  simp [hκ, h1, h2, h3, h4, h5, h6]
theorem L2 {by_ low : Int} (hκ : κ = ⟨callN pg wf (m + 200), wf, m + 200⟩) (ht : dp t ≤ 3) (M : Mem) : pIf (sOr (sBin dNeB (sCall 14 [.int 0] (sCons (sVar 2) (sCons (sVar 7) (sNil)))) (sCall 39 [] (sCons (sVar 2) (sCons (sVar 7) (sCons (sC (.int 0)) (sNil)))))) (sBin dNeB (sCall 14 [] (sCons (sVar 2) (sCons (sVar 7) (sCons (sVar 8) (sNil))))) (sCall 39 [] (sCons (sVar 2) (sCons (sVar 7) (sCons (sVar 8) (sNil))))))) A B κ [x0, x1, some (enc t), x3, x4, x5, x6, some (.int by_), some (.int low), x9, x10, x11, x12, x13, x14, x15, x16, x17, x18, x19, x20, x21, x22] M = B κ [x0, x1, some (enc t), x3, x4, x5, x6, some (.int by_), some (.int low), x9, x10, x11, x12, x13, x14, x15, x16, x17, x18, x19, x20, x21, x22] M := by
  have h1 : ∀ M l, callN pg wf (m + 200) 14 [enc t, .int by_, .int l] M = .ok (enc (sh by_ t l)) M := fun M l => c14 by_ t (m + 199) l M (by omega)
  have h2 : ∀ M l, callN pg wf (m + 200) 39 [enc t, .int by_, .int l] M = .ok (enc (sh by_ t l)) M := fun M l => c39 by_ t (m + 199) l M (by omega)
  have h5 : ∀ M l, dNeB (enc (sh by_ t l)) (enc (sh by_ t l)) M = .ok (.bl false) M := fun M l => ne_enc (by rw [sh_dp]; omega)
  simp [hκ, h1, h2, h5]
theorem L3 {k : Int} (hκ : κ = ⟨callN pg wf (m + 200), wf, m + 200⟩) (ht : dp t ≤ 3) (hv : dp v ≤ 2) (M : Mem) : pIf (sOr (sBin dNeB (sCall 15 [.int 0] (sCons (sVar 2) (sCons (sVar 3) (sNil)))) (sCall 40 [] (sCons (sVar 2) (sCons (sVar 3) (sCons (sC (.int 0)) (sNil)))))) (sBin dNeB (sCall 15 [] (sCons (sVar 2) (sCons (sVar 3) (sCons (sVar 6) (sNil))))) (sCall 40 [] (sCons (sVar 2) (sCons (sVar 3) (sCons (sVar 6) (sNil))))))) A B κ [x0, x1, some (enc t), some (enc v), x4, x5, some (.int k), x7, x8, x9, x10, x11, x12, x13, x14, x15, x16, x17, x18, x19, x20, x21, x22] M = B κ [x0, x1, some (enc t), some (enc v), x4, x5, some (.int k), x7, x8, x9, x10, x11, x12, x13, x14, x15, x16, x17, x18, x19, x20, x21, x22] M := by
  have h1 : ∀ M l, callN pg wf (m + 200) 15 [enc t, enc v, .int l] M = .ok (enc (pu v t l)) M := fun M l => c15 v t (m + 199) l M (by omega)
  have h2 : ∀ M l, callN pg wf (m + 200) 40 [enc t, enc v, .int l] M = .ok (enc (pu v t l)) M := fun M l => c40 v t (m + 199) l M (by omega)
  have h5 : ∀ M l, dNeB (enc (pu v t l)) (enc (pu v t l)) M = .ok (.bl false) M := fun M l => ne_enc (by have := pu_dp v t l; omega)
  simp [hκ, h1, h2, h5]
theorem L4 {k : Int} (hκ : κ = ⟨callN pg wf (m + 200), wf, m + 200⟩) (ht : dp t ≤ 3) (hv : dp v ≤ 2) (M : Mem) : pIf (sOr (sBin dNeB (sCall 15 [.int 0] (sCons (sCall 14 [.int 0] (sCons (sVar 2) (sCons (sC (.int 1)) (sNil)))) (sCons (sVar 3) (sNil)))) (sVar 2)) (sBin dNeB (sCall 15 [] (sCons (sCall 14 [] (sCons (sVar 2) (sCons (sC (.int 1)) (sCons (sVar 6) (sNil))))) (sCons (sVar 3) (sCons (sVar 6) (sNil))))) (sVar 2))) A B κ [x0, x1, some (enc t), some (enc v), x4, x5, some (.int k), x7, x8, x9, x10, x11, x12, x13, x14, x15, x16, x17, x18, x19, x20, x21, x22] M = B κ [x0, x1, some (enc t), some (enc v), x4, x5, some (.int k), x7, x8, x9, x10, x11, x12, x13, x14, x15, x16, x17, x18, x19, x20, x21, x22] M := by
  have h1 : ∀ M l, callN pg wf (m + 200) 14 [enc t, .int 1, .int l] M = .ok (enc (sh 1 t l)) M := fun M l => c14 1 t (m + 199) l M (by omega)
  have h2 : ∀ M l, callN pg wf (m + 200) 15 [enc (sh 1 t l), enc v, .int l] M = .ok (enc t) M := fun M l => by
    rw [c15 v (sh 1 t l) (m + 199) l M (by rw [sh_dp]; omega), pu_sh]
  have h5 : ∀ M, dNeB (enc t) (enc t) M = .ok (.bl false) M := fun M => ne_enc (by omega)
  simp [hκ, h1, h2, h5]
theorem L5 (hκ : κ = ⟨callN pg wf (m + 200), wf, m + 200⟩) (ht : dp t ≤ 3) (ha : dp a ≤ 1) (hb : dp b ≤ 1) (M : Mem) : pIf (sOr (sBin dNeB (sCall 16 [] (sCons (sVar 2) (sCons (sVar 9) (sNil)))) (sCall 40 [] (sCons (sCall 40 [] (sCons (sVar 2) (sCons (sCall 39 [] (sCons (sBin (dIx tb) (sVar 9) (sC (.int 1))) (sCons (sC (.int 1)) (sCons (sC (.int 0)) (sNil))))) (sCons (sC (.int 0)) (sNil))))) (sCons (sBin (dIx tb) (sVar 9) (sC (.int 0))) (sCons (sC (.int 0)) (sNil)))))) (sBin dNeB (sCall 16 [] (sCons (sVar 2) (sCons (sTup (sNil)) (sNil)))) (sVar 2))) A B κ [x0, x1, some (enc t), x3, x4, x5, x6, x7, x8, some (.tup [enc a, enc b]), x10, x11, x12, x13, x14, x15, x16, x17, x18, x19, x20, x21, x22] M = B κ [x0, x1, some (enc t), x3, x4, x5, x6, x7, x8, some (.tup [enc a, enc b]), x10, x11, x12, x13, x14, x15, x16, x17, x18, x19, x20, x21, x22] M := by
  have hd1 := sh_dp 1 b 0
  have hd2 := sh_dp 0 a 0
  have hd3 := pu_dp (sh 1 b 0) t 0
  have hd4 := pu_dp a (pu (sh 1 b 0) t 0) 0
  have h1 : ∀ M, callN pg wf (m + 200) 16 [enc t, .tup [enc a, enc b]] M = .ok (enc (pu a (pu (sh 1 b 0) t 0) 0)) M := fun M => by
    rw [c16_2 (m + 198) M t a b (by omega), sh_0 a]
  have h2 : ∀ M, callN pg wf (m + 200) 16 [enc t, .tup []] M = .ok (enc t) M := fun M => c16_0 (m + 199) M t
  have h3 : ∀ M, callN pg wf (m + 200) 39 [enc b, .int 1, .int 0] M = .ok (enc (sh 1 b 0)) M := fun M => c39 1 b (m + 199) 0 M (by omega)
  have h4 : ∀ M, callN pg wf (m + 200) 40 [enc t, enc (sh 1 b 0), .int 0] M = .ok (enc (pu (sh 1 b 0) t 0)) M := fun M => c40 (sh 1 b 0) t (m + 199) 0 M (by omega)
  have h5 : ∀ M, callN pg wf (m + 200) 40 [enc (pu (sh 1 b 0) t 0), enc a, .int 0] M = .ok (enc (pu a (pu (sh 1 b 0) t 0) 0)) M := fun M => c40 a _ (m + 199) 0 M (by omega)
  have h6 : ∀ M, dNeB (enc t) (enc t) M = .ok (.bl false) M := fun M => ne_enc (by omega)
  have h7 : ∀ M, dNeB (enc (pu a (pu (sh 1 b 0) t 0) 0)) (enc (pu a (pu (sh 1 b 0) t 0) 0)) M = .ok (.bl false) M := fun M => ne_enc (by omega)
  simp [hκ, h1, h2, h3, h4, h5, h6, h7]
theorem L6 (hκ : κ = ⟨callN pg wf (m + 200), wf, m + 200⟩) (ht : dp t ≤ 3) (hs : sz t < 64) (hw : wt t) (hwf : 64 ≤ wf) : pIf (sUn dNot (sCall 34 [] (sCons (sCall 17 [] (sCons (sVar 2) (sNil))) (sCons (sRow (dTuple) (sCons (sComp [22] (.name 22) (iR1 (sCons (sC (.int 1001)) (sNil))) (some (sBin (dInB tb) (sVar 22) (sVar 10))) (sVar 22)) (sNil))) (sNil))))) A B κ [x0, x1, some (enc t), x3, x4, x5, x6, x7, x8, x9, some (.loc 3), x11, x12, x13, x14, x15, x16, x17, x18, x19, x20, x21, x22] (mem3 s0 t) = B κ [x0, x1, some (enc t), x3, x4, x5, x6, x7, x8, x9, some (.loc 3), x11, x12, x13, x14, x15, x16, x17, x18, x19, x20, x21, x22] (mem3 s0 t) := by
  obtain ⟨ks, hn, hm, h⟩ := c17 (wf := wf) t (m + 198) (mem3 s0 t) hs hwf
  rw [free_sorted hw hn hm] at h
  have hl : (r1001.filter (fun c => decide (c ∈ fr t 0))).length ≤ 1001 := by
    have := List.length_filter_le (fun c => decide (c ∈ fr t 0)) r1001
    simp [r1001] at this ⊢; omega
  have h1 : ∀ M, callN pg wf (m + 200) 34 [.tup ((r1001.filter (fun c => decide (c ∈ fr t 0))).map .int), .tup ((r1001.filter (fun c => decide (c ∈ fr t 0))).map .int)] M = .ok (.bl true) M := fun M => c34 (m + 199) _ M (gd_ints (by omega)) (by have := dep_encp (p := r1001.filter (fun c => decide (c ∈ fr t 0))); unfold encp at this; omega)
  have hcomp : compGo κ [x0, x1, some (enc t), x3, x4, x5, x6, x7, x8, x9, some (.loc 3), x11, x12, x13, x14, x15, x16, x17, x18, x19, x20, x21, none] (.name 22) (some (sBin (dInB tb) (sVar 22) (sVar 10))) (sVar 22) (r1001.map .int) [] (mem3 s0 t) = .ok ((r1001.filter (fun c => decide (c ∈ fr t 0))).map .int) (mem3 s0 t) := by
    rw [comp_filterA D.int D.int (fun c => decide (c ∈ fr t 0))]
    · simp
    · intro c _
      refine ⟨_, mem3 s0 t, rfl, ?_, List.take_length, fun _ => ⟨mem3 s0 t, by simp, List.take_length, by simp⟩⟩
      have hd := dIn_loc (T := tb) (M := mem3 s0 t) (x := .int c) (a := 3) (ys := (fr t 0).map .int) (by simp [mem3]) rfl flat_ints (Nat.le_trans (depL_le (k := 0) (fun x hx => by simp at hx; obtain ⟨_, _, rfl⟩ := hx; simp [D.dep])) (by omega))
      have he : (((fr t 0).map D.int).any fun z => z.eqv (.int c)) = decide (c ∈ fr t 0) := by
        generalize fr t 0 = l
        induction l with
        | nil => simp
        | cons k l ih =>
          rw [List.map_cons, List.any_cons, ih]
          simp only [D.eqv]
          by_cases e : k = c
          · simp [e]
          · have e2 : ¬ c = k := fun x => e x.symm
            simp [e, e2]
      rw [he] at hd
      simp [hd]
    · simp [r1001]
  simp [hκ, mem3] at hcomp h
  simp [hκ, mem3, h, h1, range_1001, hcomp]
theorem L7 (hκ : κ = ⟨callN pg wf (m + 200), wf, m + 200⟩) (ht : dp t ≤ 3) (hs : sz t < 64) (hw : wt t) (hwf : 64 ≤ wf) : pIf (sUn dNot (sCall 34 [] (sCons (sCall 18 [] (sCons (sVar 2) (sNil))) (sCons (sRow (dTuple) (sCons (sComp [22] (.name 22) (iOf (sC (.str [102, 103, 104]))) (some (sRow (one dAny) (sCons (sComp [11] (.name 11) (iOf (sVar 4)) none (sBin dEqB (sCall 43 [] (sCons (sVar 2) (sCons (sVar 11) (sNil)))) (sTup (sCons (sC (.str [110, 97, 109, 101])) (sCons (sVar 22) (sNil)))))) (sNil)))) (sVar 22)) (sNil))) (sNil))))) A B κ [x0, x1, some (enc t), x3, some (.loc 1), x5, x6, x7, x8, x9, x10, x11, x12, x13, x14, x15, x16, x17, x18, x19, x20, x21, x22] (mem3 s0 t) = B κ [x0, x1, some (enc t), x3, some (.loc 1), x5, x6, x7, x8, x9, x10, x11, x12, x13, x14, x15, x16, x17, x18, x19, x20, x21, x22] (mem3 s0 t) := by
  obtain ⟨ks, hn, hm, h⟩ := c18 (wf := wf) t (m + 198) (mem3 s0 t) hs hwf
  rw [names_sorted hw hn hm] at h
  have hl : (fgh.filter (fun c => decide (c ∈ nms t))).length ≤ 3 := by
    have := List.length_filter_le (fun c => decide (c ∈ nms t)) fgh
    simp [fgh] at this ⊢; omega
  have h1 : ∀ M, callN pg wf (m + 200) 34 [.tup ((fgh.filter (fun c => decide (c ∈ nms t))).map .str), .tup ((fgh.filter (fun c => decide (c ∈ nms t))).map .str)] M = .ok (.bl true) M := fun M => c34 (m + 199) _ M (gd_strs (by omega)) (by have := dep_strs (p := fgh.filter (fun c => decide (c ∈ nms t))); omega)
  have hp : okp (paths t) := okp_paths (by omega)
  have hin : ∀ (s : List Nat) (M : Mem), compGo κ [x0, x1, some (enc t), x3, some (.loc 1), x5, x6, x7, x8, x9, x10, none, x12, x13, x14, x15, x16, x17, x18, x19, x20, x21, some (.str s)] (.name 11) none (sBin dEqB (sCall 43 [] (sCons (sVar 2) (sCons (sVar 11) (sNil)))) (sTup (sCons (sC (.str [110, 97, 109, 101])) (sCons (sVar 22) (sNil))))) ((paths t).map encp) [] M = .ok ((paths t).map (D.bl ∘ fun p => isN s (sb t p))) M := by
    intro s M
    rw [comp_mapA encp (D.bl ∘ fun p => isN s (sb t p))]
    · simp
    · intro p hp
      obtain ⟨u, hu⟩ := at_paths t p hp
      refine ⟨_, M, rfl, ?_, by simp, by simp⟩
      simp [hκ, c43 hu (m + 198) M, eq_nm, at_sb hu]
    · have := hp.1; simp; omega
  have hcomp : compGo κ [x0, x1, some (enc t), x3, some (.loc 1), x5, x6, x7, x8, x9, x10, x11, x12, x13, x14, x15, x16, x17, x18, x19, x20, x21, none] (.name 22) (some (sRow (one dAny) (sCons (sComp [11] (.name 11) (iOf (sVar 4)) none (sBin dEqB (sCall 43 [] (sCons (sVar 2) (sCons (sVar 11) (sNil)))) (sTup (sCons (sC (.str [110, 97, 109, 101])) (sCons (sVar 22) (sNil)))))) (sNil)))) (sVar 22) (fgh.map .str) [] (mem3 s0 t) = .ok ((fgh.filter (fun c => decide (c ∈ nms t))).map .str) (mem3 s0 t) := by
    rw [comp_filterA D.str D.str (fun c => decide (c ∈ nms t))]
    · simp
    · intro c _
      refine ⟨_, mem3 s0 t ++ [.lst ((paths t).map (D.bl ∘ fun p => isN c (sb t p)))], rfl, ?_, by simp, fun _ => ⟨mem3 s0 t, by simp, List.take_length, by simp⟩⟩
      have hany := any_nm t c
      simp [hκ] at hin
      have hany2 : (List.map (fun p => isN c (sb t p)) (paths t)).any id = decide (c ∈ nms t) := by rw [List.any_map, ← hany]; rfl
      simp [hκ, mem3, ofF_loc, hin, hany2, -List.any_map]
    · simp [fgh]
  simp [hκ, mem3, fgh] at hcomp h h1
  simp [hκ, mem3, h, h1, hcomp]
end PK.proofkernel_k00_whole_terms_places_and_p
end

section
set_option Elab.async false
set_option linter.all false
set_option maxHeartbeats 4000000
set_option maxRecDepth 100000
namespace PK.proofkernel_k00_whole_terms_places_and_p
open PK
variable {wf m : Nat} {κ : Ctx} {t v a b : Tm} {s0 : MO} {A B : SS} {x0 x1 x2 x3 x4 x5 x6 x7 x8 x9 x10 x11 x12 x13 x14 x15 x16 x17 x18 x19 x20 x21 x22 : Option D}
theorem at_dp {t u : Tm} {p : List Int} (h : At t p u) : dp u ≤ dp t := by
  induction h with
  | nil => omega
  | @cons t a u p k h _ ih =>
    have : dp a ≤ dp t := by
      cases t with
      | u f x => match k, h with | 0, h => simp at h; subst h; simp
      | b f x y => match k, h with | 0, h => simp at h; subst h; simp; omega | 1, h => simp at h; subst h; simp; omega
      | t f x y z => match k, h with | 0, h => simp at h; subst h; simp; omega | 1, h => simp at h; subst h; simp; omega | 2, h => simp at h; subst h; simp; omega
      | _ => simp at h
    omega
theorem rp_dp {t u : Tm} {p : List Int} (h : At t p u) (v : Tm) : dp (rp t p v) ≤ dp t + dp v := by
  induction h with
  | nil => simp [rp]
  | @cons t a u p k h _ ih =>
    have e : rp t (↑k :: p) v = rb t ((kids t).set k (rp a p v)) := by simp [rp, h]
    rw [e]
    cases t with
    | u f x => match k, h with | 0, h => simp at h; subst h; simp; omega
    | b f x y => match k, h with | 0, h => simp at h; subst h; simp; omega | 1, h => simp at h; subst h; simp; omega
    | t f x y z => match k, h with | 0, h => simp at h; subst h; simp; omega | 1, h => simp at h; subst h; simp; omega | 2, h => simp at h; subst h; simp; omega
    | _ => simp at h
theorem L8 {u : Tm} {p : List Int} (hu : At t p u) (hκ : κ = ⟨callN pg wf (m + 200), wf, m + 200⟩) (ht : dp t ≤ 3) (hv : dp v ≤ 2) (M : Mem) : pIf (sOr (sBin dNeB (sCall 25 [] (sCons (sVar 2) (sCons (sVar 11) (sNil)))) (sCall 43 [] (sCons (sVar 2) (sCons (sVar 11) (sNil))))) (sOr (sUn dNot (sCall 34 [] (sCons (sCall 26 [] (sCons (sVar 2) (sCons (sVar 11) (sNil)))) (sCons (sCall 48 [] (sCons (sVar 2) (sCons (sVar 11) (sNil)))) (sNil))))) (sBin dNeB (sCall 27 [] (sCons (sVar 2) (sCons (sVar 11) (sCons (sVar 3) (sNil))))) (sCall 45 [] (sCons (sVar 2) (sCons (sVar 11) (sCons (sVar 3) (sNil)))))))) A B κ [x0, x1, some (enc t), some (enc v), x4, x5, x6, x7, x8, x9, x10, some (encp p), x12, x13, x14, x15, x16, x17, x18, x19, x20, x21, x22] M = B κ [x0, x1, some (enc t), some (enc v), x4, x5, x6, x7, x8, x9, x10, some (encp p), x12, x13, x14, x15, x16, x17, x18, x19, x20, x21, x22] M := by
  have hl := at_len hu
  have hd := at_dp hu
  have h1 : ∀ M, callN pg wf (m + 200) 25 [enc t, encp p] M = .ok (enc u) M := fun M => c25 hu (m + 196) M (by omega)
  have h2 : ∀ M, callN pg wf (m + 200) 43 [enc t, encp p] M = .ok (enc u) M := fun M => c43 hu (m + 198) M
  have h3 : ∀ M, callN pg wf (m + 200) 26 [enc t, encp p] M = .ok (.int (ar t p)) M := fun M => c26 hu (m + 196) M (by omega)
  have h4 : ∀ M, callN pg wf (m + 200) 48 [enc t, encp p] M = .ok (.int (ar t p)) M := fun M => c48 hu (m + 197) M
  have h5 : ∀ M, callN pg wf (m + 200) 27 [enc t, encp p, enc v] M = .ok (enc (rp t p v)) M := fun M => c27 hu v (m + 199) M (by omega)
  have h6 : ∀ M, callN pg wf (m + 200) 45 [enc t, encp p, enc v] M = .ok (enc (rp t p v)) M := fun M => c45 hu v (m + 199) M (by omega)
  have h7 : ∀ M i, callN pg wf (m + 200) 34 [.int i, .int i] M = .ok (.bl true) M := fun M i => c34 (m + 199) _ M (.int i) (by simp [D.dep])
  have h8 : ∀ M, dNeB (enc u) (enc u) M = .ok (.bl false) M := fun M => ne_enc (by omega)
  have h9 : ∀ M, dNeB (enc (rp t p v)) (enc (rp t p v)) M = .ok (.bl false) M := fun M => ne_enc (by have := rp_dp hu v; omega)
  simp [hκ, h1, h2, h3, h4, h5, h6, h7, h8, h9]
theorem ne_ref {M : Mem} : dNeB refT (.tup [.str [114, 101, 102, 117, 115, 101, 100], .str [112, 97, 116, 104], .tup []]) M = .ok (.bl false) M := neB_same (d := refT) rfl (by simp [refT, D.dep, D.depL])
theorem L9 {u : Tm} {p : List Int} (hu : At t p u) (hκ : κ = ⟨callN pg wf (m + 200), wf, m + 200⟩) (ht : dp t ≤ 3) (M : Mem) : pIf (sOr (sBin dNeB (sCall 35 [] (sCons (sC (.fn 25)) (sCons (sTup (sCons (sVar 2) (sCons (sVar 12) (sNil)))) (sNil)))) (sTup (sCons (sC (.str [114, 101, 102, 117, 115, 101, 100])) (sCons (sC (.str [112, 97, 116, 104])) (sCons (sTup (sNil)) (sNil)))))) (sBin dNeB (sCall 35 [] (sCons (sC (.fn 26)) (sCons (sTup (sCons (sVar 2) (sCons (sVar 12) (sNil)))) (sNil)))) (sTup (sCons (sC (.str [114, 101, 102, 117, 115, 101, 100])) (sCons (sC (.str [112, 97, 116, 104])) (sCons (sTup (sNil)) (sNil))))))) A B κ [x0, x1, some (enc t), x3, x4, x5, x6, x7, x8, x9, x10, x11, some (encp (p ++ [3])), x13, x14, x15, x16, x17, x18, x19, x20, x21, x22] M = B κ [x0, x1, some (enc t), x3, x4, x5, x6, x7, x8, x9, x10, x11, some (encp (p ++ [3])), x13, x14, x15, x16, x17, x18, x19, x20, x21, x22] M := by
  have hl := at_len hu
  have h1 : ∀ M, callN pg wf (m + 200) 35 [.fn 25, .tup [enc t, encp (p ++ [3])]] M = .ok refT M := fun M => t35_2 (c25_far hu (m + 195) M (by omega))
  have h2 : ∀ M, callN pg wf (m + 200) 35 [.fn 26, .tup [enc t, encp (p ++ [3])]] M = .ok refT M := fun M => t35_2 (c26_far hu (m + 195) M (by omega))
  simp [hκ, h1, h2, ne_ref]
theorem L10 {u : Tm} {p : List Int} (hu : At t p u) (hκ : κ = ⟨callN pg wf (m + 200), wf, m + 200⟩) (ht : dp t ≤ 3) (M : Mem) : pIf (sBin dNeB (sCall 35 [] (sCons (sC (.fn 27)) (sCons (sTup (sCons (sVar 2) (sCons (sVar 12) (sCons (sVar 3) (sNil))))) (sNil)))) (sTup (sCons (sC (.str [114, 101, 102, 117, 115, 101, 100])) (sCons (sC (.str [112, 97, 116, 104])) (sCons (sTup (sNil)) (sNil)))))) A B κ [x0, x1, some (enc t), some (enc v), x4, x5, x6, x7, x8, x9, x10, x11, some (encp (p ++ [3])), x13, x14, x15, x16, x17, x18, x19, x20, x21, x22] M = B κ [x0, x1, some (enc t), some (enc v), x4, x5, x6, x7, x8, x9, x10, x11, some (encp (p ++ [3])), x13, x14, x15, x16, x17, x18, x19, x20, x21, x22] M := by
  have hl := at_len hu
  have h1 : ∀ M, callN pg wf (m + 200) 35 [.fn 27, .tup [enc t, encp (p ++ [3]), enc v]] M = .ok refT M := fun M => t35_3 (c27_far hu v (m + 198) M (by omega))
  simp [hκ, h1, ne_ref]
theorem ne_pair {M : Mem} {d : D} {l : List Tm} (hd : d.flat = true) (hp : d.dep ≤ 100) (hl : ∀ x ∈ l, dp x ≤ 100) : dNeB (.tup [d, .tup (l.map enc)]) (.tup [d, .tup (l.map enc)]) M = .ok (.bl false) M := by
  apply neB_same
  · simp [D.flat, D.flatL, hd, flat_encs]
  · have h2 : D.depL (l.map enc) ≤ 101 := depL_le (fun x hx => by simp at hx; obtain ⟨y, hy, rfl⟩ := hx; rw [enc_dep]; have := hl y hy; omega)
    simp [D.dep, D.depL]; omega
theorem ne_pair2 {M : Mem} {d : D} {l : List Tm} (hd : d.flat = true) (hp : d.dep ≤ 100) (hl : ∀ x ∈ l, dp x ≤ 100) : dNeB (.tup [.tup (l.map enc), d]) (.tup [.tup (l.map enc), d]) M = .ok (.bl false) M := by
  apply neB_same
  · simp [D.flat, D.flatL, hd, flat_encs]
  · have h2 : D.depL (l.map enc) ≤ 101 := depL_le (fun x hx => by simp at hx; obtain ⟨y, hy, rfl⟩ := hx; rw [enc_dep]; have := hl y hy; omega)
    simp [D.dep, D.depL]; omega
theorem L11 (hκ : κ = ⟨callN pg (w + 5) (m + 200), (w + 5), m + 200⟩) (hv : dp v ≤ 3) (ha : dp a ≤ 3) (hb : dp b ≤ 3) (M : Mem) : pIf (sOr (sBin dNeB (sCall 19 [] (sCons (sVar 13) (sCons (sVar 14) (sNil)))) (sCall 41 [] (sCons (sVar 13) (sCons (sVar 14) (sNil))))) (sOr (sBin dNeB (sCall 20 [] (sCons (sCall 41 [] (sCons (sVar 13) (sCons (sVar 14) (sNil)))) (sNil))) (sTup (sCons (sVar 13) (sCons (sVar 14) (sNil))))) (sBin dNeB (sCall 20 [] (sCons (sTup (sCons (sC (.str [115, 111, 114, 116])) (sCons (sC (.int 1)) (sNil)))) (sNil))) (sTup (sCons (sTup (sCons (sC (.str [115, 111, 114, 116])) (sCons (sC (.int 1)) (sNil)))) (sCons (sTup (sNil)) (sNil))))))) A B κ [x0, x1, x2, x3, x4, x5, x6, x7, x8, x9, x10, x11, x12, some (.tup [.str [110, 97, 109, 101], .str [102]]), some (.tup [enc v, enc a, enc b]), x15, x16, x17, x18, x19, x20, x21, x22] M = B κ [x0, x1, x2, x3, x4, x5, x6, x7, x8, x9, x10, x11, x12, some (.tup [.str [110, 97, 109, 101], .str [102]]), some (.tup [enc v, enc a, enc b]), x15, x16, x17, x18, x19, x20, x21, x22] M := by
  have e : enc (.nm [102]) = .tup [.str [110, 97, 109, 101], .str [102]] := by simp [enc]
  have e1 : enc (.so 1) = .tup [.str [115, 111, 114, 116], .int 1] := by simp [enc]
  have h1 : ∀ M, callN pg (w + 5) (m + 200) 19 [.tup [.str [110, 97, 109, 101], .str [102]], .tup [enc v, enc a, enc b]] M = .ok (enc (.b .ap (.b .ap (.b .ap (.nm [102]) v) a) b)) M := fun M => by rw [← e]; exact c19_3 (m + 199) M _ v a b
  have h2 : ∀ M, callN pg (w + 5) (m + 200) 41 [.tup [.str [110, 97, 109, 101], .str [102]], .tup [enc v, enc a, enc b]] M = .ok (enc (.b .ap (.b .ap (.b .ap (.nm [102]) v) a) b)) M := fun M => by rw [← e]; exact c41_3 (m + 199) M _ v a b
  have h3 : ∀ M, callN pg (w + 5) (m + 200) 20 [enc (.b .ap (.b .ap (.b .ap (.nm [102]) v) a) b)] M = .ok (.tup [.tup [.str [110, 97, 109, 101], .str [102]], .tup [enc v, enc a, enc b]]) M := fun M => by rw [← e]; exact c20_3 (w := w) (m + 199) M _ v a b rfl
  have h4 : ∀ M, callN pg (w + 5) (m + 200) 20 [.tup [.str [115, 111, 114, 116], .int 1]] M = .ok (.tup [.tup [.str [115, 111, 114, 116], .int 1], .tup []]) M := fun M => by rw [← e1]; exact c20_0 (w := w) (m + 199) M 1 rfl
  have h5 : ∀ M, dNeB (enc (.b .ap (.b .ap (.b .ap (.nm [102]) v) a) b)) (enc (.b .ap (.b .ap (.b .ap (.nm [102]) v) a) b)) M = .ok (.bl false) M := fun M => ne_enc (by simp; omega)
  have h6 : ∀ M, dNeB (.tup [.tup [.str [110, 97, 109, 101], .str [102]], .tup [enc v, enc a, enc b]]) (.tup [.tup [.str [110, 97, 109, 101], .str [102]], .tup [enc v, enc a, enc b]]) M = .ok (.bl false) M := fun M => ne_pair (l := [v, a, b]) rfl (by simp [D.dep, D.depL]) (by simp; omega)
  have h7 : ∀ M, dNeB (.tup [.tup [.str [115, 111, 114, 116], .int 1], .tup []]) (.tup [.tup [.str [115, 111, 114, 116], .int 1], .tup []]) M = .ok (.bl false) M := fun M => ne_pair (l := []) rfl (by simp [D.dep, D.depL]) (by simp)
  simp [hκ, h1, h2, h3, h4, h5, h6, h7]
theorem L12 (hκ : κ = ⟨callN pg (w + 5) (m + 200), (w + 5), m + 200⟩) (hv : dp v ≤ 3) (ha : dp a ≤ 3) (hb : dp b ≤ 3) (M : Mem) : pIf (sOr (sBin dNeB (sCall 21 [] (sCons (sVar 9) (sCons (sVar 15) (sNil)))) (sTup (sCons (sC (.str [112, 105])) (sCons (sBin (dIx tb) (sVar 9) (sC (.int 0))) (sCons (sTup (sCons (sC (.str [112, 105])) (sCons (sBin (dIx tb) (sVar 9) (sC (.int 1))) (sCons (sVar 15) (sNil))))) (sNil)))))) (sOr (sBin dNeB (sCall 22 [] (sCons (sVar 9) (sCons (sVar 15) (sNil)))) (sTup (sCons (sC (.str [102, 117, 110])) (sCons (sBin (dIx tb) (sVar 9) (sC (.int 0))) (sCons (sTup (sCons (sC (.str [102, 117, 110])) (sCons (sBin (dIx tb) (sVar 9) (sC (.int 1))) (sCons (sVar 15) (sNil))))) (sNil)))))) (sBin dNeB (sCall 23 [] (sCons (sCall 21 [] (sCons (sVar 14) (sCons (sVar 15) (sNil)))) (sNil))) (sTup (sCons (sVar 14) (sCons (sVar 15) (sNil))))))) A B κ [x0, x1, x2, x3, x4, x5, x6, x7, x8, some (.tup [enc a, enc b]), x10, x11, x12, x13, some (.tup [enc v, enc a, enc b]), some (.tup [.str [115, 111, 114, 116], .int 0]), x16, x17, x18, x19, x20, x21, x22] M = B κ [x0, x1, x2, x3, x4, x5, x6, x7, x8, some (.tup [enc a, enc b]), x10, x11, x12, x13, some (.tup [enc v, enc a, enc b]), some (.tup [.str [115, 111, 114, 116], .int 0]), x16, x17, x18, x19, x20, x21, x22] M := by
  have e1 : enc (.so 0) = .tup [.str [115, 111, 114, 116], .int 0] := by simp [enc]
  have h1 : ∀ M, callN pg (w + 5) (m + 200) 21 [.tup [enc a, enc b], .tup [.str [115, 111, 114, 116], .int 0]] M = .ok (enc (.b .pi a (.b .pi b (.so 0)))) M := fun M => by rw [← e1]; exact c21_2 (m + 199) M _ a b
  have h2 : ∀ M, callN pg (w + 5) (m + 200) 22 [.tup [enc a, enc b], .tup [.str [115, 111, 114, 116], .int 0]] M = .ok (enc (.b .fn a (.b .fn b (.so 0)))) M := fun M => by rw [← e1]; exact c22_2 (m + 199) M _ a b
  have h3 : ∀ M, callN pg (w + 5) (m + 200) 21 [.tup [enc v, enc a, enc b], .tup [.str [115, 111, 114, 116], .int 0]] M = .ok (enc (.b .pi v (.b .pi a (.b .pi b (.so 0))))) M := fun M => by rw [← e1]; exact c21_3 (m + 199) M _ v a b
  have h4 : ∀ M, callN pg (w + 5) (m + 200) 23 [enc (.b .pi v (.b .pi a (.b .pi b (.so 0))))] M = .ok (.tup [.tup [enc v, enc a, enc b], .tup [.str [115, 111, 114, 116], .int 0]]) M := fun M => by rw [← e1]; exact c23_3 (w := w) (m + 199) M 0 v a b rfl
  have h5 : ∀ M, dNeB (enc (.b .pi a (.b .pi b (.so 0)))) (.tup [.str [112, 105], enc a, .tup [.str [112, 105], enc b, .tup [.str [115, 111, 114, 116], .int 0]]]) M = .ok (.bl false) M := fun M => by
    have := ne_enc (t := .b .pi a (.b .pi b (.so 0))) (M := M) (by simp; omega)
    simpa [enc, bt] using this
  have h6 : ∀ M, dNeB (enc (.b .fn a (.b .fn b (.so 0)))) (.tup [.str [102, 117, 110], enc a, .tup [.str [102, 117, 110], enc b, .tup [.str [115, 111, 114, 116], .int 0]]]) M = .ok (.bl false) M := fun M => by
    have := ne_enc (t := .b .fn a (.b .fn b (.so 0))) (M := M) (by simp; omega)
    simpa [enc, bt] using this
  have h7 : ∀ M, dNeB (.tup [.tup [enc v, enc a, enc b], .tup [.str [115, 111, 114, 116], .int 0]]) (.tup [.tup [enc v, enc a, enc b], .tup [.str [115, 111, 114, 116], .int 0]]) M = .ok (.bl false) M := fun M => ne_pair2 (l := [v, a, b]) rfl (by simp [D.dep, D.depL]) (by simp; omega)
  simp [hκ, h1, h2, h3, h4, h5, h6, h7]
theorem L13 {k : Nat} (hκ : κ = ⟨callN pg wf (m + 200), wf, m + 200⟩) (hw : wf = w + 100) (hk : k ≤ 60) (M : Mem) : pIf (sOr (sBin dNeB (sCall 28 [] (sCons (sVar 16) (sNil))) (sCall 42 [] (sCons (sVar 16) (sNil)))) (sOr (sUn dNot (sCall 34 [] (sCons (sCall 29 [] (sCons (sCall 28 [] (sCons (sVar 16) (sNil))) (sNil))) (sCons (sVar 16) (sNil))))) (sBin dNotN (sCall 29 [] (sCons (sTup (sCons (sC (.str [97, 112, 112])) (sCons (sTup (sCons (sC (.str [110, 97, 109, 101])) (sCons (sC (.str [115, 117, 99, 99])) (sNil)))) (sCons (sTup (sCons (sC (.str [110, 97, 109, 101])) (sCons (sC (.str [102])) (sNil)))) (sNil))))) (sNil))) (sC .non)))) A B κ [x0, x1, x2, x3, x4, x5, x6, x7, x8, x9, x10, x11, x12, x13, x14, x15, some (.int k), x17, x18, x19, x20, x21, x22] M = B κ [x0, x1, x2, x3, x4, x5, x6, x7, x8, x9, x10, x11, x12, x13, x14, x15, some (.int k), x17, x18, x19, x20, x21, x22] M := by
  have h1 : ∀ M, callN pg wf (m + 200) 28 [.int k] M = .ok (enc (num k)) M := fun M => c28 (m + 197) M k hk
  have h2 : ∀ M, callN pg wf (m + 200) 42 [.int k] M = .ok (enc (num k)) M := fun M => c42 (m + 199) M k hk
  have h3 : ∀ M, callN pg wf (m + 200) 29 [enc (num k)] M = .ok (.int k) M := fun M => c29 (m + 199) M k (by omega)
  have h4 := fun M => c29_f (wf := wf) (w := w + 95) (m + 199) M (by omega)
  have h5 : ∀ M, dNeB (enc (num k)) (enc (num k)) M = .ok (.bl false) M := fun M => ne_enc (by have := num_dp k; omega)
  have h7 : ∀ M i, callN pg wf (m + 200) 34 [.int i, .int i] M = .ok (.bl true) M := fun M i => c34 (m + 199) _ M (.int i) (by simp [D.dep])
  simp [hκ, h1, h2, h3, h4, h5, h7]
end PK.proofkernel_k00_whole_terms_places_and_p
end

section
set_option Elab.async false
set_option linter.all false
set_option maxHeartbeats 4000000
set_option maxRecDepth 100000
namespace PK.proofkernel_k00_whole_terms_places_and_p
open PK
variable {wf m : Nat} {κ : Ctx} {t v a b : Tm} {s0 : MO} {A B : SS} {x0 x1 x2 x3 x4 x5 x6 x7 x8 x9 x10 x11 x12 x13 x14 x15 x16 x17 x18 x19 x20 x21 x22 : Option D}
theorem ones_s (j : Nat) : D.tup [.str [111, 110, 101], enc (ones j)] = enc (ones (j + 1)) := by simp [ones, enc, ut]
abbrev fb50 : SS := (pSeq (pSet 17 (sTup (sCons (sC (.str [111, 110, 101])) (sCons (sVar 17) (sNil))))) (pNil))
theorem fdeep {M : Mem} : ∀ (k : Nat) (a c : Int) (j : Nat) (x18 : Option D), ∃ y, forGo κ (.name 18) fb50 (rangeD a c k) [x0, x1, x2, x3, x4, x5, x6, x7, x8, x9, x10, x11, x12, x13, x14, x15, x16, some (enc (ones j)), x18, x19, x20, x21, x22] M = .nx [x0, x1, x2, x3, x4, x5, x6, x7, x8, x9, x10, x11, x12, x13, x14, x15, x16, some (enc (ones (j + k))), y, x19, x20, x21, x22] M
  | 0, a, c, j, x18 => ⟨x18, by simp⟩
  | k + 1, a, c, j, x18 => by
    obtain ⟨y, hy⟩ := fdeep k (a + c) c (j + 1) (some (.int a))
    refine ⟨y, ?_⟩
    have e : j + (k + 1) = j + 1 + k := by omega
    rw [e, ← hy, range_s]
    simp [for_cons, gcM_lt]
    rw [ones_s]
/-! values that are no terms -/
@[simp] theorem kg_fr : kget tb 0 [102, 114, 101, 101] = some (some (.tup [])) := by rfl
@[simp] theorem kg_ho : kget tb 0 [104, 111, 108, 101] = some (some (.tup [])) := by rfl
@[simp] theorem kg_no : kget tb 0 [110, 111, 116, 104, 105, 110, 103] = some none := by rfl
@[simp] theorem kg_ap : kget tb 0 [97, 112, 112] = some (some (.tup [.tup [.int 1, .int 0], .tup [.int 2, .int 0]])) := by rfl
@[simp] theorem kg_pi : kget tb 0 [112, 105] = some (some (.tup [.tup [.int 1, .int 0], .tup [.int 2, .int 1]])) := by rfl
@[simp] theorem c0_bl (n : Nat) (M : Mem) (x : Bool) : callN pg wf (n + 1) 0 [.bl x] M = .ok (.bl false) M := by
  rw [callS (d := d0) rfl]; simp [d0, gcM_lt]
@[simp] theorem c0_non (n : Nat) (M : Mem) : callN pg wf (n + 1) 0 [.non] M = .ok (.bl false) M := by
  rw [callS (d := d0) rfl]; simp [d0, gcM_lt]
theorem n11_ns (n : Nat) (M : Mem) (x : D) (h : dIsi .tuple x M = .ok (.bl false) M) : callN pg wf (n + 1) 11 [x] M = .ok (.bl false) M := by
  rw [callS (d := d11) rfl]; simp [d11, gcM_lt, h, -dIsi_loc]
theorem n11_0 (n : Nat) (M : Mem) : callN pg wf (n + 1) 11 [.tup []] M = .ok (.bl false) M := by
  rw [callS (d := d11) rfl]; simp [d11, gcM_lt]
theorem n11_at1 (n : Nat) (M : Mem) : callN pg wf (n + 1) 11 [.tup [.str [97, 116]]] M = .ok (.bl false) M := by
  rw [callS (d := d11) rfl]; simp [d11, gcM_lt, D.flatL, D.flat, D.depL, D.dep]
theorem n11_atm (n : Nat) (M : Mem) : callN pg wf (n + 2) 11 [.tup [.str [97, 116], .int (-1)]] M = .ok (.bl false) M := by
  rw [callS (d := d11) rfl]; simp [d11, gcM_lt, D.flatL, D.flat, D.depL, D.dep]
theorem n11_att (n : Nat) (M : Mem) : callN pg wf (n + 2) 11 [.tup [.str [97, 116], .bl true]] M = .ok (.bl false) M := by
  rw [callS (d := d11) rfl]; simp [d11, gcM_lt, D.flatL, D.flat, D.depL, D.dep]
theorem n11_at2 (n : Nat) (M : Mem) : callN pg wf (n + 2) 11 [.tup [.str [97, 116], .int 1001]] M = .ok (.bl false) M := by
  rw [callS (d := d11) rfl]; simp [d11, gcM_lt, D.flatL, D.flat, D.depL, D.dep]
theorem n11_so6 (n : Nat) (M : Mem) : callN pg wf (n + 2) 11 [.tup [.str [115, 111, 114, 116], .int 6]] M = .ok (.bl false) M := by
  rw [callS (d := d11) rfl]; simp [d11, gcM_lt, D.flatL, D.flat, D.depL, D.dep]
theorem n11_son (n : Nat) (M : Mem) : callN pg wf (n + 2) 11 [.tup [.str [115, 111, 114, 116], .non]] M = .ok (.bl false) M := by
  rw [callS (d := d11) rfl]; simp [d11, gcM_lt, D.flatL, D.flat, D.depL, D.dep]
theorem n11_by (n : Nat) (M : Mem) : callN pg wf (n + 3) 11 [.tup [.str [110, 97, 109, 101], .str [98, 121]]] M = .ok (.bl false) M := by
  rw [callS (d := d11) rfl]; simp [d11, gcM_lt, D.flatL, D.flat, D.depL, D.dep, c6]
theorem n11_nm5 (n : Nat) (M : Mem) : callN pg wf (n + 3) 11 [.tup [.str [110, 97, 109, 101], .int 5]] M = .ok (.bl false) M := by
  rw [callS (d := d11) rfl]; simp [d11, gcM_lt, D.flatL, D.flat, D.depL, D.dep, c6_ns]
theorem n11_ap1 (n : Nat) (M : Mem) (x : D) : callN pg wf (n + 1) 11 [.tup [.str [97, 112, 112], x]] M = .ok (.bl false) M := by
  rw [callS (d := d11) rfl]; simp [d11, gcM_lt, D.flatL, D.flat, D.depL, D.dep]
theorem n11_ap3 (n : Nat) (M : Mem) (x y z : D) : callN pg wf (n + 1) 11 [.tup [.str [97, 112, 112], x, y, z]] M = .ok (.bl false) M := by
  rw [callS (d := d11) rfl]; simp [d11, gcM_lt, D.flatL, D.flat, D.depL, D.dep]
theorem n11_fr (n : Nat) (M : Mem) : callN pg wf (n + 1) 11 [.tup [.str [102, 114, 101, 101], .int 0]] M = .ok (.bl false) M := by
  rw [callS (d := d11) rfl]; simp [d11, gcM_lt, D.flatL, D.flat, D.depL, D.dep]
theorem n11_ho (n : Nat) (M : Mem) : callN pg wf (n + 1) 11 [.tup [.str [104, 111, 108, 101], .int 0]] M = .ok (.bl false) M := by
  rw [callS (d := d11) rfl]; simp [d11, gcM_lt, D.flatL, D.flat, D.depL, D.dep]
theorem n11_no (n : Nat) (M : Mem) : callN pg wf (n + 1) 11 [.tup [.str [110, 111, 116, 104, 105, 110, 103], .int 1]] M = .ok (.bl false) M := by
  rw [callS (d := d11) rfl]; simp [d11, gcM_lt, D.flatL, D.flat, D.depL, D.dep]
theorem n11_pi (n : Nat) (M : Mem) (x y : D) : callN pg wf (n + 1) 11 [.tup [.str [112, 105], x, y]] M = .ok (.bl true) M := by
  rw [callS (d := d11) rfl]; simp [d11, gcM_lt, D.flatL, D.flat, D.depL, D.dep]
theorem n7_pi (n : Nat) (M : Mem) (t : Tm) : callN pg wf (n + 1) 7 [.tup [.str [112, 105], enc t, .non]] M = .ok (.tup [enc t, .non]) M := by
  rw [callS (d := d7) rfl]; simp [d7, gcM_lt]
theorem n10_pi (n : Nat) (M : Mem) (t : Tm) (hw : wf = w + 5) : callN pg wf (n + 2) 10 [.tup [.str [112, 105], enc t, .non]] M = .ok (.bl false) M := by
  rw [callS (d := d10) rfl]; subst hw
  simp [d10, gcM_lt, gcM_tupF, while_s, n11_pi, n7_pi, n11_ns]
abbrev mem5 (s0 : MO) (t : Tm) : Mem := mem3 s0 t ++ [.lst [.str [97, 116], .int 0], .lst [.tup [.str [110, 97, 109, 101], .str [98, 121]], .tup [.str [110, 97, 109, 101], .int 5], .tup [.str [97, 112, 112], enc t], .tup [.str [97, 112, 112], enc t, enc t, enc t], .tup [.str [112, 105], enc t, .non], .tup [.str [102, 114, 101, 101], .int 0], .tup [.str [104, 111, 108, 101], .int 0], .loc 4, .tup [.str [110, 111, 116, 104, 105, 110, 103], .int 1]]]
abbrev fb51 : SS := (pSeq (pIf (sUn dNot (sCall 32 [] (sCons (sCall 10 [] (sCons (sVar 20) (sNil))) (sCons (sC (.bl false)) (sNil))))) (pSeq (pRet (sC (.bl false))) (pNil)) (pNil)) (pNil))
theorem f51 (hκ : κ = ⟨callN pg wf (m + 200), wf, m + 200⟩) {M : Mem} : ∀ (xs : List D) (x20 : Option D), (∀ x ∈ xs, callN pg wf (m + 200) 10 [x] M = .ok (.bl false) M) → ∃ y, forGo κ (.name 20) fb51 xs [x0, x1, x2, x3, x4, x5, x6, x7, x8, x9, x10, x11, x12, x13, x14, x15, x16, x17, x18, x19, x20, x21, x22] M = .nx [x0, x1, x2, x3, x4, x5, x6, x7, x8, x9, x10, x11, x12, x13, x14, x15, x16, x17, x18, x19, y, x21, x22] M
  | [], x20, _ => ⟨x20, by simp⟩
  | x :: xs, x20, h => by
    obtain ⟨y, hy⟩ := f51 hκ xs (some x) (fun z hz => h z (by simp [hz]))
    refine ⟨y, ?_⟩
    rw [← hy]
    have hx := h x (by simp)
    simp [for_cons, hκ, gcM_lt, hx]
def bads (t : Tm) : List D := [.non, .int 5, .tup [], .tup [.str [97, 116]], .tup [.str [97, 116], .int (-1)], .tup [.str [97, 116], .bl true], .tup [.str [97, 116], .int 1001], .tup [.str [115, 111, 114, 116], .int 6], .tup [.str [115, 111, 114, 116], .non], enc (ones 101), .str [97, 116], .tup [.str [110, 97, 109, 101], .str [98, 121]], .tup [.str [110, 97, 109, 101], .int 5], .tup [.str [97, 112, 112], enc t], .tup [.str [97, 112, 112], enc t, enc t, enc t], .tup [.str [112, 105], enc t, .non], .tup [.str [102, 114, 101, 101], .int 0], .tup [.str [104, 111, 108, 101], .int 0], .loc 4, .tup [.str [110, 111, 116, 104, 105, 110, 103], .int 1]]
theorem bads_no (hw : wf = w + 200) : ∀ x ∈ bads t, callN pg wf (m + 200) 10 [x] (mem5 s0 t) = .ok (.bl false) (mem5 s0 t) := by
  have hw5 : wf = (w + 195) + 5 := by omega
  have B := fun (x : D) (hx : x.lt (mem5 s0 t).length = true) h => c10_bad (wf := wf) (w := w + 195) x (m + 198) (mem5 s0 t) hx hw5 h
  intro x hx
  simp only [bads, List.mem_cons, List.not_mem_nil, or_false] at hx
  rcases hx with rfl | rfl | rfl | rfl | rfl | rfl | rfl | rfl | rfl | rfl | rfl | rfl | rfl | rfl | rfl | rfl | rfl | rfl | rfl | rfl
  · exact B _ (by simp) fun M' => n11_ns _ _ _ (by simp)
  · exact B _ (by simp) fun M' => n11_ns _ _ _ (by simp)
  · exact B _ (by simp) fun M' => n11_0 _ _
  · exact B _ (by simp) fun M' => n11_at1 _ _
  · exact B _ (by simp) fun M' => n11_atm _ _
  · exact B _ (by simp) fun M' => n11_att _ _
  · exact B _ (by simp) fun M' => n11_at2 _ _
  · exact B _ (by simp) fun M' => n11_so6 _ _
  · exact B _ (by simp) fun M' => n11_son _ _
  · exact c10_deep (m + 196) _ (by omega)
  · exact B _ (by simp) fun M' => n11_ns _ _ _ (by simp)
  · exact B _ (by simp) fun M' => n11_by _ _
  · exact B _ (by simp) fun M' => n11_nm5 _ _
  · exact B _ (by simp) fun M' => n11_ap1 _ _ _
  · exact B _ (by simp) fun M' => n11_ap3 _ _ _ _ _
  · exact n10_pi (m + 198) _ t hw5
  · exact B _ (by simp) fun M' => n11_fr _ _
  · exact B _ (by simp) fun M' => n11_ho _ _
  · exact B _ (by simp [mem5, mem3]) fun M' => n11_ns _ _ _ (by simp [mem5, mem3])
  · exact B _ (by simp) fun M' => n11_no _ _
/-! values that are no paths -/
theorem n2_ns (n : Nat) (M : Mem) (x : D) (h : dIsi .tuple x M = .ok (.bl false) M) : callN pg wf (n + 1) 2 [x] M = .ok (.bl false) M := by
  rw [callS (d := d2) rfl]; simp [d2, gcM_lt, h, -dIsi_loc]
theorem n2_m (n : Nat) (M : Mem) : callN pg wf (n + 2) 2 [.tup [.int (-1)]] M = .ok (.bl false) M := by
  rw [callS (d := d2) rfl]; simp [d2, gcM_lt]
theorem n2_t (n : Nat) (M : Mem) : callN pg wf (n + 2) 2 [.tup [.bl true]] M = .ok (.bl false) M := by
  rw [callS (d := d2) rfl]; simp [d2, gcM_lt]
theorem n2_long (n : Nat) (M : Mem) (p : List Int) (h : 200 < p.length) : callN pg wf (n + 1) 2 [encp p] M = .ok (.bl false) M := by
  have h2 : ¬ (p.length : Int) ≤ 200 := by omega
  rw [callS (d := d2) rfl]; simp [d2, gcM_lt, h2]
theorem n3 (n : Nat) (M : Mem) (x : D) (h : callN pg wf n 2 [x] M = .ok (.bl false) M) : callN pg wf (n + 1) 3 [x] M = .exc ⟨1, []⟩ M := by
  rw [callS (d := d3) rfl]; simp [d3, gcM_lt, h]
theorem n25 (n : Nat) (M : Mem) (x y : D) (h : callN pg wf n 2 [x] M = .ok (.bl false) M) : callN pg wf (n + 2) 25 [y, x] M = .exc ⟨1, []⟩ M := by
  have := n3 n M x h
  rw [callS (d := d25) rfl]; simp [d25, gcM_lt, this]
theorem n26 (n : Nat) (M : Mem) (x y : D) (h : callN pg wf n 2 [x] M = .ok (.bl false) M) : callN pg wf (n + 2) 26 [y, x] M = .exc ⟨1, []⟩ M := by
  have := n3 n M x h
  rw [callS (d := d26) rfl]; simp [d26, gcM_lt, this]
/-- what is asked of a value and what is due -/
def ok52 (wf m : Nat) (M : Mem) (y : D × Bool) : Prop := y.1.lt M.length = true ∧ (y.2 = true → callN pg wf (m + 200) 2 [y.1] M = .ok (.bl true) M) ∧ (y.2 = false → ∀ n M', callN pg wf (n + 2) 2 [y.1] (M ++ M') = .ok (.bl false) (M ++ M'))
abbrev fb52 : SS := (pSeq (pIf (sOr (sUn dNot (sCall 32 [] (sCons (sCall 2 [] (sCons (sVar 20) (sNil))) (sCons (sVar 21) (sNil))))) (sAnd (sUn dNot (sVar 21)) (sUn dNot (sCall 36 [] (sCons (sLst (sCons (sTup (sCons (sC (.fn 25)) (sCons (sTup (sCons (sVar 2) (sCons (sVar 20) (sNil)))) (sNil)))) (sCons (sTup (sCons (sC (.fn 26)) (sCons (sTup (sCons (sVar 2) (sCons (sVar 20) (sNil)))) (sNil)))) (sNil)))) (sNil)))))) (pSeq (pRet (sC (.bl false))) (pNil)) (pNil)) (pNil))
theorem f52 (hκ : κ = ⟨callN pg wf (m + 200), wf, m + 200⟩) {M : Mem} : ∀ (l : List (D × Bool)) (x20 x21 : Option D), (∀ y ∈ l, ok52 wf m M y) → ∃ y z, forGo κ (.tup [20, 21]) fb52 (l.map fun y => .tup [y.1, .bl y.2]) [x0, x1, some (enc t), x3, x4, x5, x6, x7, x8, x9, x10, x11, x12, x13, x14, x15, x16, x17, x18, x19, x20, x21, x22] M = .nx [x0, x1, some (enc t), x3, x4, x5, x6, x7, x8, x9, x10, x11, x12, x13, x14, x15, x16, x17, x18, x19, y, z, x22] M
  | [], x20, x21, _ => ⟨x20, x21, by simp⟩
  | (x, g) :: l, x20, x21, h => by
    obtain ⟨y, z, hy⟩ := f52 hκ l (some x) (some (.bl g)) (fun z hz => h z (by simp [hz]))
    refine ⟨y, z, ?_⟩
    rw [← hy]
    obtain ⟨hlt, h1, h2⟩ := h (x, g) (by simp)
    cases g with
    | true =>
      have h1 := h1 rfl
      simp only at h1
      simp [for_cons, hκ, gcM_lt, h1]
    | false =>
      have h2 := h2 rfl
      simp only at h2 hlt
      have e1 : callN pg wf (m + 200) 2 [x] M = .ok (.bl false) M := by simpa using h2 (m + 198) []
      have hup := lt_up (j := M.length + 1) (by omega) x hlt
      have e2 : callN pg wf (m + 200) 36 [.loc M.length] (M ++ [.lst [.tup [.fn 25, .tup [enc t, x]], .tup [.fn 26, .tup [enc t, x]]]]) = .ok (.bl true) (M ++ [.lst [.tup [.fn 25, .tup [enc t, x]], .tup [.fn 26, .tup [enc t, x]]]]) := by
        apply c36 (m + 199) _ _ [.tup [.fn 25, .tup [enc t, x]], .tup [.fn 26, .tup [enc t, x]]] (by simp) (by simp [hup]) (by simp)
        intro y hy
        simp at hy
        rcases hy with rfl | rfl
        · exact ⟨_, _, rfl, by simp; exact m35_2 (n25 (m + 196) _ _ _ (h2 (m + 194) _))⟩
        · exact ⟨_, _, rfl, by simp; exact m35_2 (n26 (m + 196) _ _ _ (h2 (m + 194) _))⟩
      simp [for_cons, hκ, gcM_lt, e1, e2]
/-! the last line -/
theorem n1_bad (n : Nat) (M : Mem) (x : D) (h : x = .int (-1) ∨ x = .int 61 ∨ x = .bl true ∨ x = .non) : callN pg wf (n + 2) 1 [x, .int 0, .int 60] M = .exc ⟨1, []⟩ M := by
  rw [callS (d := d1) rfl]
  rcases h with rfl | rfl | rfl | rfl <;> simp [d1, gcM_lt]
theorem n28_bad (n : Nat) (M : Mem) (x : D) (h : x = .int (-1) ∨ x = .int 61 ∨ x = .bl true ∨ x = .non) : callN pg wf (n + 3) 28 [x] M = .exc ⟨1, []⟩ M := by
  have := n1_bad (wf := wf) n M x h
  rw [callS (d := d28) rfl]; simp [d28, gcM_lt, this]
theorem L16 (hκ : κ = ⟨callN pg wf (m + 200), wf, m + 200⟩) (M : Mem) : pIf (sOr (sUn dNot (sCall 32 [] (sCons (sCall 0 [] (sCons (sC (.int 5)) (sNil))) (sCons (sC (.bl true)) (sNil))))) (sUn dNot (sCall 32 [] (sCons (sCall 0 [] (sCons (sC (.bl true)) (sNil))) (sCons (sC (.bl false)) (sNil)))))) A B κ [x0, x1, x2, x3, x4, x5, x6, x7, x8, x9, x10, x11, x12, x13, x14, x15, x16, x17, x18, x19, x20, x21, x22] M = B κ [x0, x1, x2, x3, x4, x5, x6, x7, x8, x9, x10, x11, x12, x13, x14, x15, x16, x17, x18, x19, x20, x21, x22] M := by
  simp [hκ]
end PK.proofkernel_k00_whole_terms_places_and_p
end

section
set_option Elab.async false
set_option linter.all false
set_option maxHeartbeats 4000000
set_option maxRecDepth 100000
namespace PK.proofkernel_k00_whole_terms_places_and_p
open PK
variable {wf m w : Nat}
theorem k31 (n : Nat) (R : Mem) (mm : Int) (hm : 0 < mm) (hm2 : mm < 1073741824) (a b : Int) (ha : 0 ≤ a) (hb : 0 ≤ b) : ∃ v a' b', callN pg wf (n + 1) 31 [.loc 0, .int mm] (st a b :: R) = .ok (.int v) (st a' b' :: R) ∧ 0 ≤ v ∧ v < mm ∧ 0 ≤ a' ∧ 0 ≤ b' := by
  obtain ⟨v, a', b', h, r⟩ := s31 (wf := wf) n (st a b :: R) 0 (by simp) mm hm hm2 a b ha hb
  exact ⟨v, a', b', by simpa using h, r⟩
theorem k46 (deep n : Nat) (R : Mem) (hn : deep < n) (a b : Int) (ha : 0 ≤ a) (hb : 0 ≤ b) : ∃ t a' b', callN pg wf (n + 1) 46 [.loc 0, .int deep] (st a b :: R) = .ok (enc t) (st a' b' :: R) ∧ 0 ≤ a' ∧ 0 ≤ b' ∧ wt t ∧ dp t ≤ deep ∧ 2 * sz t + 1 ≤ 3 ^ (deep + 1) := by
  obtain ⟨t, a', b', h, r⟩ := s46 (wf := wf) 0 deep n (st a b :: R) (by simp) hn a b ha hb
  exact ⟨t, a', b', by simpa using h, r⟩
@[simp] theorem st_lt {k a b} : (st a b).lt k = true := by simp [st]
variable {κ : Ctx} {x0 x1 x2 x3 x4 x5 x6 x7 x8 x9 x10 x11 x12 x13 x14 x15 x16 x17 x18 x19 x20 x21 x22 : Option D} in
theorem Lret (hκ : κ = ⟨callN pg wf (m + 200), wf, m + 200⟩) (M : Mem) : ∃ M2, (sAnd (sCall 49 [] sNil) (sCall 36 [] (sCons (sComp [20] (.name 20) (iOf (sLst (sCons (sUn dNeg (sC (.int 1))) (sCons (sC (.int 61)) (sCons (sC (.bl true)) (sCons (sC .non) (sNil))))))) none (sTup (sCons (sC (.fn 28)) (sCons (sTup (sCons (sVar 20) (sNil))) (sNil))))) (sNil)))) κ [x0, x1, x2, x3, x4, x5, x6, x7, x8, x9, x10, x11, x12, x13, x14, x15, x16, x17, x18, x19, x20, x21, x22] M = .ok (.bl true) M2 := by
  have h1 : callN pg wf (m + 200) 49 [] M = .ok (.bl true) M := c49 (m + 197) M
  have h2 : callN pg wf (m + 200) 36 [.loc M.length] (M ++ [.lst [.tup [.fn 28, .tup [.int (-1)]], .tup [.fn 28, .tup [.int 61]], .tup [.fn 28, .tup [.bl true]], .tup [.fn 28, .tup [.non]]]]) = .ok (.bl true) (M ++ [.lst [.tup [.fn 28, .tup [.int (-1)]], .tup [.fn 28, .tup [.int 61]], .tup [.fn 28, .tup [.bl true]], .tup [.fn 28, .tup [.non]]]]) := by
    apply c36 (m + 199) _ _ [.tup [.fn 28, .tup [.int (-1)]], .tup [.fn 28, .tup [.int 61]], .tup [.fn 28, .tup [.bl true]], .tup [.fn 28, .tup [.non]]] (by simp) (by simp) (by simp)
    intro y hy
    simp only [List.mem_cons, List.not_mem_nil, or_false] at hy
    rcases hy with rfl | rfl | rfl | rfl
    · exact ⟨_, _, rfl, m35_1 (n28_bad (m + 195) _ _ (by simp))⟩
    · exact ⟨_, _, rfl, m35_1 (n28_bad (m + 195) _ _ (by simp))⟩
    · exact ⟨_, _, rfl, m35_1 (n28_bad (m + 195) _ _ (by simp))⟩
    · exact ⟨_, _, rfl, m35_1 (n28_bad (m + 195) _ _ (by simp))⟩
  refine ⟨M ++ [.lst [.tup [.fn 28, .tup [.int (-1)]], .tup [.fn 28, .tup [.int 61]], .tup [.fn 28, .tup [.bl true]], .tup [.fn 28, .tup [.non]]]], ?_⟩
  simp [hκ, h1, gcM_lt, h2]
def l52 : List (D × Bool) := [(.tup [], true), (encp [0, 5], true), (.tup [.int (-1)], false), (.tup [.bl true], false), (.loc 6, false), (.non, false), (encp (List.replicate 201 0), false), (encp (List.replicate 200 0), true)]
theorem ok_l52 (M M2 : Mem) (h6 : M.length = 6) : ∀ y ∈ l52, ok52 wf m (M ++ .lst [.int 0] :: M2) y := by
  intro y hy
  simp only [l52, List.mem_cons, List.not_mem_nil, or_false] at hy
  rcases hy with rfl | rfl | rfl | rfl | rfl | rfl | rfl | rfl
  · refine ⟨by simp, fun _ => ?_, fun h => by simp at h⟩
    exact c2 (m + 198) _ [] (by simp) (by simp)
  · refine ⟨by simp, fun _ => ?_, fun h => by simp at h⟩
    exact c2 (m + 198) _ [0, 5] (by simp) (by simp)
  · refine ⟨by simp, fun h => by simp at h, fun _ n M' => n2_m n _⟩
  · refine ⟨by simp, fun h => by simp at h, fun _ n M' => n2_t n _⟩
  · refine ⟨by simp [h6], fun h => by simp at h, fun _ n M' => n2_ns (n + 1) _ _ ?_⟩
    have : (M ++ .lst [.int 0] :: M2 ++ M')[6]? = some (.lst [.int 0]) := by
      rw [List.append_assoc, List.getElem?_append_right (by omega), h6]; rfl
    rw [dIsi_loc, isiB_loc, this]
  · refine ⟨by simp, fun h => by simp at h, fun _ n M' => n2_ns (n + 1) _ _ (by simp)⟩
  · refine ⟨encp_lt, fun h => by simp at h, fun _ n M' => n2_long (n + 1) _ _ (by rw [List.length_replicate]; omega)⟩
  · refine ⟨encp_lt, fun _ => ?_, fun h => by simp at h⟩
    exact c2 (m + 198) _ _ (fun k hk => by rw [List.mem_replicate] at hk; omega) (by rw [List.length_replicate]; omega)
theorem law_all (hwf : wf = w + 200) (ns : List Int) : runDef d50 ⟨callN pg wf (m + 200), wf, m + 200⟩ [.kst ns] [] = .ok (.bl true) [] := by
  subst hwf
  obtain ⟨a0, b0, e0, ha0, hb0⟩ := c30 (wf := w + 200) (m + 199) [] ns
  obtain ⟨t, a1, b1, e1, ha1, hb1, wt1, dt, zt⟩ := k46 (wf := w + 200) 3 (m + 199) [] (by omega) a0 b0 ha0 hb0
  obtain ⟨v, a2, b2, e2, ha2, hb2, wt2, dv, zv⟩ := k46 (wf := w + 200) 2 (m + 199) [] (by omega) a1 b1 ha1 hb1
  have hs : sz t < 64 := by simp at zt; omega
  have e3 := c44 (wf := w + 200) t (m + 199) [st a2 b2] (by omega) (by omega)
  have e4 := c24 (wf := w + 200) t (m + 198) [st a2 b2, .lst ((paths t).map encp)] (by omega) (by omega)
  have n1 : m + 199 + 1 = m + 200 := by omega
  have n2 : m + 198 + 2 = m + 200 := by omega
  simp [n1, n2] at e0 e1 e2 e3 e4
  simp [d50, -pSeq_eq]
  rw [pSeq_eq]; simp [-pSeq_eq, -pIf_eq, e0, gcM_locE]
  rw [pSeq_eq]; simp [-pSeq_eq, -pIf_eq, gcM_lt, e1, e2]
  rw [pSeq_eq]; simp [-pSeq_eq, -pIf_eq, gcM_locE, e3]
  rw [pSeq_eq]; simp [-pSeq_eq, -pIf_eq, gcM_locE, e4]
  rw [pSeq_eq, L0 rfl dt hs, pNil_eq, sb_nx]
  rw [pSeq_eq, L1 rfl dt hs wt1 (by omega), pNil_eq, sb_nx]
  obtain ⟨kk, a3, b3, f1, p1, q1, ha3, hb3⟩ := k31 (wf := w + 200) (m + 199) [.lst ((paths t).map encp), .lst ((paths t).map encp)] 4 (by omega) (by omega) a2 b2 ha2 hb2
  obtain ⟨by_, a4, b4, f2, p2, q2, ha4, hb4⟩ := k31 (wf := w + 200) (m + 199) [.lst ((paths t).map encp), .lst ((paths t).map encp)] 5 (by omega) (by omega) a3 b3 ha3 hb3
  obtain ⟨low, a5, b5, f3, p3, q3, ha5, hb5⟩ := k31 (wf := w + 200) (m + 199) [.lst ((paths t).map encp), .lst ((paths t).map encp)] 4 (by omega) (by omega) a4 b4 ha4 hb4
  rw [pSeq_eq]; simp [-pSeq_eq, -pIf_eq, gcM_lt, f1, f2, f3]
  rw [pSeq_eq, L2 rfl dt, pNil_eq, sb_nx]
  rw [pSeq_eq, L3 rfl dt dv, pNil_eq, sb_nx]
  rw [pSeq_eq, L4 rfl dt dv, pNil_eq, sb_nx]
  obtain ⟨x, a6, b6, g1, ha6, hb6, wx, dx, zx⟩ := k46 (wf := w + 200) 1 (m + 199) [.lst ((paths t).map encp), .lst ((paths t).map encp)] (by omega) a5 b5 ha5 hb5
  obtain ⟨y, a7, b7, g2, ha7, hb7, wy, dy, zy⟩ := k46 (wf := w + 200) 1 (m + 199) [.lst ((paths t).map encp), .lst ((paths t).map encp)] (by omega) a6 b6 ha6 hb6
  simp [n1] at g1 g2
  rw [pSeq_eq]; simp [-pSeq_eq, -pIf_eq, gcM_lt, g1, g2]
  rw [pSeq_eq, L5 rfl dt dx dy, pNil_eq, sb_nx]
  have e5 := c47 (wf := w + 200) t (m + 199) 0 [st a7 b7, .lst ((paths t).map encp), .lst ((paths t).map encp)] (by omega) (by omega)
  simp [n1] at e5
  rw [pSeq_eq]; simp [-pSeq_eq, -pIf_eq, gcM_locE, e5, ints_lt]
  rw [pSeq_eq, L6 rfl dt hs wt1 (by omega), pNil_eq, sb_nx]
  rw [pSeq_eq, L7 rfl dt hs wt1 (by omega), pNil_eq, sb_nx]
  have hl := paths_len t
  have hsp := sz_pos t
  obtain ⟨j, a8, b8, h1, p8, q8, ha8, hb8⟩ := k31 (wf := w + 200) (m + 199) [.lst ((paths t).map encp), .lst ((paths t).map encp), .lst ((fr t 0).map .int)] (sz t) (by omega) (by omega) a7 b7 ha7 hb7
  obtain ⟨i, rfl⟩ : ∃ i : Nat, j = i := ⟨j.toNat, by omega⟩
  have hi : i < (paths t).length := by omega
  obtain ⟨p, hp⟩ : ∃ p, (paths t)[i]? = some p := ⟨_, List.getElem?_eq_getElem hi⟩
  obtain ⟨u, hu⟩ := at_paths t p (List.mem_of_getElem? hp)
  have hpl := at_len hu
  rw [pSeq_eq]; simp [-pSeq_eq, -pIf_eq, gcM_lt, hl, h1, atI_nat, hp]
  rw [pSeq_eq, L8 hu rfl dt dv, pNil_eq, sb_nx]
  have hpl2 : p.length ≤ 16777215 := by omega
  rw [pSeq_eq]; simp [-pSeq_eq, -pIf_eq, gcM_lt, hpl2]
  rw [pSeq_eq, L9 hu rfl dt, pNil_eq, sb_nx]
  rw [pSeq_eq, L10 hu rfl dt, pNil_eq, sb_nx]
  rw [pSeq_eq]; simp [-pSeq_eq, -pIf_eq, gcM_lt]
  rw [pSeq_eq, L11 rfl (by omega) (by omega) (by omega), pNil_eq, sb_nx]
  rw [pSeq_eq]; simp [-pSeq_eq, -pIf_eq, gcM_lt]
  rw [pSeq_eq, L12 rfl (by omega) (by omega) (by omega), pNil_eq, sb_nx]
  obtain ⟨nn, a9, b9, h2, p9, q9, ha9, hb9⟩ := k31 (wf := w + 200) (m + 199) [.lst ((paths t).map encp), .lst ((paths t).map encp), .lst ((fr t 0).map .int)] 61 (by omega) (by omega) a8 b8 ha8 hb8
  obtain ⟨q, rfl⟩ : ∃ q : Nat, nn = q := ⟨nn.toNat, by omega⟩
  rw [pSeq_eq]; simp [-pSeq_eq, -pIf_eq, gcM_lt, h2]
  rw [pSeq_eq, L13 (w := w + 100) rfl (by omega) (by omega), pNil_eq, sb_nx]
  rw [pSeq_eq]; simp [-pSeq_eq, -pIf_eq, -pFor_eq, gcM_lt]
  rw [show D.tup [.str [97, 116], .int 0] = enc (ones 0) from by simp [enc, ones]]
  obtain ⟨y18, hy⟩ := fdeep (κ := ⟨callN pg (w + 200) (m + 200), w + 200, m + 200⟩) (M := [st a9 b9, .lst ((paths t).map encp), .lst ((paths t).map encp), .lst ((fr t 0).map .int)]) (x0 := some (.kst ns)) (x1 := some (.loc 0)) (x2 := some (enc t)) (x3 := some (enc v)) (x4 := some (.loc 1)) (x5 := some (.loc 2)) (x6 := some (.int kk)) (x7 := some (.int by_)) (x8 := some (.int low)) (x9 := some (.tup [enc x, enc y])) (x10 := some (.loc 3)) (x11 := some (encp p)) (x12 := some (encp (p ++ [3]))) (x13 := some (.tup [.str [110, 97, 109, 101], .str [102]])) (x14 := some (.tup [enc v, enc x, enc y])) (x15 := some (.tup [.str [115, 111, 114, 116], .int 0])) (x16 := some (.int q)) (x19 := none) (x20 := none) (x21 := none) (x22 := none) 101 0 1 0 none
  simp at hy
  rw [pSeq_eq]; simp [-pSeq_eq, -pIf_eq, hy]
  rw [pSeq_eq]; simp [-pSeq_eq, -pIf_eq, -pFor_eq, gcM_lt, gcM_locE]
  obtain ⟨y20, hz⟩ := f51 (wf := w + 200) (m := m) (κ := ⟨callN pg (w + 200) (m + 200), w + 200, m + 200⟩) rfl (M := mem5 (st a9 b9) t) (x0 := some (.kst ns)) (x1 := some (.loc 0)) (x2 := some (enc t)) (x3 := some (enc v)) (x4 := some (.loc 1)) (x5 := some (.loc 2)) (x6 := some (.int kk)) (x7 := some (.int by_)) (x8 := some (.int low)) (x9 := some (.tup [enc x, enc y])) (x10 := some (.loc 3)) (x11 := some (encp p)) (x12 := some (encp (p ++ [3]))) (x13 := some (.tup [.str [110, 97, 109, 101], .str [102]])) (x14 := some (.tup [enc v, enc x, enc y])) (x15 := some (.tup [.str [115, 111, 114, 116], .int 0])) (x16 := some (.int q)) (x17 := some (enc (ones 101))) (x18 := y18) (x19 := some (.loc 5)) (x21 := none) (x22 := none) (bads t) none (bads_no (w := w) rfl)
  simp [bads] at hz
  rw [pSeq_eq]; simp [-pSeq_eq, -pIf_eq, ofF_loc, hz]
  have ho := ok_l52 (wf := w + 200) (m := m) (mem5 (st a9 b9) t) [.lck (l52.map fun y => .tup [y.1, .bl y.2])] rfl
  obtain ⟨y20b, y21, hu2⟩ := f52 (wf := w + 200) (m := m) (t := t) (κ := ⟨callN pg (w + 200) (m + 200), w + 200, m + 200⟩) rfl (x0 := some (.kst ns)) (x1 := some (.loc 0)) (x3 := some (enc v)) (x4 := some (.loc 1)) (x5 := some (.loc 2)) (x6 := some (.int kk)) (x7 := some (.int by_)) (x8 := some (.int low)) (x9 := some (.tup [enc x, enc y])) (x10 := some (.loc 3)) (x11 := some (encp p)) (x12 := some (encp (p ++ [3]))) (x13 := some (.tup [.str [110, 97, 109, 101], .str [102]])) (x14 := some (.tup [enc v, enc x, enc y])) (x15 := some (.tup [.str [115, 111, 114, 116], .int 0])) (x16 := some (.int q)) (x17 := some (enc (ones 101))) (x18 := y18) (x19 := some (.loc 5)) (x22 := none) l52 y20 none ho
  simp [l52, -List.reduceReplicate, show encp [0, 5] = D.tup [.int 0, .int 5] from rfl, show ∀ n : Nat, encp (List.replicate n 0) = D.tup (List.replicate n (.int 0)) from fun n => by simp [encp, -List.reduceReplicate]] at hu2
  rw [pSeq_eq]; simp [-pSeq_eq, -pIf_eq, -List.reduceReplicate, ofF_loc, hu2]
  rw [pSeq_eq, L16 rfl, pNil_eq, sb_nx]
  obtain ⟨M2, hr⟩ := Lret (wf := w + 200) (m := m) (κ := ⟨callN pg (w + 200) (m + 200), w + 200, m + 200⟩) rfl [st a9 b9, MO.lst (List.map encp (paths t)), MO.lst (List.map encp (paths t)), MO.lst (List.map D.int (fr t 0)),
          MO.lst [D.str [97, 116], D.int 0],
          MO.lst
            [D.tup [D.str [110, 97, 109, 101], D.str [98, 121]], D.tup [D.str [110, 97, 109, 101], D.int 5],
              D.tup [D.str [97, 112, 112], enc t], D.tup [D.str [97, 112, 112], enc t, enc t, enc t],
              D.tup [D.str [112, 105], enc t, D.non], D.tup [D.str [102, 114, 101, 101], D.int 0],
              D.tup [D.str [104, 111, 108, 101], D.int 0], D.loc 4,
              D.tup [D.str [110, 111, 116, 104, 105, 110, 103], D.int 1]],
          MO.lst [D.int 0],
          MO.lst
            [D.tup [D.tup [], D.bl true], D.tup [D.tup [D.int 0, D.int 5], D.bl true],
              D.tup [D.tup [D.int (-1)], D.bl false], D.tup [D.tup [D.bl true], D.bl false],
              D.tup [D.loc 6, D.bl false], D.tup [D.non, D.bl false],
              D.tup [D.tup (List.replicate 201 (D.int 0)), D.bl false],
              D.tup [D.tup (List.replicate 200 (D.int 0)), D.bl true]]] (x0 := some (.kst ns)) (x1 := some (.loc 0)) (x2 := some (enc t)) (x3 := some (enc v)) (x4 := some (.loc 1)) (x5 := some (.loc 2)) (x6 := some (.int kk)) (x7 := some (.int by_)) (x8 := some (.int low)) (x9 := some (.tup [enc x, enc y])) (x10 := some (.loc 3)) (x11 := some (encp p)) (x12 := some (encp (p ++ [3]))) (x13 := some (.tup [.str [110, 97, 109, 101], .str [102]])) (x14 := some (.tup [enc v, enc x, enc y])) (x15 := some (.tup [.str [115, 111, 114, 116], .int 0])) (x16 := some (.int q)) (x17 := some (enc (ones 101))) (x18 := y18) (x19 := some (.loc 5)) (x20 := y20b) (x21 := y21) (x22 := none)
  rw [pSeq_eq, pRet_eq, hr]
  simp [gcM_lt]
end PK.proofkernel_k00_whole_terms_places_and_p
end

section
open PySem PySem.W PyProof.Rows PK
set_option maxRecDepth 100000 in
set_option maxHeartbeats 0 in
theorem PySem.Challenge.cw_proofkernel_k00_whole_terms_places_and_p_holds : PySem.Challenge.rw_proofkernel_k00_whole_terms_places_and_p.Holds := by
  w_on; o_law; k_head; (case hw => w_witness2)
  k_fill
  refine PK.walk_end (l := PySem.Challenge.rw_proofkernel_k00_whole_terms_places_and_p) (k := 231) rfl rfl ⟨rfl, by decide, by decide⟩ (fun w h Y => PySem.W.kIn_of Y) ?F
  case F =>
    intro w mg fa h KX G hmg
    refine' PK.proofkernel_k00_whole_terms_places_and_p.finish 230 100000 KX G hmg ?D0 ?D1 ?D2 ?D3 ?D4 ?D5 ?D6 ?D7 ?D8 ?D9 ?D10 ?D11 ?D12 ?D13 ?D14 ?D15 ?D16 ?D17 ?D18 ?D19 ?D20 ?D21 ?D22 ?D23 ?D24 ?D25 ?D26 ?D27 ?D28 ?D29 ?D30 ?D31 ?D32 ?D33 ?D34 ?D35 ?D36 ?D37 ?D38 ?D39 ?D40 ?D41 ?D42 ?D43 ?D44 ?D45 ?D46 ?D47 ?D48 ?D49 ?D50 ?O ?K0 ?Cl (fun ns _ => ⟨[], PK.proofkernel_k00_whole_terms_places_and_p.law_all (w := 99800) (m := 30) rfl ns⟩)
    (case D0 => refine' ⟨_, defM0 ?a ?l ?c ?k⟩; (case a => k_is); (case l => k_is); (case c => k_is); (case k => k_is))
    (case D1 => refine' ⟨_, defM0 ?a ?l ?c ?k⟩; (case a => k_is); (case l => k_is); (case c => k_is); (case k => k_is))
    (case D2 => refine' ⟨_, defM0 ?a ?l ?c ?k⟩; (case a => k_is); (case l => k_is); (case c => k_is); (case k => k_is))
    (case D3 => refine' ⟨_, defM0 ?a ?l ?c ?k⟩; (case a => k_is); (case l => k_is); (case c => k_is); (case k => k_is))
    (case D4 => refine' ⟨_, defM0 ?a ?l ?c ?k⟩; (case a => k_is); (case l => k_is); (case c => k_is); (case k => k_is))
    (case D5 => refine' ⟨_, defM0 ?a ?l ?c ?k⟩; (case a => k_is); (case l => k_is); (case c => k_is); (case k => k_is))
    (case D6 => refine' ⟨_, defM0 ?a ?l ?c ?k⟩; (case a => k_is); (case l => k_is); (case c => k_is); (case k => k_is))
    (case D7 => refine' ⟨_, defM0 ?a ?l ?c ?k⟩; (case a => k_is); (case l => k_is); (case c => k_is); (case k => k_is))
    (case D8 => refine' ⟨_, defM0 ?a ?l ?c ?k⟩; (case a => k_is); (case l => k_is); (case c => k_is); (case k => k_is))
    (case D9 => refine' ⟨_, defM0 ?a ?l ?c ?k⟩; (case a => k_is); (case l => k_is); (case c => k_is); (case k => k_is))
    (case D10 => refine' ⟨_, defM0 ?a ?l ?c ?k⟩; (case a => k_is); (case l => k_is); (case c => k_is); (case k => k_is))
    (case D11 => refine' ⟨_, defM0 ?a ?l ?c ?k⟩; (case a => k_is); (case l => k_is); (case c => k_is); (case k => k_is))
    (case D12 => refine' ⟨_, defM0 ?a ?l ?c ?k⟩; (case a => k_is); (case l => k_is); (case c => k_is); (case k => k_is))
    (case D13 => refine' ⟨_, defM0 ?a ?l ?c ?k⟩; (case a => k_is); (case l => k_is); (case c => k_is); (case k => k_is))
    (case D14 => refine' ⟨_, defM1 ?a ?l ?c ?k ?t⟩; (case a => k_is); (case l => k_is); (case c => k_is); (case k => k_is); (case t => kernel_rfl))
    (case D15 => refine' ⟨_, defM1 ?a ?l ?c ?k ?t⟩; (case a => k_is); (case l => k_is); (case c => k_is); (case k => k_is); (case t => kernel_rfl))
    (case D16 => refine' ⟨_, defM0 ?a ?l ?c ?k⟩; (case a => k_is); (case l => k_is); (case c => k_is); (case k => k_is))
    (case D17 => refine' ⟨_, defM0 ?a ?l ?c ?k⟩; (case a => k_is); (case l => k_is); (case c => k_is); (case k => k_is))
    (case D18 => refine' ⟨_, defM0 ?a ?l ?c ?k⟩; (case a => k_is); (case l => k_is); (case c => k_is); (case k => k_is))
    (case D19 => refine' ⟨_, defM0 ?a ?l ?c ?k⟩; (case a => k_is); (case l => k_is); (case c => k_is); (case k => k_is))
    (case D20 => refine' ⟨_, defM0 ?a ?l ?c ?k⟩; (case a => k_is); (case l => k_is); (case c => k_is); (case k => k_is))
    (case D21 => refine' ⟨_, defM0 ?a ?l ?c ?k⟩; (case a => k_is); (case l => k_is); (case c => k_is); (case k => k_is))
    (case D22 => refine' ⟨_, defM0 ?a ?l ?c ?k⟩; (case a => k_is); (case l => k_is); (case c => k_is); (case k => k_is))
    (case D23 => refine' ⟨_, defM0 ?a ?l ?c ?k⟩; (case a => k_is); (case l => k_is); (case c => k_is); (case k => k_is))
    (case D24 => refine' ⟨_, defM0 ?a ?l ?c ?k⟩; (case a => k_is); (case l => k_is); (case c => k_is); (case k => k_is))
    (case D25 => refine' ⟨_, defM0 ?a ?l ?c ?k⟩; (case a => k_is); (case l => k_is); (case c => k_is); (case k => k_is))
    (case D26 => refine' ⟨_, defM0 ?a ?l ?c ?k⟩; (case a => k_is); (case l => k_is); (case c => k_is); (case k => k_is))
    (case D27 => refine' ⟨_, defM0 ?a ?l ?c ?k⟩; (case a => k_is); (case l => k_is); (case c => k_is); (case k => k_is))
    (case D28 => refine' ⟨_, defM0 ?a ?l ?c ?k⟩; (case a => k_is); (case l => k_is); (case c => k_is); (case k => k_is))
    (case D29 => refine' ⟨_, defM0 ?a ?l ?c ?k⟩; (case a => k_is); (case l => k_is); (case c => k_is); (case k => k_is))
    (case D30 => refine' ⟨_, defM0 ?a ?l ?c ?k⟩; (case a => k_is); (case l => k_is); (case c => k_is); (case k => k_is))
    (case D31 => refine' ⟨_, defM0 ?a ?l ?c ?k⟩; (case a => k_is); (case l => k_is); (case c => k_is); (case k => k_is))
    (case D32 => refine' ⟨_, defM0 ?a ?l ?c ?k⟩; (case a => k_is); (case l => k_is); (case c => k_is); (case k => k_is))
    (case D33 => refine' ⟨_, defM0 ?a ?l ?c ?k⟩; (case a => k_is); (case l => k_is); (case c => k_is); (case k => k_is))
    (case D34 => refine' ⟨_, defM0 ?a ?l ?c ?k⟩; (case a => k_is); (case l => k_is); (case c => k_is); (case k => k_is))
    (case D35 => refine' ⟨_, defM0 ?a ?l ?c ?k⟩; (case a => k_is); (case l => k_is); (case c => k_is); (case k => k_is))
    (case D36 => refine' ⟨_, defM0 ?a ?l ?c ?k⟩; (case a => k_is); (case l => k_is); (case c => k_is); (case k => k_is))
    (case D37 => refine' ⟨_, defM0 ?a ?l ?c ?k⟩; (case a => k_is); (case l => k_is); (case c => k_is); (case k => k_is))
    (case D38 => refine' ⟨_, defM0 ?a ?l ?c ?k⟩; (case a => k_is); (case l => k_is); (case c => k_is); (case k => k_is))
    (case D39 => refine' ⟨_, defM0 ?a ?l ?c ?k⟩; (case a => k_is); (case l => k_is); (case c => k_is); (case k => k_is))
    (case D40 => refine' ⟨_, defM0 ?a ?l ?c ?k⟩; (case a => k_is); (case l => k_is); (case c => k_is); (case k => k_is))
    (case D41 => refine' ⟨_, defM0 ?a ?l ?c ?k⟩; (case a => k_is); (case l => k_is); (case c => k_is); (case k => k_is))
    (case D42 => refine' ⟨_, defM0 ?a ?l ?c ?k⟩; (case a => k_is); (case l => k_is); (case c => k_is); (case k => k_is))
    (case D43 => refine' ⟨_, defM0 ?a ?l ?c ?k⟩; (case a => k_is); (case l => k_is); (case c => k_is); (case k => k_is))
    (case D44 => refine' ⟨_, defM0 ?a ?l ?c ?k⟩; (case a => k_is); (case l => k_is); (case c => k_is); (case k => k_is))
    (case D45 => refine' ⟨_, defM0 ?a ?l ?c ?k⟩; (case a => k_is); (case l => k_is); (case c => k_is); (case k => k_is))
    (case D46 => refine' ⟨_, defM0 ?a ?l ?c ?k⟩; (case a => k_is); (case l => k_is); (case c => k_is); (case k => k_is))
    (case D47 => refine' ⟨_, defM0 ?a ?l ?c ?k⟩; (case a => k_is); (case l => k_is); (case c => k_is); (case k => k_is))
    (case D48 => refine' ⟨_, defM0 ?a ?l ?c ?k⟩; (case a => k_is); (case l => k_is); (case c => k_is); (case k => k_is))
    (case D49 => refine' ⟨_, defM0 ?a ?l ?c ?k⟩; (case a => k_is); (case l => k_is); (case c => k_is); (case k => k_is))
    (case D50 => refine' ⟨_, defM0 ?a ?l ?c ?k⟩; (case a => k_is); (case l => k_is); (case c => k_is); (case k => k_is))
    (case O => exact ⟨by k_is, by k_is, by k_is, by k_is, by k_is, by k_is, by k_is, by k_is, by k_is, by k_is, by k_is, by k_is, by k_is, by k_is, by k_is, by kernel_rfl, by kernel_rfl, by kernel_rfl, by kernel_rfl, by kernel_rfl, by kernel_rfl⟩)
    (case K0 => refine' ⟨_, kdM_of ?a ?l ?k ?s ?t⟩; (case a => k_is); (case l => k_is); (case k => repeat (first | exact True.intro | refine ⟨⟨_, _, rfl, rfl⟩, ?_⟩)); (case s => kernel_rfl); (case t => kernel_rfl))
    (case Cl => refine' ⟨_, _, _, _, { a0 := ⟨?aa0, ?ab0, ?ac0, ?ad0⟩, e0 := ?e0, x0_0 := ?x0_0, x0_1 := ?x0_1, x0_2 := ?x0_2, x0_3 := ?x0_3, a1 := ⟨?aa1, ?ab1, ?ac1, ?ad1⟩, e1 := ?e1, x1_0 := ?x1_0, x1_1 := ?x1_1, x1_2 := ?x1_2, x1_3 := ?x1_3, a2 := ⟨?aa2, ?ab2, ?ac2, ?ad2⟩, i2 := ⟨clsX_of ?il2 ?ir2, ?is2, ?ig2, ?ih2, ?id2, initFn1 ?fi2 ?ft2 ?fl2 ?fc2 ?fk2 ?fd2⟩, n2_0 := ?n2_0, n2_1 := ?n2_1, x2_0 := ?x2_0, x2_1 := ?x2_1, x2_2 := ?x2_2, x2_3 := ?x2_3, a3 := ⟨?aa3, ?ab3, ?ac3, ?ad3⟩, i3 := ⟨clsX_of ?il3 ?ir3, ?is3, ?ig3, ?ih3, ?id3, initFn0 ?fi3 ?ft3 ?fl3 ?fc3 ?fk3⟩, n3_2 := ?n3_2, x3_0 := ?x3_0, x3_1 := ?x3_1, x3_2 := ?x3_2, x3_3 := ?x3_3, b0 := ⟨?ba0, ?bb0, ?bc0, ?bd0⟩ }⟩; (case aa0 => k_is); (case aa1 => k_is); (case aa2 => k_is); (case aa3 => k_is); (case ab0 => k_is); (case ac0 => k_is); (case ad0 => k_is); (case e0 => kernel_rfl); (case x0_0 => kernel_rfl); (case x0_1 => kernel_rfl); (case x0_2 => kernel_rfl); (case x0_3 => kernel_rfl); (case ab1 => k_is); (case ac1 => k_is); (case ad1 => k_is); (case e1 => kernel_rfl); (case x1_0 => kernel_rfl); (case x1_1 => kernel_rfl); (case x1_2 => kernel_rfl); (case x1_3 => kernel_rfl); (case ab2 => k_is); (case ac2 => k_is); (case ad2 => k_is); (case fi2 => k_is); (case ft2 => k_is); (case fl2 => k_is); (case fc2 => k_is); (case fk2 => k_is); (case fd2 => kernel_rfl); (case il2 => k_is); (case ir2 => kernel_rfl); (case is2 => k_is); (case ig2 => k_is); (case ih2 => k_is); (case id2 => k_is); (case n2_0 => k_is); (case n2_1 => k_is); (case x2_0 => kernel_rfl); (case x2_1 => kernel_rfl); (case x2_2 => kernel_rfl); (case x2_3 => kernel_rfl); (case ab3 => k_is); (case ac3 => k_is); (case ad3 => k_is); (case fi3 => k_is); (case ft3 => k_is); (case fl3 => k_is); (case fc3 => k_is); (case fk3 => k_is); (case il3 => k_is); (case ir3 => kernel_rfl); (case is3 => k_is); (case ig3 => k_is); (case ih3 => k_is); (case id3 => k_is); (case n3_2 => k_is); (case x3_0 => kernel_rfl); (case x3_1 => kernel_rfl); (case x3_2 => kernel_rfl); (case x3_3 => kernel_rfl); (case ba0 => k_is); (case bb0 => k_is); (case bc0 => k_is); (case bd0 => k_is))
end
