import PyProof.Rows.All
import Wide.All
import OpenK.AllK
import Wide.FinOn
import HandS.ForMost
import HandS.ForExc
import HandS.IsInst
import HandS.More
import HandS.TupLen
import HandS.Text
import KE.KDictCopyH
import HandS.TryMany
import HandS.Walk
import HandS.SetFor
import HandS.ExcIs
import HandS.Deep
import HandS.SortRule
import HandS.SortInts
import HandS.SortKw
import HandS.SetKeys
import HandS.DictSubView
import HandS.Sort
import KE.KDictList
import HandS.Codes
import KE.DataMinMax
import PyProof.StrLawsTight
import PySem.Challenge.RW_seatplan_k08_shifts_and_leaves
set_option Elab.async false
set_option linter.all false
set_option maxRecDepth 100000
set_option maxHeartbeats 8000000
/-! SPa: the functional layer: data D, cells, the evaluator's combinators (plain functions). -/
namespace SP
open PySem L2

/-- data without addresses -/
inductive D where
  | non | bl (b : Bool) | int (i : Int) | str (s : Str)
  | tup (xs : List D) | lst (xs : List D)
  | dk (kvs : List (Key × D)) | dt (kvs : List (List Key × D))
  | scr (ns : List Int)
instance : Inhabited D := ⟨.non⟩
/-- what a name holds: data that never changes, or a cell -/
inductive Sv where | im (d : D) | rf (n : Nat)
instance : Inhabited Sv := ⟨.im .non⟩
inductive Cell where
  | lst (xs : List D) | dk (kvs : List (Key × D)) | dt (kvs : List (List Key × D))
  | fz (d : D) | ob (fs : List (Str × Sv)) | dv (kvs : List (Key × Sv))
abbrev Mu := List Cell
abbrev Rho := List (Option Sv)
inductive Xn where
  | seat | hall | name | size | known | unknown | noseat | taken | noroom | room | nothing | line
  deriving DecidableEq
inductive R (α : Type) where
  | ok (a : α) (μ : Mu) | ex (c : Xn) (μ : Mu) | no
def R.bind {α β : Type} (r : R α) (k : α → Mu → R β) : R β := match r with
  | .ok a μ => k a μ
  | .ex c μ => .ex c μ
  | .no => .no
abbrev Ev := Rho → Mu → R Sv
abbrev EvA := Rho → Mu → R (List Sv)
abbrev EvT := Rho → Mu → R Bool
abbrev EvF := Rho → Mu → R Cell
inductive O where
  | nx (ρ : Rho) (μ : Mu) | rt (v : Sv) (μ : Mu) | bk (ρ : Rho) (μ : Mu) | ct (ρ : Rho) (μ : Mu)
  | ex (c : Xn) (ρ : Rho) (μ : Mu) | no
abbrev EvS := Rho → Mu → O

/-- the longest list or text that is served -/
def maxN : Nat := 1000000

def look (μ : Mu) : Sv → Option D
  | .im d => some d
  | .rf n => match μ[n]? with
    | some (.lst xs) => some (.lst xs)
    | some (.dk k) => some (.dk k)
    | some (.dt k) => some (.dt k)
    | some (.fz d) => some d
    | _ => none
def frz (μ : Mu) : Sv → Option (D × Mu)
  | .im d => some (d, μ)
  | .rf n => match μ[n]? with
    | some (.lst xs) => some (.lst xs, μ.set n (.fz (.lst xs)))
    | some (.dk k) => some (.dk k, μ.set n (.fz (.dk k)))
    | some (.dt k) => some (.dt k, μ.set n (.fz (.dt k)))
    | some (.fz d) => some (d, μ)
    | _ => none

/-! ### expressions -/
def dVar (i : Nat) : Ev := fun ρ μ => match ρ[i]? with
  | some (some v) => .ok v μ
  | _ => .no
def dC (d : D) : Ev := fun _ μ => .ok (.im d) μ
/-- the value, frozen -/
def dV (f : Ev) : Ev := fun ρ μ => (f ρ μ).bind fun v μ1 => match frz μ1 v with
  | some (d, μ2) => .ok (.im d) μ2
  | none => .no
def dOp1 (p : Sv → Mu → R Sv) (fa : Ev) : Ev := fun ρ μ => (fa ρ μ).bind p
def dOp2 (p : Sv → Sv → Mu → R Sv) (fa fb : Ev) : Ev := fun ρ μ => (fa ρ μ).bind fun a μ1 => (fb ρ μ1).bind fun b μ2 => p a b μ2
def dTest (f : Ev) : EvT := fun ρ μ => (f ρ μ).bind fun v μ1 => match v with
  | .im (.bl b) => .ok b μ1
  | _ => .no
def dAndT (f g : EvT) : EvT := fun ρ μ => (f ρ μ).bind fun b μ1 => if b then g ρ μ1 else .ok false μ1
def dOrT (f g : EvT) : EvT := fun ρ μ => (f ρ μ).bind fun b μ1 => if b then .ok true μ1 else g ρ μ1
def dNotT (f : EvT) : EvT := fun ρ μ => (f ρ μ).bind fun b μ1 => .ok (!b) μ1
def dAnd (f g : Ev) : Ev := fun ρ μ => (f ρ μ).bind fun v μ1 => match v with
  | .im (.bl true) => g ρ μ1
  | .im (.bl false) => .ok (.im (.bl false)) μ1
  | _ => .no
def dOr (f g : Ev) : Ev := fun ρ μ => (f ρ μ).bind fun v μ1 => match v with
  | .im (.bl false) => g ρ μ1
  | .im (.bl true) => .ok (.im (.bl true)) μ1
  | _ => .no
def dIfE (c : EvT) (f g : Ev) : Ev := fun ρ μ => (c ρ μ).bind fun b μ1 => if b then f ρ μ1 else g ρ μ1
def dANil : EvA := fun _ μ => .ok [] μ
def dACons (f : Ev) (g : EvA) : EvA := fun ρ μ => (f ρ μ).bind fun v μ1 => (g ρ μ1).bind fun vs μ2 => .ok (v :: vs) μ2
/-- data of a list of values: all frozen already -/
def datas : List Sv → Option (List D)
  | [] => some []
  | .im d :: r => (datas r).map (d :: ·)
  | _ => none
def dTup (g : EvA) : Ev := fun ρ μ => (g ρ μ).bind fun vs μ1 => match datas vs with
  | some ds => if ds.length ≤ maxN then .ok (.im (.tup ds)) μ1 else .no
  | none => .no
/-- a new list, a new dict: what they hold -/
def dLst (g : EvA) : EvF := fun ρ μ => (g ρ μ).bind fun vs μ1 => match datas vs with
  | some ds => if ds.length ≤ maxN then .ok (.lst ds) μ1 else .no
  | none => .no
def dDk : EvF := fun _ μ => .ok (.dk []) μ
def dDt : EvF := fun _ μ => .ok (.dt []) μ
def Cell.dat : Cell → Option D
  | .lst xs => some (.lst xs)
  | .dk k => some (.dk k)
  | .dt k => some (.dt k)
  | _ => none
/-- a new object as data; as a cell -/
def dI (f : EvF) : Ev := fun ρ μ => (f ρ μ).bind fun c μ1 => match c.dat with
  | some d => .ok (.im d) μ1
  | none => .no
def dN (f : EvF) : Ev := fun ρ μ => (f ρ μ).bind fun c μ1 => .ok (.rf μ1.length) (μ1 ++ [c])
def dOpF (p : Sv → Mu → R Cell) (fa : Ev) : EvF := fun ρ μ => (fa ρ μ).bind p
/-- a call: the callee's own function -/
def dCall (F : List Sv → Mu → R Sv) (g : EvA) : Ev := fun ρ μ => (g ρ μ).bind fun vs μ1 => F vs μ1
/-! ### primitives -/
def p1 (g : D → Option D) : Sv → Mu → R Sv := fun a μ => match look μ a with
  | some d => match g d with
    | some r => .ok (.im r) μ
    | none => .no
  | none => .no
def p2 (g : D → D → Option D) : Sv → Sv → Mu → R Sv := fun a b μ => match look μ a, look μ b with
  | some d, some e => match g d e with
    | some r => .ok (.im r) μ
    | none => .no
  | _, _ => .no
def gAdd : D → D → Option D
  | .int i, .int j => some (.int (i + j))
  | .str a, .str b => if a.length + b.length ≤ maxN then some (.str (a ++ b)) else none
  | .lst xs, .lst ys => if xs.length + ys.length ≤ maxN then some (.lst (xs ++ ys)) else none
  | _, _ => none
def gSub : D → D → Option D
  | .int i, .int j => some (.int (i - j))
  | _, _ => none
def small64 (i : Int) : Bool := Nat.ble i.natAbs 18446744073709551615
def gMul : D → D → Option D
  | .int i, .int j => if small64 i || small64 j then some (.int (i * j)) else none
  | _, _ => none
def gMod : D → D → Option D
  | .int i, .int j => if 0 < j then some (.int (i % j)) else none
  | _, _ => none
def gDiv : D → D → Option D
  | .int i, .int j => if 0 < j ∧ j < 1073741824 then some (.int (i / j)) else none
  | _, _ => none
def gInt (f : Int → Int → Bool) : D → D → Option D
  | .int i, .int j => some (.bl (f i j))
  | _, _ => none
def asInts : List D → Option (List Int)
  | [] => some []
  | .int i :: r => (asInts r).map (i :: ·)
  | _ => none
def gIsN : D → D → Option D
  | .non, .non => some (.bl true)
  | .bl _, .non => some (.bl false)
  | .int _, .non => some (.bl false)
  | .str _, .non => some (.bl false)
  | .tup _, .non => some (.bl false)
  | .lst _, .non => some (.bl false)
  | .dk _, .non => some (.bl false)
  | .dt _, .non => some (.bl false)
  | _, _ => none
def gNotN (a b : D) : Option D := match gIsN a b with
  | some (.bl x) => some (.bl (!x))
  | _ => none
def gIx : D → D → Option D
  | .lst xs, .int i => atI xs i
  | .tup xs, .int i => atI xs i
  | .scr ns, .int i => (atI ns i).map .int
  | .str s, .int i => (atI s.cps.toList i).map fun c => .str ⟨#[c]⟩
  | _, _ => none
def gLen : D → Option D
  | .lst xs => some (.int xs.length)
  | .tup xs => some (.int xs.length)
  | .scr ns => some (.int ns.length)
  | .str s => some (.int s.length)
  | .dk k => some (.int k.length)
  | .dt k => some (.int k.length)
  | _ => none
mutual
def D.py : D → PyData
  | .non => .none
  | .bl b => .bool b
  | .int i => .int i
  | .str s => .str s
  | .tup xs => .tuple (D.pys xs)
  | .lst xs => .list (D.pys xs)
  | .dk _ => .dict []
  | .dt _ => .dict []
  | .scr _ => .dict []
def D.pys : List D → List PyData
  | [] => []
  | d :: r => d.py :: D.pys r
end
mutual
/-- may be compared by == (depth below n) -/
def D.eqok : Nat → D → Bool
  | _, .non => true
  | _, .bl _ => true
  | _, .int _ => true
  | _, .str _ => true
  | 0, _ => false
  | n + 1, .tup xs => D.eqoks n xs
  | n + 1, .lst xs => D.eqoks n xs
  | _ + 1, .dk _ => false
  | _ + 1, .dt _ => false
  | _ + 1, .scr _ => false
def D.eqoks : Nat → List D → Bool
  | _, [] => true
  | n, d :: r => D.eqok n d && D.eqoks n r
end
def gEq (a b : D) : Option D := if D.eqok 9 a && D.eqok 9 b then some (.bl (PyData.eqv a.py b.py)) else none
def gNe (a b : D) : Option D := if D.eqok 9 a && D.eqok 9 b then some (.bl (!PyData.eqv a.py b.py)) else none
/-! ### what built-ins give -/
def fList : Sv → Mu → R Cell := fun a μ => match look μ a with
  | some (.lst xs) => .ok (.lst xs) μ
  | some (.tup xs) => .ok (.lst xs) μ
  | some (.dk kvs) => .ok (.lst (kvs.map fun kv => match kv.1 with | .inl i => .int i | .inr s => .str s)) μ
  | _ => .no
def gMax2 : D → D → Option D
  | .int i, .int j => some (.int (if j > i then j else i))
  | _, _ => none
def gMin2 : D → D → Option D
  | .int i, .int j => some (.int (if j < i then j else i))
  | _, _ => none
def gAbs : D → Option D
  | .int i => some (.int (if i < 0 then -i else i))
  | _ => none
def leastI : Int → List Int → Int
  | a, [] => a
  | a, b :: r => leastI (if b < a then b else a) r
def mostI : Int → List Int → Int
  | a, [] => a
  | a, b :: r => mostI (if b > a then b else a) r
def gMin1 : D → Option D
  | .lst xs => match asInts xs with
    | some (a :: r) => some (.int (leastI a r))
    | _ => none
  | _ => none
def gMax1 : D → Option D
  | .lst xs => match asInts xs with
    | some (a :: r) => some (.int (mostI a r))
    | _ => none
  | _ => none
def gSum : D → Option D
  | .lst xs => (asInts xs).map fun ns => .int ns.sum
  | _ => none
def D.tyN : D → String
  | .non => "NoneType" | .bl _ => "bool" | .int _ => "int" | .str _ => "str" | .tup _ => "tuple" | .lst _ => "list" | .dk _ => "dict" | .dt _ => "dict" | .scr _ => "script"
/-- isinstance, of the classes that the laws name -/
def isTy (T : String) (d : D) : Bool := d.tyN == T || (d.tyN == "bool" && T == "int")
def gIsi (T : String) (d : D) : Option D := match d with
  | .scr _ => none
  | _ => some (.bl (isTy T d))
def gLtT : D → D → Option D
  | .int i, .int j => some (.bl (decide (i < j)))
  | .tup xs, .tup ys => match asInts xs, asInts ys with
    | some a, some b => some (.bl (HT.lexLt a b))
    | _, _ => none
  | _, _ => none
/-- a op b op' c -/
def dChain (p p' : Sv → Sv → Mu → R Sv) (fa fb fc : Ev) : Ev := fun ρ μ => (fa ρ μ).bind fun a μ1 => (fb ρ μ1).bind fun b μ2 => (p a b μ2).bind fun k μ3 => match k with
  | .im (.bl true) => (fc ρ μ3).bind fun c μ4 => p' b c μ4
  | .im (.bl false) => .ok (.im (.bl false)) μ3
  | _ => .no
/-! ### statements -/
def sNext : EvS := fun ρ μ => .nx ρ μ
def sSeq (f g : EvS) : EvS := fun ρ μ => match f ρ μ with
  | .nx ρ1 μ1 => g ρ1 μ1
  | o => o
def sE (f : Ev) (k : Sv → Rho → Mu → O) : EvS := fun ρ μ => match f ρ μ with
  | .ok v μ1 => k v ρ μ1
  | .ex c μ1 => .ex c ρ μ1
  | .no => .no
def sAsg (i : Nat) (f : Ev) : EvS := sE f fun v ρ μ => .nx (ρ.set i (some v)) μ
def sDrop (f : Ev) : EvS := sE f fun _ ρ μ => .nx ρ μ
def sRet (f : Ev) : EvS := sE f fun v _ μ => .rt v μ
def sRetN : EvS := fun _ μ => .rt (.im .non) μ
def sIf (c : EvT) (f g : EvS) : EvS := fun ρ μ => match c ρ μ with
  | .ok b μ1 => if b then f ρ μ1 else g ρ μ1
  | .ex x μ1 => .ex x ρ μ1
  | .no => .no
def sBreak : EvS := fun ρ μ => .bk ρ μ
def sCont : EvS := fun ρ μ => .ct ρ μ
def sRaise (c : Xn) : EvS := fun ρ μ => .ex c ρ μ
def sNever : EvS := fun _ _ => .no
def loopL (i : Nat) (body : EvS) : List D → EvS
  | [], ρ, μ => .nx ρ μ
  | d :: r, ρ, μ => match body (ρ.set i (some (.im d))) μ with
    | .nx ρ1 μ1 => loopL i body r ρ1 μ1
    | .ct ρ1 μ1 => loopL i body r ρ1 μ1
    | .bk ρ1 μ1 => .nx ρ1 μ1
    | o => o
/-- the items that a for walks, frozen -/
def sForL (i : Nat) (f : Ev) (body : EvS) : EvS := sE (dV f) fun v ρ μ => match v with
  | .im (.lst xs) => loopL i body xs ρ μ
  | _ => .no
def sForS (i : Nat) (f : Ev) (body : EvS) : EvS := sE f fun v ρ μ => match v with
  | .im (.str s) => loopL i body (s.cps.toList.map fun c => .str ⟨#[c]⟩) ρ μ
  | _ => .no
def rangeD (lo : Int) (n : Nat) : List D := (List.range n).map fun (k : Nat) => D.int (lo + (k : Int))
def in62 (i : Int) : Bool := Nat.ble i.natAbs 4611686018427387903
def sForR1 (i : Nat) (f : Ev) (body : EvS) : EvS := sE f fun v ρ μ => match v with
  | .im (.int n) => if in62 n then loopL i body (rangeD 0 n.toNat) ρ μ else .no
  | _ => .no
def sForR2 (i : Nat) (f g : Ev) (body : EvS) : EvS := sE f fun v ρ μ => match v with
  | .im (.int a) => sE g (fun w ρ μ => match w with
      | .im (.int b) => if in62 a && in62 b then loopL i body (rangeD a (b - a).toNat) ρ μ else .no
      | _ => .no) ρ μ
  | _ => .no
def sWhile (c : EvT) (body : EvS) : Nat → EvS
  | 0, _, _ => .no
  | n + 1, ρ, μ => match c ρ μ with
    | .ok true μ1 => (match body ρ μ1 with
      | .nx ρ2 μ2 => sWhile c body n ρ2 μ2
      | .ct ρ2 μ2 => sWhile c body n ρ2 μ2
      | .bk ρ2 μ2 => .nx ρ2 μ2
      | o => o)
    | .ok false μ1 => .nx ρ μ1
    | .ex x μ1 => .ex x ρ μ1
    | .no => .no
/-- x.append(e), x a cell -/
def sApp (fx fe : Ev) : EvS := sE fx fun v ρ μ => match v with
  | .rf n => match μ[n]? with
    | some (.lst _) => sE fe (fun w ρ μ => match w with
      | .im d => match μ[n]? with
        | some (.lst xs) => if xs.length < maxN then .nx ρ (μ.set n (.lst (xs ++ [d]))) else .no
        | _ => .no
      | _ => .no) ρ μ
    | _ => .no
  | _ => .no
/-! ### dicts -/
def valD {κ : Type} [DecidableEq κ] (kvs : List (κ × D)) (k : κ) : Option D := (kvs.find? fun kv => decide (kv.1 = k)).map (·.2)
def putD {κ : Type} [DecidableEq κ] (kvs : List (κ × D)) (k : κ) (v : D) : List (κ × D) :=
  if (kvs.any fun kv => decide (kv.1 = k)) = true then kvs.map (fun kv => if kv.1 = k then (kv.1, v) else kv) else kvs ++ [(k, v)]
def dropD {κ : Type} [DecidableEq κ] (kvs : List (κ × D)) (k : κ) : List (κ × D) := kvs.filter fun kv => decide (kv.1 ≠ k)
def keyOf : D → Option Key
  | .int i => some (.inl i)
  | .str s => some (.inr s)
  | _ => none
def keysOf : List D → Option (List Key)
  | [] => some []
  | d :: r => match keyOf d, keysOf r with
    | some k, some ks => some (k :: ks)
    | _, _ => none
/-- what a dict holds at a key -/
def dAt : D → D → Option (Option D)
  | .dk kvs, k => (keyOf k).map fun k => valD kvs k
  | .dt kvs, .tup xs => (keysOf xs).map fun k => valD kvs k
  | _, _ => none
def gDGet (d k : D) : Option D := match dAt d k with
  | some (some v) => some v
  | _ => none
def gIn (k d : D) : Option D := (dAt d k).map fun o => .bl o.isSome
def gNotIn (k d : D) : Option D := (dAt d k).map fun o => .bl (!o.isSome)
/-- one sign in a text -/
def gInS : D → D → Option D
  | .str c, .str z => match c.cps.toList with
    | [c] => some (.bl (decide (c ∈ z.cps.toList)))
    | _ => none
  | _, _ => none
def gNotInS (k d : D) : Option D := match gInS k d with
  | some (.bl b) => some (.bl (!b))
  | _ => none
def isDict : D → Bool
  | .dk _ => true
  | .dt _ => true
  | _ => false
/-- d.get(k), d.get(k, x) -/
def dGet1 (fd fk : Ev) : Ev := fun ρ μ => (fd ρ μ).bind fun x μ1 => match look μ1 x with
  | some d0 => if isDict d0 then (fk ρ μ1).bind fun y μ2 => match look μ2 x, look μ2 y with
      | some d, some k => match dAt d k with
        | some o => .ok (.im (o.getD .non)) μ2
        | none => .no
      | _, _ => .no
    else .no
  | none => .no
def dGet2 (fd fk fz : Ev) : Ev := fun ρ μ => (fd ρ μ).bind fun x μ1 => match look μ1 x with
  | some d0 => if isDict d0 then (fk ρ μ1).bind fun y μ2 => (fz ρ μ2).bind fun z μ3 => match look μ3 x, look μ3 y, z with
      | some d, some k, .im e => match dAt d k with
        | some o => .ok (.im (o.getD e)) μ3
        | none => .no
      | _, _, _ => .no
    else .no
  | none => .no
def putCell (n : Nat) (k v : D) (ρ : Rho) (μ : Mu) : O := match μ[n]? with
  | some (.dk kvs) => match keyOf k with
    | some k => if kvs.length < maxN then .nx ρ (μ.set n (.dk (putD kvs k v))) else .no
    | none => .no
  | some (.dt kvs) => match k with
    | .tup xs => match keysOf xs with
      | some k => if kvs.length < maxN then .nx ρ (μ.set n (.dt (putD kvs k v))) else .no
      | none => .no
    | _ => .no
  | _ => .no
/-- d[k] = v -/
def sDPut (fd fk fv : Ev) : EvS := sE fv fun v ρ μ => match v with
  | .im dv => sE fd (fun x ρ μ => match x with
    | .rf n => sE fk (fun y ρ μ => match look μ y with
      | some k => putCell n k dv ρ μ
      | none => .no) ρ μ
    | _ => .no) ρ μ
  | _ => .no
/-! ### texts -/
def gCount : D → D → Option D
  | .str a, .str b => some (.int (Txt.count a b))
  | _, _ => none
def gFind : D → D → Option D
  | .str a, .str b => some (.int (Txt.find a b))
  | _, _ => none
/-- a method of a text, one argument -/
def dOpM (g : D → D → Option D) (fa fb : Ev) : Ev := fun ρ μ => (fa ρ μ).bind fun a μ1 => match a with
  | .im (.str z) => (fb ρ μ1).bind fun b μ2 => match b with
    | .im (.str w) => match g (.str z) (.str w) with
      | some r => .ok (.im r) μ2
      | none => .no
    | _ => .no
  | _ => .no
def gSl (d : D) (lo hi : Option Int) : Option D := match d with
  | .str z => some (.str (cutS z lo hi))
  | .lst xs => some (.lst ((xs.drop (HT.sIx xs.length 0 lo)).take (HT.sIx xs.length xs.length hi - HT.sIx xs.length 0 lo)))
  | _ => none
/-- a[lo:hi] -/
def dPart (o : Option Ev) : Rho → Mu → R (Option Int) := fun ρ μ => match o with
  | none => .ok none μ
  | some f => (f ρ μ).bind fun v μ1 => match v with
    | .im (.int i) => .ok (some i) μ1
    | _ => .no
def dSl (fa : Ev) (lo hi : Option Ev) : Ev := fun ρ μ => (fa ρ μ).bind fun a μ1 => (dPart lo ρ μ1).bind fun l μ2 => (dPart hi ρ μ2).bind fun h μ3 => match look μ3 a with
  | some d => match gSl d l h with
    | some r => .ok (.im r) μ3
    | none => .no
  | none => .no
def gPow : D → D → Option D
  | .int i, .int j => if 0 ≤ j ∧ j ≤ 1000000 ∧ i.natAbs < 2 ^ 64 then some (.int (i ^ j.toNat)) else none
  | _, _ => none
def gNeg : D → Option D
  | .int i => some (.int (-i))
  | _ => none
def dNotE (f : Ev) : Ev := fun ρ μ => (f ρ μ).bind fun v μ1 => match v with
  | .im (.bl b) => .ok (.im (.bl (!b))) μ1
  | _ => .no
def gStr : D → Option D
  | .int i => if i.natAbs.log2 < 1920 ∧ (toString i : Str).length ≤ maxN then some (.str (toString i)) else none
  | _ => none
def gInt1 : D → Option D
  | .int i => some (.int i)
  | .bl b => some (.int (if b then 1 else 0))
  | .str a => match PySem.intText? a with
    | some n => if a.length ≤ 640 then some (.int n) else none
    | none => none
  | _ => none
/-! ### comprehensions -/
/-- nothing may be raised here -/
def R.quiet {α : Type} : R α → R α
  | .ok a μ => .ok a μ
  | _ => .no
def lcL (i : Nat) (t : EvT) (e : Ev) : List D → Rho → Mu → R (List D)
  | [], _, μ => .ok [] μ
  | d :: r, ρ, μ => (t (ρ.set i (some (.im d))) μ).quiet.bind fun b μ1 =>
    if b then (e (ρ.set i (some (.im d))) μ1).quiet.bind fun v μ2 => match v with
      | .im x => (lcL i t e r ρ μ2).bind fun ys μ3 => .ok (x :: ys) μ3
      | _ => .no
    else lcL i t e r ρ μ1
def dYes : EvT := fun _ μ => .ok true μ
def lcEnd (r : R (List D)) : R Cell := r.bind fun ys μ1 => .ok (.lst ys) μ1
def dLcL (i : Nat) (f : Ev) (t : EvT) (e : Ev) : EvF := fun ρ μ => (dV f ρ μ).bind fun v μ1 => match v with
  | .im (.lst xs) => if xs.length ≤ maxN then lcEnd (lcL i t e xs (ρ.set i none) μ1) else .no
  | _ => .no
def dLcR1 (i : Nat) (f : Ev) (t : EvT) (e : Ev) : EvF := fun ρ μ => (f ρ μ).bind fun v μ1 => match v with
  | .im (.int n) => if in62 n && decide (n.toNat ≤ maxN) then lcEnd (lcL i t e (rangeD 0 n.toNat) (ρ.set i none) μ1) else .no
  | _ => .no
/-! ### defs -/
/-- a reference to a cell below n -/
def Sv.low (n : Nat) : Sv → Bool
  | .im _ => true
  | .rf m => decide (m < n)
def Cell.low (n : Nat) : Cell → Bool
  | .ob fs => fs.all fun p => p.2.low n
  | .dv kvs => kvs.all fun p => p.2.low n
  | _ => true
/-- a def whose answer is data: its own cells go -/
def dFn (m : Nat) (b : EvS) (vs : List Sv) (μ : Mu) : R Sv := match b (vs.map some ++ List.replicate (m - vs.length) none) μ with
  | .rt v μ1 => (match frz μ1 v with
    | some (d, μ2) => if (μ2.take μ.length).all (Cell.low μ.length) && decide (μ.length ≤ μ2.length) then .ok (.im d) (μ2.take μ.length) else .no
    | none => .no)
  | .nx _ μ1 => if (μ1.take μ.length).all (Cell.low μ.length) && decide (μ.length ≤ μ1.length) then .ok (.im .non) (μ1.take μ.length) else .no
  | .ex c _ μ1 => if (μ1.take μ.length).all (Cell.low μ.length) && decide (μ.length ≤ μ1.length) then .ex c (μ1.take μ.length) else .no
  | _ => .no
/-- a def whose answer and cells stay as they are -/
def dFnR (m : Nat) (b : EvS) (vs : List Sv) (μ : Mu) : R Sv := match b (vs.map some ++ List.replicate (m - vs.length) none) μ with
  | .rt v μ1 => .ok v μ1
  | .nx _ μ1 => .ok (.im .non) μ1
  | .ex c _ μ1 => .ex c μ1
  | _ => .no
end SP

/-! SPb: what the layer's values stand for, and the states. -/
namespace SP
open PySem L2

theorem maxN_le : maxN ≤ sizeLine := by rw [sizeLine_eq]; decide
def goodS (s : Str) : Prop := s.length ≤ maxN ∧ s.cps.all (· < 0x110000) = true
def goodK : Key → Prop
  | .inl _ => True
  | .inr s => goodS s

mutual
inductive Rep (K : PySem.W.Frag) (G : Hp) : V → D → Prop
  | non : Rep K G .non .non
  | bl (b : Bool) : Rep K G (.bl b) (.bl b)
  | int (i : Int) : Rep K G (.int i) (.int i)
  | str (s : Str) (h : goodS s) : Rep K G (.str s) (.str s)
  | tup {a : Addr} {vs : List V} {ds : List D} (h : G a = some (.tup vs)) (n : ds.length ≤ maxN) (r : Reps K G vs ds) : Rep K G (.ref a) (.tup ds)
  | lst {a : Addr} {vs : List V} {ds : List D} (h : G a = some (.lst vs)) (n : ds.length ≤ maxN) (r : Reps K G vs ds) : Rep K G (.ref a) (.lst ds)
  | dk {a : Addr} {vs : List (Key × V)} {ds : List (Key × D)} (h : G a = some (.dK vs)) (n : ds.length ≤ maxN) (r : RepK K G vs ds) : Rep K G (.ref a) (.dk ds)
  | dt {a : Addr} {vs : List (List Key × V)} {ds : List (List Key × D)} (h : G a = some (.dT vs)) (n : ds.length ≤ maxN) (r : RepT K G vs ds) : Rep K G (.ref a) (.dt ds)
  | scr {a : Addr} {ns : List Int} (h : SqL K G a (ns.map V.int)) (n : ns.length ≤ maxN) : Rep K G (.ref a) (.scr ns)
inductive Reps (K : PySem.W.Frag) (G : Hp) : List V → List D → Prop
  | nil : Reps K G [] []
  | cons {v : V} {vs : List V} {d : D} {ds : List D} (h : Rep K G v d) (r : Reps K G vs ds) : Reps K G (v :: vs) (d :: ds)
inductive RepK (K : PySem.W.Frag) (G : Hp) : List (Key × V) → List (Key × D) → Prop
  | nil : RepK K G [] []
  | cons {k : Key} {v : V} {vs : List (Key × V)} {d : D} {ds : List (Key × D)} (g : goodK k) (h : Rep K G v d) (r : RepK K G vs ds) : RepK K G ((k, v) :: vs) ((k, d) :: ds)
inductive RepT (K : PySem.W.Frag) (G : Hp) : List (List Key × V) → List (List Key × D) → Prop
  | nil : RepT K G [] []
  | cons {k : List Key} {v : V} {vs : List (List Key × V)} {d : D} {ds : List (List Key × D)} (h : Rep K G v d) (r : RepT K G vs ds) : RepT K G ((k, v) :: vs) ((k, d) :: ds)
end

section
variable {K : PySem.W.Frag} {G G' : Hp}
mutual
theorem Rep.mono (e : Same G G') : ∀ {v : V} {d : D}, Rep K G v d → Rep K G' v d
  | _, _, .non => .non
  | _, _, .bl b => .bl b
  | _, _, .int i => .int i
  | _, _, .str s h => .str s h
  | _, _, .tup h n r => .tup (e _ _ h) n (Reps.mono e r)
  | _, _, .lst h n r => .lst (e _ _ h) n (Reps.mono e r)
  | _, _, .dk h n r => .dk (e _ _ h) n (RepK.mono e r)
  | _, _, .dt h n r => .dt (e _ _ h) n (RepT.mono e r)
  | _, _, .scr h n => .scr (e.seq h) n
theorem Reps.mono (e : Same G G') : ∀ {v : List V} {d : List D}, Reps K G v d → Reps K G' v d
  | _, _, .nil => .nil
  | _, _, .cons h r => .cons (Rep.mono e h) (Reps.mono e r)
theorem RepK.mono (e : Same G G') : ∀ {v : List (Key × V)} {d : List (Key × D)}, RepK K G v d → RepK K G' v d
  | _, _, .nil => .nil
  | _, _, .cons g h r => .cons g (Rep.mono e h) (RepK.mono e r)
theorem RepT.mono (e : Same G G') : ∀ {v : List (List Key × V)} {d : List (List Key × D)}, RepT K G v d → RepT K G' v d
  | _, _, .nil => .nil
  | _, _, .cons h r => .cons (Rep.mono e h) (RepT.mono e r)
end
theorem Reps.length : ∀ {v : List V} {d : List D}, Reps K G v d → v.length = d.length
  | _, _, .nil => rfl
  | _, _, .cons _ r => by simp [Reps.length r]
theorem Reps.append : ∀ {v w : List V} {d e : List D}, Reps K G v d → Reps K G w e → Reps K G (v ++ w) (d ++ e)
  | _, _, _, _, .nil, s => s
  | _, _, _, _, .cons h r, s => .cons h (Reps.append r s)
theorem Reps.get : ∀ {v : List V} {d : List D} {i : Nat} {x : D}, Reps K G v d → d[i]? = some x → ∃ u, v[i]? = some u ∧ Rep K G u x
  | _, _, _, _, .nil, e => by simp at e
  | _, _, 0, _, .cons h _, e => by simp at e; subst e; exact ⟨_, rfl, h⟩
  | _, _, i + 1, _, .cons _ r, e => by
    obtain ⟨u, h1, h2⟩ := Reps.get (i := i) r (by simpa using e)
    exact ⟨u, by simpa using h1, h2⟩
theorem Reps.get' : ∀ {v : List V} {d : List D} {i : Nat} {u : V}, Reps K G v d → v[i]? = some u → ∃ x, d[i]? = some x ∧ Rep K G u x
  | _, _, _, _, .nil, e => by simp at e
  | _, _, 0, _, .cons h _, e => by simp at e; subst e; exact ⟨_, rfl, h⟩
  | _, _, i + 1, _, .cons _ r, e => by
    obtain ⟨x, h1, h2⟩ := Reps.get' (i := i) r (by simpa using e)
    exact ⟨x, by simpa using h1, h2⟩
theorem Reps.take : ∀ {v : List V} {d : List D} (n : Nat), Reps K G v d → Reps K G (v.take n) (d.take n)
  | _, _, 0, _ => by simp; exact .nil
  | _, _, _ + 1, .nil => .nil
  | _, _, n + 1, .cons h r => .cons h (Reps.take n r)
theorem Reps.drop : ∀ {v : List V} {d : List D} (n : Nat), Reps K G v d → Reps K G (v.drop n) (d.drop n)
  | _, _, 0, r => by simpa using r
  | _, _, _ + 1, .nil => .nil
  | _, _, n + 1, .cons _ r => Reps.drop n r
theorem RepK.length : ∀ {v : List (Key × V)} {d : List (Key × D)}, RepK K G v d → v.length = d.length
  | _, _, .nil => rfl
  | _, _, .cons _ _ r => by simp [RepK.length r]
theorem RepT.length : ∀ {v : List (List Key × V)} {d : List (List Key × D)}, RepT K G v d → v.length = d.length
  | _, _, .nil => rfl
  | _, _, .cons _ r => by simp [RepT.length r]
end

/-- what the layer knows of the program at hand: the written part, the class of plans, the classes of errors -/
structure Gm where
  K : PySem.W.Frag
  C : Addr
  xv : Xn → Value

def RepS (K : PySem.W.Frag) (G : Hp) (cs : List Addr) (v : V) : Sv → Prop
  | .im d => Rep K G v d
  | .rf n => ∃ a, cs[n]? = some a ∧ v = .ref a
inductive RepF (K : PySem.W.Frag) (G : Hp) (cs : List Addr) : List (Str × V) → List (Str × Sv) → Prop
  | nil : RepF K G cs [] []
  | cons {k : Str} {v : V} {vs : List (Str × V)} {d : Sv} {ds : List (Str × Sv)} (h : RepS K G cs v d) (r : RepF K G cs vs ds) : RepF K G cs ((k, v) :: vs) ((k, d) :: ds)
inductive RepA (K : PySem.W.Frag) (G : Hp) (cs : List Addr) : List V → List Sv → Prop
  | nil : RepA K G cs [] []
  | cons {v : V} {vs : List V} {d : Sv} {ds : List Sv} (h : RepS K G cs v d) (r : RepA K G cs vs ds) : RepA K G cs (v :: vs) (d :: ds)
inductive RepV (K : PySem.W.Frag) (G : Hp) (cs : List Addr) : List (Key × V) → List (Key × Sv) → Prop
  | nil : RepV K G cs [] []
  | cons {k : Key} {v : V} {vs : List (Key × V)} {d : Sv} {ds : List (Key × Sv)} (g : goodK k) (h : RepS K G cs v d) (r : RepV K G cs vs ds) : RepV K G cs ((k, v) :: vs) ((k, d) :: ds)
def RepC (Γ : Gm) (G : Hp) (cs : List Addr) (H : Hp) (a : Addr) : Cell → Prop
  | .lst xs => G a = none ∧ xs.length ≤ maxN ∧ ∃ vs, H a = some (.lst vs) ∧ Reps Γ.K G vs xs
  | .dk xs => G a = none ∧ xs.length ≤ maxN ∧ ∃ vs, H a = some (.dK vs) ∧ RepK Γ.K G vs xs
  | .dt xs => G a = none ∧ xs.length ≤ maxN ∧ ∃ vs, H a = some (.dT vs) ∧ RepT Γ.K G vs xs
  | .fz d => Rep Γ.K G (.ref a) d ∧ ∃ o, G a = some o
  | .ob fs => G a = none ∧ ∃ dx vs, H a = some (.ins Γ.C dx vs) ∧ RepF Γ.K G cs vs fs
  | .dv xs => G a = none ∧ xs.length ≤ maxN ∧ ∃ vs, H a = some (.dK vs) ∧ RepV Γ.K G cs vs xs
structure RelM (Γ : Gm) (G : Hp) (cs : List Addr) (μ : Mu) (H : Hp) : Prop where
  sub : Same G H
  len : cs.length = μ.length
  nd : cs.Nodup
  cell : ∀ (n : Nat) a c, cs[n]? = some a → μ[n]? = some c → RepC Γ G cs H a c
/-- the slots -/
def RelS (K : PySem.W.Frag) (G : Hp) (cs : List Addr) (ρ : Rho) (σ : L2.St) : Prop :=
  ∀ (i : Nat) sv, ρ[i]? = some (some sv) → ∃ v, σ[i]? = some (some v) ∧ RepS K G cs v sv
structure Rel (Γ : Gm) (G : Hp) (cs : List Addr) (ρ : Rho) (μ : Mu) (σ : L2.St) (H : Hp) : Prop where
  m : RelM Γ G cs μ H
  s : RelS Γ.K G cs ρ σ
  l : σ.length = ρ.length
structure Grow (G : Hp) (cs : List Addr) (H G' : Hp) (cs' : List Addr) (H' : Hp) : Prop where
  ex : Same G G'
  pre : cs <+: cs'
  fr : ∀ a o, H a = some o → a ∉ cs → H' a = some o
  n1 : ∀ a, H a ≠ none → a ∉ cs → a ∉ cs'
  n2 : ∀ a, H a ≠ none → a ∉ cs → G a = none → G' a = none

section
variable {Γ : Gm} {K : PySem.W.Frag} {G G' G1 G2 H H' H1 H2 : Hp} {cs cs' cs1 cs2 : List Addr} {μ μ' : Mu} {ρ : Rho} {σ : L2.St}
theorem Grow.refl : Grow G cs H G cs H := ⟨.refl _, List.prefix_refl _, fun _ _ h _ => h, fun _ _ h => h, fun _ _ _ h => h⟩
theorem Grow.trans (a : Grow G cs H G1 cs1 H1) (b : Grow G1 cs1 H1 G2 cs2 H2) : Grow G cs H G2 cs2 H2 := by
  have st : ∀ x, H x ≠ none → x ∉ cs → H1 x ≠ none := fun x h1 h2 => by
    cases e : H x with
    | none => exact absurd e h1
    | some o => rw [a.fr x o e h2]; exact fun z => nomatch z
  refine ⟨a.ex.trans b.ex, a.pre.trans b.pre, fun x o h n => b.fr x o (a.fr x o h n) (a.n1 x (by rw [h]; exact fun z => nomatch z) n), fun x h n => b.n1 x (st x h n) (a.n1 x h n), fun x h n g => b.n2 x (st x h n) (a.n1 x h n) (a.n2 x h n g)⟩
theorem pre_get {cs cs' : List Addr} (p : cs <+: cs') {n : Nat} {a : Addr} (h : cs[n]? = some a) : cs'[n]? = some a := by
  obtain ⟨t, rfl⟩ := p
  have hl := (List.getElem?_eq_some_iff.mp h).1
  rw [List.getElem?_append_left hl]; exact h
theorem RepS.mono (e : Same G G') (p : cs <+: cs') {v : V} {s : Sv} (h : RepS K G cs v s) : RepS K G' cs' v s := by
  cases s with
  | im d => exact Rep.mono e h
  | rf n => obtain ⟨a, h1, h2⟩ := h; exact ⟨a, pre_get p h1, h2⟩
theorem RepA.mono (e : Same G G') (p : cs <+: cs') : ∀ {v : List V} {s : List Sv}, RepA K G cs v s → RepA K G' cs' v s
  | _, _, .nil => .nil
  | _, _, .cons h r => .cons (RepS.mono e p h) (RepA.mono e p r)
theorem RepF.mono (e : Same G G') (p : cs <+: cs') : ∀ {v : List (Str × V)} {s : List (Str × Sv)}, RepF K G cs v s → RepF K G' cs' v s
  | _, _, .nil => .nil
  | _, _, .cons h r => .cons (RepS.mono e p h) (RepF.mono e p r)
theorem RepV.mono (e : Same G G') (p : cs <+: cs') : ∀ {v : List (Key × V)} {s : List (Key × Sv)}, RepV K G cs v s → RepV K G' cs' v s
  | _, _, .nil => .nil
  | _, _, .cons g h r => .cons g (RepS.mono e p h) (RepV.mono e p r)
theorem RelS.mono (e : Same G G') (p : cs <+: cs') (h : RelS K G cs ρ σ) : RelS K G' cs' ρ σ := fun i sv q => by
  obtain ⟨v, h1, h2⟩ := h i sv q
  exact ⟨v, h1, h2.mono e p⟩
theorem Rel.grow (h : Rel Γ G cs ρ μ σ H) (g : Grow G cs H G' cs' H') (m : RelM Γ G' cs' μ' H') : Rel Γ G' cs' ρ μ' σ H' := ⟨m, h.s.mono g.ex g.pre, h.l⟩
theorem RelM.cell_some (h : RelM Γ G cs μ H) {n : Nat} {a : Addr} (e : cs[n]? = some a) : ∃ o, H a = some o := by
  have hl := (List.getElem?_eq_some_iff.mp e).1
  obtain ⟨c, hc⟩ : ∃ c, μ[n]? = some c := ⟨_, List.getElem?_eq_getElem (h.len ▸ hl)⟩
  have r := h.cell n a c e hc
  cases c with
  | lst xs => obtain ⟨_, _, vs, q, _⟩ := r; exact ⟨_, q⟩
  | dk xs => obtain ⟨_, _, vs, q, _⟩ := r; exact ⟨_, q⟩
  | dt xs => obtain ⟨_, _, vs, q, _⟩ := r; exact ⟨_, q⟩
  | fz d => obtain ⟨_, o, q⟩ := r; exact ⟨_, h.sub _ _ q⟩
  | ob fs => obtain ⟨_, dx, vs, q, _⟩ := r; exact ⟨_, q⟩
  | dv xs => obtain ⟨_, _, vs, q, _⟩ := r; exact ⟨_, q⟩
theorem RelM.fresh (h : RelM Γ G cs μ H) {p : Addr} (hp : H p = none) : p ∉ cs := fun hm => by
  obtain ⟨n, e⟩ := List.getElem?_of_mem hm
  obtain ⟨o, q⟩ := h.cell_some e
  rw [hp] at q; cases q
theorem RelM.freshG (h : RelM Γ G cs μ H) {p : Addr} (hp : H p = none) : G p = none := h.sub.free hp
theorem RepC.new {p a : Addr} {o : HO} {c : Cell} (hp : H p = none) (gp : G p = none) (h : RepC Γ G cs H a c) (hh : a ≠ p) : RepC Γ (upd G p o) cs (upd H p o) a c := by
  have e : Same G (upd G p o) := fun b u q => by rw [upd_ne (ne_of_none q gp)]; exact q
  cases c with
  | lst xs => obtain ⟨g, n, vs, q, r⟩ := h; exact ⟨by rw [upd_ne hh]; exact g, n, vs, by rw [upd_ne hh]; exact q, r.mono e⟩
  | dk xs => obtain ⟨g, n, vs, q, r⟩ := h; exact ⟨by rw [upd_ne hh]; exact g, n, vs, by rw [upd_ne hh]; exact q, r.mono e⟩
  | dt xs => obtain ⟨g, n, vs, q, r⟩ := h; exact ⟨by rw [upd_ne hh]; exact g, n, vs, by rw [upd_ne hh]; exact q, r.mono e⟩
  | fz d => obtain ⟨r, o', q⟩ := h; exact ⟨r.mono e, o', e _ _ q⟩
  | ob fs => obtain ⟨g, dx, vs, q, r⟩ := h; exact ⟨by rw [upd_ne hh]; exact g, dx, vs, by rw [upd_ne hh]; exact q, r.mono e (List.prefix_refl _)⟩
  | dv xs => obtain ⟨g, n, vs, q, r⟩ := h; exact ⟨by rw [upd_ne hh]; exact g, n, vs, by rw [upd_ne hh]; exact q, r.mono e (List.prefix_refl _)⟩
/-- a new object that is data -/
theorem RelM.imm (h : RelM Γ G cs μ H) {p : Addr} (hp : H p = none) (o : HO) : Grow G cs H (upd G p o) cs (upd H p o) ∧ RelM Γ (upd G p o) cs μ (upd H p o) := by
  have gp := h.freshG hp
  have np := h.fresh hp
  refine ⟨⟨fun b u q => by rw [upd_ne (ne_of_none q gp)]; exact q, List.prefix_refl _, fun a u q _ => by rw [upd_ne (ne_of_none q hp)]; exact q, fun _ _ z => z, fun a q _ g => ?_⟩, ⟨fun b u q => ?_, h.len, h.nd, fun n a c e1 e2 => ?_⟩⟩
  · have : a ≠ p := fun z => q (by rw [z]; exact hp)
    rw [upd_ne this]; exact g
  · by_cases hb : b = p
    · subst hb; rw [upd_same] at q ⊢; exact q
    · rw [upd_ne hb] at q ⊢; exact h.sub _ _ q
  · have : a ≠ p := fun z => np (by rw [← z]; exact List.mem_of_getElem? e1)
    exact (h.cell n a c e1 e2).new hp gp this
/-- a new object that is a cell -/
theorem RelM.push (h : RelM Γ G cs μ H) {p : Addr} (hp : H p = none) (o : HO) (c : Cell) (hc : RepC Γ G (cs ++ [p]) (upd H p o) p c) : Grow G cs H G (cs ++ [p]) (upd H p o) ∧ RelM Γ G (cs ++ [p]) (μ ++ [c]) (upd H p o) := by
  have gp := h.freshG hp
  have np := h.fresh hp
  refine ⟨⟨.refl _, List.prefix_append _ _, fun a u q _ => by rw [upd_ne (ne_of_none q hp)]; exact q, fun a q n z => ?_, fun a _ _ g => g⟩, ⟨fun b u q => ?_, by simp [h.len], ?_, fun n a c' e1 e2 => ?_⟩⟩
  · rcases List.mem_append.mp z with z | z
    · exact n z
    · have : a = p := by simpa using z
      exact q (by rw [this]; exact hp)
  · rw [upd_ne (ne_of_none q gp)]; exact h.sub _ _ q
  · rw [List.nodup_append]
    refine ⟨h.nd, by simp, fun a ha b hb z => np ?_⟩
    have e : b = p := by simpa using hb
    rw [← e, ← z]
    exact ha
  · by_cases hn : n < cs.length
    · rw [List.getElem?_append_left hn] at e1
      rw [List.getElem?_append_left (h.len ▸ hn)] at e2
      have na : a ≠ p := fun z => np (by rw [← z]; exact List.mem_of_getElem? e1)
      have r := h.cell n a c' e1 e2
      cases c' with
      | lst xs => obtain ⟨g, k, vs, q, r⟩ := r; exact ⟨g, k, vs, by rw [upd_ne na]; exact q, r⟩
      | dk xs => obtain ⟨g, k, vs, q, r⟩ := r; exact ⟨g, k, vs, by rw [upd_ne na]; exact q, r⟩
      | dt xs => obtain ⟨g, k, vs, q, r⟩ := r; exact ⟨g, k, vs, by rw [upd_ne na]; exact q, r⟩
      | fz d => exact r
      | ob fs => obtain ⟨g, dx, vs, q, r⟩ := r; exact ⟨g, dx, vs, by rw [upd_ne na]; exact q, r.mono (.refl _) (List.prefix_append _ _)⟩
      | dv xs => obtain ⟨g, k, vs, q, r⟩ := r; exact ⟨g, k, vs, by rw [upd_ne na]; exact q, r.mono (.refl _) (List.prefix_append _ _)⟩
    · have e3 : n = cs.length := by
        have := (List.getElem?_eq_some_iff.mp e1).1
        simp at this; omega
      subst e3
      rw [List.getElem?_append_right (Nat.le_refl _)] at e1
      rw [h.len, List.getElem?_append_right (Nat.le_refl _)] at e2
      simp at e1 e2
      subst e1; subst e2
      exact hc
/-- a cell is changed -/
theorem RelM.put (h : RelM Γ G cs μ H) {n : Nat} {a : Addr} (e : cs[n]? = some a) (o : HO) (c : Cell) (g : G a = none) (hc : RepC Γ G cs (upd H a o) a c) : Grow G cs H G cs (upd H a o) ∧ RelM Γ G cs (μ.set n c) (upd H a o) := by
  have hm := List.mem_of_getElem? e
  refine ⟨⟨.refl _, List.prefix_refl _, fun b u q nb => ?_, fun _ _ z => z, fun _ _ _ z => z⟩, ⟨fun b u q => ?_, by simp [h.len], h.nd, fun m b c' e1 e2 => ?_⟩⟩
  · rw [upd_ne (fun z => nb (by rw [z]; exact hm))]; exact q
  · rw [upd_ne (ne_of_none q g)]; exact h.sub _ _ q
  · by_cases hmn : m = n
    · subst hmn
      rw [e] at e1; cases e1
      have hl := (List.getElem?_eq_some_iff.mp e).1
      rw [List.getElem?_set_self (h.len ▸ hl)] at e2
      cases e2
      exact hc
    · rw [List.getElem?_set_ne (Ne.symm hmn)] at e2
      have nb : b ≠ a := fun z => hmn (by
        subst z
        have l1 := (List.getElem?_eq_some_iff.mp e1)
        have l2 := (List.getElem?_eq_some_iff.mp e)
        exact (List.getElem_inj h.nd).mp (l1.2.trans l2.2.symm))
      have r := h.cell m b c' e1 e2
      cases c' with
      | lst xs => obtain ⟨g, k, vs, q, r⟩ := r; exact ⟨g, k, vs, by rw [upd_ne nb]; exact q, r⟩
      | dk xs => obtain ⟨g, k, vs, q, r⟩ := r; exact ⟨g, k, vs, by rw [upd_ne nb]; exact q, r⟩
      | dt xs => obtain ⟨g, k, vs, q, r⟩ := r; exact ⟨g, k, vs, by rw [upd_ne nb]; exact q, r⟩
      | fz d => exact r
      | ob fs => obtain ⟨g, dx, vs, q, r⟩ := r; exact ⟨g, dx, vs, by rw [upd_ne nb]; exact q, r⟩
      | dv xs => obtain ⟨g, k, vs, q, r⟩ := r; exact ⟨g, k, vs, by rw [upd_ne nb]; exact q, r⟩
/-- a cell's content becomes data -/
theorem RelM.freeze (h : RelM Γ G cs μ H) {n : Nat} {a : Addr} {o : HO} {d : D} (e : cs[n]? = some a) (g : G a = none) (ho : H a = some o) (hd : Rep Γ.K (upd G a o) (.ref a) d) : Grow G cs H (upd G a o) cs H ∧ RelM Γ (upd G a o) cs (μ.set n (.fz d)) H := by
  have hm := List.mem_of_getElem? e
  have ex : Same G (upd G a o) := fun b u q => by rw [upd_ne (ne_of_none q g)]; exact q
  refine ⟨⟨ex, List.prefix_refl _, fun _ _ q _ => q, fun _ _ z => z, fun b q nb z => ?_⟩, ⟨fun b u q => ?_, by simp [h.len], h.nd, fun m b c' e1 e2 => ?_⟩⟩
  · rw [upd_ne (fun y => nb (by rw [y]; exact hm))]; exact z
  · by_cases hb : b = a
    · subst hb; rw [upd_same] at q; cases q; exact ho
    · rw [upd_ne hb] at q; exact h.sub _ _ q
  · by_cases hmn : m = n
    · subst hmn
      rw [e] at e1; cases e1
      have hl := (List.getElem?_eq_some_iff.mp e).1
      rw [List.getElem?_set_self (h.len ▸ hl)] at e2
      cases e2
      exact ⟨hd, o, upd_same⟩
    · rw [List.getElem?_set_ne (Ne.symm hmn)] at e2
      have nb : b ≠ a := fun z => hmn (by
        subst z
        have l1 := (List.getElem?_eq_some_iff.mp e1)
        have l2 := (List.getElem?_eq_some_iff.mp e)
        exact (List.getElem_inj h.nd).mp (l1.2.trans l2.2.symm))
      have r := h.cell m b c' e1 e2
      cases c' with
      | lst xs => obtain ⟨g, k, vs, q, r⟩ := r; exact ⟨by rw [upd_ne nb]; exact g, k, vs, q, r.mono ex⟩
      | dk xs => obtain ⟨g, k, vs, q, r⟩ := r; exact ⟨by rw [upd_ne nb]; exact g, k, vs, q, r.mono ex⟩
      | dt xs => obtain ⟨g, k, vs, q, r⟩ := r; exact ⟨by rw [upd_ne nb]; exact g, k, vs, q, r.mono ex⟩
      | fz d => obtain ⟨r, o', q⟩ := r; exact ⟨r.mono ex, o', ex _ _ q⟩
      | ob fs => obtain ⟨g, dx, vs, q, r⟩ := r; exact ⟨by rw [upd_ne nb]; exact g, dx, vs, q, r.mono ex (List.prefix_refl _)⟩
      | dv xs => obtain ⟨g, k, vs, q, r⟩ := r; exact ⟨by rw [upd_ne nb]; exact g, k, vs, q, r.mono ex (List.prefix_refl _)⟩

/-! ### look, frz -/
theorem look_ok (h : RelM Γ G cs μ H) {v : V} {s : Sv} {d : D} (r : RepS Γ.K G cs v s) (e : look μ s = some d) : Rep Γ.K H v d := by
  cases s with
  | im d' => simp only [look] at e; cases e; exact Rep.mono h.sub r
  | rf n =>
    obtain ⟨a, ha, rfl⟩ := r
    simp only [look] at e
    split at e <;> first | (cases e; done) | skip
    · rename_i xs hx; cases e; obtain ⟨_, k, vs, q, r⟩ := h.cell n a _ ha hx; exact .lst q k (r.mono h.sub)
    · rename_i xs hx; cases e; obtain ⟨_, k, vs, q, r⟩ := h.cell n a _ ha hx; exact .dk q k (r.mono h.sub)
    · rename_i xs hx; cases e; obtain ⟨_, k, vs, q, r⟩ := h.cell n a _ ha hx; exact .dt q k (r.mono h.sub)
    · rename_i xs hx; cases e; obtain ⟨r, _⟩ := h.cell n a _ ha hx; exact r.mono h.sub
theorem frz_ok (h : RelM Γ G cs μ H) {v : V} {s : Sv} {d : D} (r : RepS Γ.K G cs v s) (e : frz μ s = some (d, μ')) : ∃ G', Grow G cs H G' cs H ∧ RelM Γ G' cs μ' H ∧ Rep Γ.K G' v d := by
  cases s with
  | im d' => simp only [frz] at e; cases e; exact ⟨G, .refl, h, r⟩
  | rf n =>
    obtain ⟨a, ha, rfl⟩ := r
    simp only [frz] at e
    split at e <;> first | (cases e; done) | skip
    · rename_i xs hx; cases e; obtain ⟨g, k, vs, q, r⟩ := h.cell n a _ ha hx
      have ex : Same G (upd G a (.lst vs)) := fun b u z => by rw [upd_ne (ne_of_none z g)]; exact z
      have hd : Rep Γ.K (upd G a (.lst vs)) (.ref a) (.lst xs) := .lst upd_same k (r.mono ex)
      obtain ⟨g1, g2⟩ := h.freeze ha g q hd
      exact ⟨_, g1, g2, hd⟩
    · rename_i xs hx; cases e; obtain ⟨g, k, vs, q, r⟩ := h.cell n a _ ha hx
      have ex : Same G (upd G a (.dK vs)) := fun b u z => by rw [upd_ne (ne_of_none z g)]; exact z
      have hd : Rep Γ.K (upd G a (.dK vs)) (.ref a) (.dk xs) := .dk upd_same k (r.mono ex)
      obtain ⟨g1, g2⟩ := h.freeze ha g q hd
      exact ⟨_, g1, g2, hd⟩
    · rename_i xs hx; cases e; obtain ⟨g, k, vs, q, r⟩ := h.cell n a _ ha hx
      have ex : Same G (upd G a (.dT vs)) := fun b u z => by rw [upd_ne (ne_of_none z g)]; exact z
      have hd : Rep Γ.K (upd G a (.dT vs)) (.ref a) (.dt xs) := .dt upd_same k (r.mono ex)
      obtain ⟨g1, g2⟩ := h.freeze ha g q hd
      exact ⟨_, g1, g2, hd⟩
    · rename_i xs hx; cases e; obtain ⟨r, _⟩ := h.cell n a _ ha hx; exact ⟨G, .refl, h, r⟩
end
end SP

/-! SPc: the readings that an evaluator's function induces, and how they are put together. -/
namespace SP
open PySem L2

/-- as data, its own object in the state, what it holds in the ground -/
inductive RepL (K : PySem.W.Frag) (G H : Hp) : V → D → Prop
  | non : RepL K G H .non .non
  | bl (b : Bool) : RepL K G H (.bl b) (.bl b)
  | int (i : Int) : RepL K G H (.int i) (.int i)
  | str (s : Str) (h : goodS s) : RepL K G H (.str s) (.str s)
  | tup {a : Addr} {vs : List V} {ds : List D} (h : H a = some (.tup vs)) (n : ds.length ≤ maxN) (r : Reps K G vs ds) : RepL K G H (.ref a) (.tup ds)
  | lst {a : Addr} {vs : List V} {ds : List D} (h : H a = some (.lst vs)) (n : ds.length ≤ maxN) (r : Reps K G vs ds) : RepL K G H (.ref a) (.lst ds)
  | dk {a : Addr} {vs : List (Key × V)} {ds : List (Key × D)} (h : H a = some (.dK vs)) (n : ds.length ≤ maxN) (r : RepK K G vs ds) : RepL K G H (.ref a) (.dk ds)
  | dt {a : Addr} {vs : List (List Key × V)} {ds : List (List Key × D)} (h : H a = some (.dT vs)) (n : ds.length ≤ maxN) (r : RepT K G vs ds) : RepL K G H (.ref a) (.dt ds)
  | scr {a : Addr} {ns : List Int} (h : SqL K H a (ns.map V.int)) (n : ns.length ≤ maxN) : RepL K G H (.ref a) (.scr ns)

def Post {α β : Type} (Γ : Gm) (rep : Hp → List Addr → β → α → Prop) (E : Xn → Option Addr → Hp → Prop) (G : Hp) (cs : List Addr) (H : Hp) (r : R α) (Q : β → Hp → Prop) : Prop := match r with
  | .ok a μ' => ∀ (G' : Hp) (cs' : List Addr) (H' : Hp) (v : β), Grow G cs H G' cs' H' → RelM Γ G' cs' μ' H' → rep G' cs' v a → Q v H'
  | .ex c μ' => ∀ (G' : Hp) (cs' : List Addr) (H' : Hp), Grow G cs H G' cs' H' → RelM Γ G' cs' μ' H' → E c none H'
  | .no => False
def PostS (Γ : Gm) (W : WX) (D : Ends) (G : Hp) (cs : List Addr) (H : Hp) (o : O) : Prop := match o with
  | .nx ρ' μ' => ∀ (G' : Hp) (cs' : List Addr) (H' : Hp) (σ' : L2.St), Grow G cs H G' cs' H' → Rel Γ G' cs' ρ' μ' σ' H' → D.nx σ' H'
  | .bk ρ' μ' => ∀ (G' : Hp) (cs' : List Addr) (H' : Hp) (σ' : L2.St), Grow G cs H G' cs' H' → Rel Γ G' cs' ρ' μ' σ' H' → D.bk σ' H'
  | .ct ρ' μ' => ∀ (G' : Hp) (cs' : List Addr) (H' : Hp) (σ' : L2.St), Grow G cs H G' cs' H' → Rel Γ G' cs' ρ' μ' σ' H' → D.ct σ' H'
  | .rt v μ' => ∀ (G' : Hp) (cs' : List Addr) (H' : Hp) (u : V), Grow G cs H G' cs' H' → RelM Γ G' cs' μ' H' → RepS Γ.K G' cs' u v → D.rt u H'
  | .ex c ρ' μ' => ∀ (G' : Hp) (cs' : List Addr) (H' : Hp) (σ' : L2.St), Grow G cs H G' cs' H' → Rel Γ G' cs' ρ' μ' σ' H' → W (Γ.xv c) none σ' H'
  | .no => False
/-- a new object, in no cell and not yet data -/
def PostF (Γ : Gm) (E : Xn → Option Addr → Hp → Prop) (G : Hp) (cs : List Addr) (H : Hp) (r : R Cell) (Q : VK) : Prop := match r with
  | .ok c μ' => ∀ (G' : Hp) (cs' : List Addr) (H' : Hp) (p : Addr), Grow G cs H G' cs' H' → RelM Γ G' cs' μ' H' → H p = none → p ∉ cs' → RepC Γ G' cs' H' p c → Q (.ref p) H'
  | .ex c μ' => ∀ (G' : Hp) (cs' : List Addr) (H' : Hp), Grow G cs H G' cs' H' → RelM Γ G' cs' μ' H' → E c none H'
  | .no => False
def wX (Γ : Gm) (W : WX) (σ : L2.St) : Xn → Option Addr → Hp → Prop := fun c d H => W (Γ.xv c) d σ H
def wE (Γ : Gm) (W : WX) (f : Ev) : TE := fun σ H Q => ∃ G cs ρ μ, Rel Γ G cs ρ μ σ H ∧ Post Γ (RepS Γ.K) (wX Γ W σ) G cs H (f ρ μ) Q
def wF (Γ : Gm) (W : WX) (f : EvF) : TE := fun σ H Q => ∃ G cs ρ μ, Rel Γ G cs ρ μ σ H ∧ PostF Γ (wX Γ W σ) G cs H (f ρ μ) Q
def wA (Γ : Gm) (W : WX) (f : EvA) : TA := fun σ H Q => ∃ G cs ρ μ, Rel Γ G cs ρ μ σ H ∧ Post Γ (RepA Γ.K) (wX Γ W σ) G cs H (f ρ μ) Q
def wT (Γ : Gm) (W : WX) (f : EvT) : TT := fun σ H Q => ∃ G cs ρ μ, Rel Γ G cs ρ μ σ H ∧ Post Γ (fun _ _ b c => b = c) (wX Γ W σ) G cs H (f ρ μ) Q
def wS (Γ : Gm) (W : WX) (f : EvS) : TS := fun D σ H => ∃ G cs ρ μ, Rel Γ G cs ρ μ σ H ∧ PostS Γ W D G cs H (f ρ μ)

section
variable {Γ : Gm} {W : WX} {α β γ δ : Type} {rep : Hp → List Addr → β → α → Prop} {rep2 : Hp → List Addr → δ → γ → Prop} {E : Xn → Option Addr → Hp → Prop} {G G' H H' : Hp} {cs cs' : List Addr} {Q : β → Hp → Prop}
theorem look_L {μ : Mu} (h : RelM Γ G cs μ H) {v : V} {s : Sv} {d : D} (r : RepS Γ.K G cs v s) (e : look μ s = some d) : RepL Γ.K G H v d := by
  cases s with
  | im d' =>
    have r : Rep Γ.K G v d := by
      simp only [look] at e
      cases e
      exact r
    cases r with
    | non => exact .non
    | bl b => exact .bl b
    | int i => exact .int i
    | str s h => exact .str s h
    | tup q n z => exact .tup (h.sub _ _ q) n z
    | lst q n z => exact .lst (h.sub _ _ q) n z
    | dk q n z => exact .dk (h.sub _ _ q) n z
    | dt q n z => exact .dt (h.sub _ _ q) n z
    | scr q n => exact .scr (h.sub.seq q) n
  | rf n =>
    obtain ⟨a, ha, rfl⟩ := r
    simp only [look] at e
    split at e <;> first | (cases e; done) | skip
    · rename_i xs hx; cases e; obtain ⟨_, k, vs, q, r⟩ := h.cell n a _ ha hx; exact .lst q k r
    · rename_i xs hx; cases e; obtain ⟨_, k, vs, q, r⟩ := h.cell n a _ ha hx; exact .dk q k r
    · rename_i xs hx; cases e; obtain ⟨_, k, vs, q, r⟩ := h.cell n a _ ha hx; exact .dt q k r
    · rename_i xs hx; cases e; obtain ⟨r, _⟩ := h.cell n a _ ha hx
      cases r with
      | tup q n z => exact .tup (h.sub _ _ q) n z
      | lst q n z => exact .lst (h.sub _ _ q) n z
      | dk q n z => exact .dk (h.sub _ _ q) n z
      | dt q n z => exact .dt (h.sub _ _ q) n z
      | scr q n => exact .scr (h.sub.seq q) n
theorem RepL.toRep (e : Same G H) {v : V} {d : D} (h : RepL Γ.K G H v d) : Rep Γ.K H v d := by
  cases h with
  | non => exact .non
  | bl b => exact .bl b
  | int i => exact .int i
  | str s h => exact .str s h
  | tup q n r => exact .tup q n (r.mono e)
  | lst q n r => exact .lst q n (r.mono e)
  | dk q n r => exact .dk q n (r.mono e)
  | dt q n r => exact .dt q n (r.mono e)
  | scr q n => exact .scr q n
theorem Post.mono {r : R α} (h : Post Γ rep E G cs H r Q) (g : Grow G cs H G' cs' H') : Post Γ rep E G' cs' H' r Q := by
  cases r with
  | ok a μ => exact fun G2 cs2 H2 v g2 m q => h G2 cs2 H2 v (g.trans g2) m q
  | ex c μ => exact fun G2 cs2 H2 g2 m => h G2 cs2 H2 (g.trans g2) m
  | no => exact h
theorem PostS.mono {D : Ends} {o : O} (h : PostS Γ W D G cs H o) (g : Grow G cs H G' cs' H') : PostS Γ W D G' cs' H' o := by
  cases o with
  | nx ρ μ => exact fun G2 cs2 H2 v g2 m => h G2 cs2 H2 v (g.trans g2) m
  | bk ρ μ => exact fun G2 cs2 H2 v g2 m => h G2 cs2 H2 v (g.trans g2) m
  | ct ρ μ => exact fun G2 cs2 H2 v g2 m => h G2 cs2 H2 v (g.trans g2) m
  | rt v μ => exact fun G2 cs2 H2 v g2 m q => h G2 cs2 H2 v (g.trans g2) m q
  | ex c ρ μ => exact fun G2 cs2 H2 σ g2 m => h G2 cs2 H2 σ (g.trans g2) m
  | no => exact h
theorem Grow.was (g : Grow G cs H G' cs' H') {μ : Mu} (m : RelM Γ G' cs' μ H') {p : Addr} (h : H' p = none) : H p = none := by
  cases e : H p with
  | none => rfl
  | some o =>
    by_cases hm : p ∈ cs
    · obtain ⟨t, rfl⟩ := g.pre
      exact absurd (List.mem_append_left _ hm) (m.fresh h)
    · rw [g.fr p o e hm] at h; cases h
theorem PostF.mono {r : R Cell} {Q : VK} {μ : Mu} (h : PostF Γ E G cs H r Q) (g : Grow G cs H G' cs' H') (m : RelM Γ G' cs' μ H') : PostF Γ E G' cs' H' r Q := by
  cases r with
  | ok a μ => exact fun G2 cs2 H2 p g2 m2 hp q r => h G2 cs2 H2 p (g.trans g2) m2 (g.was m hp) q r
  | ex c μ => exact fun G2 cs2 H2 g2 m => h G2 cs2 H2 (g.trans g2) m
  | no => exact h
theorem PostF.bind {r : R α} {k : α → Mu → R Cell} {Q2 : VK} {rep : Hp → List Addr → β → α → Prop} (h : PostF Γ E G cs H (r.bind k) Q2) :
    Post Γ rep E G cs H r fun v H1 => ∃ G1 cs1 a μ1, Grow G cs H G1 cs1 H1 ∧ RelM Γ G1 cs1 μ1 H1 ∧ rep G1 cs1 v a ∧ PostF Γ E G1 cs1 H1 (k a μ1) Q2 := by
  cases r with
  | ok a μ => exact fun G1 cs1 H1 v g m q => ⟨G1, cs1, a, μ, g, m, q, PostF.mono (show PostF Γ E G cs H (k a μ) Q2 from h) g m⟩
  | ex c μ => exact h
  | no => exact h
theorem PostF.imp {r : R Cell} {Q Q2 : VK} (h : PostF Γ E G cs H r Q) (i : ∀ v H, Q v H → Q2 v H) : PostF Γ E G cs H r Q2 := by
  cases r with
  | ok a μ => exact fun G1 cs1 H1 v g m a b q => i _ _ (h G1 cs1 H1 v g m a b q)
  | ex c μ => exact h
  | no => exact h
/-- what the first part gives is handed on -/
theorem Post.bind {r : R α} {k : α → Mu → R γ} {Q2 : δ → Hp → Prop} {rep : Hp → List Addr → β → α → Prop} (h : Post Γ rep2 E G cs H (r.bind k) Q2) :
    Post Γ rep E G cs H r fun v H1 => ∃ G1 cs1 a μ1, Grow G cs H G1 cs1 H1 ∧ RelM Γ G1 cs1 μ1 H1 ∧ rep G1 cs1 v a ∧ Post Γ rep2 E G1 cs1 H1 (k a μ1) Q2 := by
  cases r with
  | ok a μ => exact fun G1 cs1 H1 v g m q => ⟨G1, cs1, a, μ, g, m, q, Post.mono (show Post Γ rep2 E G cs H (k a μ) Q2 from h) g⟩
  | ex c μ => exact h
  | no => exact h
theorem Post.imp {r : R α} {Q2 : β → Hp → Prop} (h : Post Γ rep E G cs H r Q) (i : ∀ v H, Q v H → Q2 v H) : Post Γ rep E G cs H r Q2 := by
  cases r with
  | ok a μ => exact fun G1 cs1 H1 v g m q => i _ _ (h G1 cs1 H1 v g m q)
  | ex c μ => exact h
  | no => exact h
theorem Post.now {a : α} {μ : Mu} {v : β} (h : Post Γ rep E G cs H (.ok a μ) Q) (m : RelM Γ G cs μ H) (q : rep G cs v a) : Q v H := h G cs H v .refl m q
theorem Post.at {a : α} {μ : Mu} {v : β} (h : Post Γ rep E G cs H (.ok a μ) Q) (g : Grow G cs H G' cs' H') (m : RelM Γ G' cs' μ H') (q : rep G' cs' v a) : Q v H' := h G' cs' H' v g m q
end

section
variable {X : Cx} {Γ : Gm} {W : WX}
theorem pe_imp {e : Expr} {t t' : TE} (h : PE X e t) (i : ∀ σ H Q, t' σ H Q → t σ H Q) : PE X e t' := ⟨fun pins s σ H Q I w => h.run pins s σ H Q I (i σ H Q w)⟩
theorem pt_imp {e : Expr} {t t' : TT} (h : PT X e t) (i : ∀ σ H Q, t' σ H Q → t σ H Q) : PT X e t' := ⟨fun pins s σ H Q I w => h.run pins s σ H Q I (i σ H Q w)⟩
theorem pw_imp {e : Expr} {t t' : TT} (h : PW X e t) (i : ∀ σ H Q, t' σ H Q → t σ H Q) : PW X e t' := ⟨fun wh pins s σ H Q I w => h.run wh pins s σ H Q I (i σ H Q w)⟩
theorem pa_imp {e : List Expr} {t t' : TA} (h : PA X e t) (i : ∀ σ H Q, t' σ H Q → t σ H Q) : PA X e t' := ⟨fun pos pins s σ H Q I w => h.run pos pins s σ H Q I (i σ H Q w)⟩
theorem ps_imp {e : Stmt} {t t' : TS} (h : PS X e t) (i : ∀ D σ H, t' D σ H → t D σ H) : PS X e t' := ⟨fun pins s σ H Q I w => h.run pins s σ H Q I (i Q σ H w)⟩
theorem pss_imp {e : List Stmt} {t t' : TS} (h : PSs X e t) (i : ∀ D σ H, t' D σ H → t D σ H) : PSs X e t' := ⟨fun pins s σ H Q I w => h.run pins s σ H Q I (i Q σ H w)⟩
theorem op_or {f : Value → Value → Sem Value} {r1 r2 : R2} (h1 : OpR X f r1) (h2 : OpR X f r2) : OpR X f fun x y H Q => r1 x y H Q ∨ r2 x y H Q :=
  fun pins s σ H x y v u Q I rx ry h => h.elim (h1 pins s σ H x y v u Q I rx ry) (h2 pins s σ H x y v u Q I rx ry)
theorem cr_or {f : Value} {r1 r2 : List V → Hp → VK → Prop} (h1 : CallR X f r1) (h2 : CallR X f r2) : CallR X f fun x H Q => r1 x H Q ∨ r2 x H Q :=
  fun pins s σ H xs us Q I r h => h.elim (h1 pins s σ H xs us Q I r) (h2 pins s σ H xs us Q I r)
theorem mt_or {f : String} {r1 r2 : V → List V → Hp → VK → Prop} (h1 : MtR X f r1) (h2 : MtR X f r2) : MtR X f fun x xs H Q => r1 x xs H Q ∨ r2 x xs H Q :=
  fun pins s σ H x xs v us Q I rx r h => h.elim (h1 pins s σ H x xs v us Q I rx r) (h2 pins s σ H x xs v us Q I rx r)

/-! ### expressions -/
theorem d_var (i : Nat) {x : Str} {pos : Pos} (hN : X.N[i]? = some x := by rfl) (hv : Vis X.env.scope x := by first | exact Or.inl rfl | exact Or.inr (Or.inl rfl) | exact Or.inr (Or.inr rfl)) (hd : (x == ("__debug__" : Str)) = false := by decide)
    (hcd : (x == ("__classdict__" : Str)) = false := by decide) : PE X (.Name x pos) (wE Γ W (dVar i)) := by
  refine pe_imp (pe_var hN hv hd hcd) fun σ H Q h => ?_
  obtain ⟨G, cs, ρ, μ, r, p⟩ := h
  unfold dVar at p
  split at p
  · rename_i v hv
    obtain ⟨u, h1, h2⟩ := r.s i v hv
    exact ⟨u, h1, p.now r.m h2⟩
  · exact p.elim
theorem d_c {e : Expr} {v : V} {d : D} (h : PE X e (tC v)) (r : ∀ K G, Rep K G v d) : PE X e (wE Γ W (dC d)) := by
  refine pe_imp h fun σ H Q h => ?_
  obtain ⟨G, cs, ρ, μ, q, p⟩ := h
  exact p.now q.m (r _ _)
theorem d_int {i j pos} : PE X (.Constant (.int i) j pos) (wE Γ W (dC (.int i))) := d_c pe_int fun _ _ => .int i
theorem d_bl {b j pos} : PE X (.Constant (.bool b) j pos) (wE Γ W (dC (.bl b))) := d_c pe_bl fun _ _ => .bl b
theorem d_non {j pos} : PE X (.Constant .none j pos) (wE Γ W (dC .non)) := d_c pe_non fun _ _ => .non
theorem d_str {x j pos} (h : goodS x := by constructor <;> decide +kernel) : PE X (.Constant (.str x) j pos) (wE Γ W (dC (.str x))) := d_c pe_str fun _ _ => .str x h
theorem d_globI {x : Str} {i : Int} {u : Value} {pos : Pos} (hg : Gl X x) (hm : X.mg x = some u) (r : RelV (.int i) u) (hd : (x == ("__debug__" : Str)) = false := by decide) : PE X (.Name x pos) (wE Γ W (dC (.int i))) := d_c (pe_glob hg hm r hd) fun _ _ => .int i
theorem d_globS {x : Str} {z : Str} {u : Value} {pos : Pos} (hg : Gl X x) (hm : X.mg x = some u) (r : RelV (.str z) u) (h : goodS z := by constructor <;> decide +kernel) (hd : (x == ("__debug__" : Str)) = false := by decide) : PE X (.Name x pos) (wE Γ W (dC (.str z))) := d_c (pe_glob hg hm r hd) fun _ _ => .str z h
/-- from a first part to what is made of it -/
theorem wE.of {te : TE} {f : Ev} {k : Sv → Mu → R Sv} {g : Ev} (hg : ∀ ρ μ, g ρ μ = (f ρ μ).bind k) {σ : L2.St} {H : Hp} {Q : VK} (h : wE Γ W g σ H Q) {Q1 : VK}
    (i : ∀ G cs μ v H1 a, RelM Γ G cs μ H1 → RepS Γ.K G cs v a → Post Γ (RepS Γ.K) (wX Γ W σ) G cs H1 (k a μ) Q → Q1 v H1) : wE Γ W f σ H Q1 := by
  obtain ⟨G, cs, ρ, μ, r, p⟩ := h
  rw [hg] at p
  exact ⟨G, cs, ρ, μ, r, (Post.bind (rep := RepS Γ.K) p).imp fun v H1 ⟨G1, cs1, a, μ1, g1, m1, q1, p1⟩ => i G1 cs1 μ1 v H1 a m1 q1 p1⟩
theorem d_frz {e : Expr} {f : Ev} (h : PE X e (wE Γ W f)) : PE X e (wE Γ W (dV f)) := by
  refine pe_imp h fun σ H Q h => ?_
  refine wE.of (Γ := Γ) (te := wE Γ W f) (fun _ _ => rfl) h fun G cs μ v H1 a m q p => ?_
  split at p
  · rename_i d μ2 e
    obtain ⟨G', g, m', r'⟩ := frz_ok m q e
    exact p.at g m' r'
  · exact p.elim
theorem RelM.adoptI {G H : Hp} {cs : List Addr} {μ : Mu} (m : RelM Γ G cs μ H) {p : Addr} {o : HO} (np : p ∉ cs) (gp : G p = none) (ho : H p = some o) : RelM Γ (upd G p o) cs μ H := by
  have ex : Same G (upd G p o) := fun b u q => by rw [upd_ne (ne_of_none q gp)]; exact q
  refine ⟨fun b u q => ?_, m.len, m.nd, fun n a c e1 e2 => ?_⟩
  · by_cases hb : b = p
    · subst hb; rw [upd_same] at q; cases q; exact ho
    · rw [upd_ne hb] at q; exact m.sub _ _ q
  · have nb : a ≠ p := fun z => np (by rw [← z]; exact List.mem_of_getElem? e1)
    have r := m.cell n a c e1 e2
    cases c with
    | lst xs => obtain ⟨g, k, vs, q, r⟩ := r; exact ⟨by rw [upd_ne nb]; exact g, k, vs, q, r.mono ex⟩
    | dk xs => obtain ⟨g, k, vs, q, r⟩ := r; exact ⟨by rw [upd_ne nb]; exact g, k, vs, q, r.mono ex⟩
    | dt xs => obtain ⟨g, k, vs, q, r⟩ := r; exact ⟨by rw [upd_ne nb]; exact g, k, vs, q, r.mono ex⟩
    | fz d => obtain ⟨r, o', q⟩ := r; exact ⟨r.mono ex, o', ex _ _ q⟩
    | ob fs => obtain ⟨g, dx, vs, q, r⟩ := r; exact ⟨by rw [upd_ne nb]; exact g, dx, vs, q, r.mono ex (List.prefix_refl _)⟩
    | dv xs => obtain ⟨g, k, vs, q, r⟩ := r; exact ⟨by rw [upd_ne nb]; exact g, k, vs, q, r.mono ex (List.prefix_refl _)⟩
theorem RepC.ext {G H : Hp} {cs : List Addr} {a p : Addr} {c : Cell} (r : RepC Γ G cs H a c) : RepC Γ G (cs ++ [p]) H a c := by
  cases c with
  | ob fs => obtain ⟨g, dx, vs, q, r⟩ := r; exact ⟨g, dx, vs, q, r.mono (.refl _) (List.prefix_append _ _)⟩
  | dv xs => obtain ⟨g, k, vs, q, r⟩ := r; exact ⟨g, k, vs, q, r.mono (.refl _) (List.prefix_append _ _)⟩
  | lst xs => exact r
  | dk xs => exact r
  | dt xs => exact r
  | fz d => exact r
theorem RelM.adoptN {G H : Hp} {cs : List Addr} {μ : Mu} (m : RelM Γ G cs μ H) {p : Addr} {c : Cell} (np : p ∉ cs) (hc : RepC Γ G cs H p c) : RelM Γ G (cs ++ [p]) (μ ++ [c]) H := by
  refine ⟨m.sub, by simp [m.len], ?_, fun n a c' e1 e2 => ?_⟩
  · rw [List.nodup_append]
    refine ⟨m.nd, by simp, fun a ha b hb z => np ?_⟩
    have e : b = p := by simpa using hb
    rw [← e, ← z]
    exact ha
  · by_cases hn : n < cs.length
    · rw [List.getElem?_append_left hn] at e1
      rw [List.getElem?_append_left (m.len ▸ hn)] at e2
      exact (m.cell n a c' e1 e2).ext
    · have e3 : n = cs.length := by
        have := (List.getElem?_eq_some_iff.mp e1).1
        simp at this; omega
      subst e3
      rw [List.getElem?_append_right (Nat.le_refl _)] at e1
      rw [m.len, List.getElem?_append_right (Nat.le_refl _)] at e2
      simp at e1 e2
      subst e1; subst e2
      exact hc.ext
theorem wI_of {f : EvF} {σ : L2.St} {H : Hp} {Q : VK} (h : wE Γ W (dI f) σ H Q) : wF Γ W f σ H Q := by
  obtain ⟨G, cs, ρ, μ, rl, po⟩ := h
  refine ⟨G, cs, ρ, μ, rl, ?_⟩
  unfold dI at po
  cases q : f ρ μ with
  | ok c μ1 =>
    rw [q] at po
    have po : Post Γ (RepS Γ.K) (wX Γ W σ) G cs H (match c.dat with | some d => .ok (.im d) μ1 | none => .no) Q := po
    intro G' cs' H' p g m hp np rc
    have key : ∀ {d : D} {o : HO}, c.dat = some d → G' p = none → H' p = some o → Rep Γ.K (upd G' p o) (.ref p) d → Q (.ref p) H' := fun {d o} e1 gp ho rd => by
      rw [e1] at po
      have ex : Same G' (upd G' p o) := fun b u q => by rw [upd_ne (ne_of_none q gp)]; exact q
      refine po.at (v := V.ref p) ⟨g.ex.trans ex, g.pre, g.fr, g.n1, fun a h1 h2 h3 => ?_⟩ (m.adoptI np gp ho) rd
      rw [upd_ne (fun z => h1 (by rw [z]; exact hp))]
      exact g.n2 a h1 h2 h3
    have mono : ∀ {o : HO}, G' p = none → Same G' (upd G' p o) := fun {o} gp b u q => by rw [upd_ne (ne_of_none q gp)]; exact q
    cases c with
    | lst xs => obtain ⟨gp, n, vs, ho, r⟩ := rc; exact key rfl gp ho (.lst upd_same n (r.mono (mono gp)))
    | dk xs => obtain ⟨gp, n, vs, ho, r⟩ := rc; exact key rfl gp ho (.dk upd_same n (r.mono (mono gp)))
    | dt xs => obtain ⟨gp, n, vs, ho, r⟩ := rc; exact key rfl gp ho (.dt upd_same n (r.mono (mono gp)))
    | fz d => exact po.elim
    | ob fs => exact po.elim
    | dv xs => exact po.elim
  | ex c μ1 => rw [q] at po; exact po
  | no => rw [q] at po; exact po
theorem d_imm {e : Expr} {f : EvF} (h : PE X e (wF Γ W f)) : PE X e (wE Γ W (dI f)) := pe_imp h fun _ _ _ => wI_of
theorem wN_of {f : EvF} {σ : L2.St} {H : Hp} {Q : VK} (h : wE Γ W (dN f) σ H Q) : wF Γ W f σ H Q := by
  obtain ⟨G, cs, ρ, μ, rl, po⟩ := h
  refine ⟨G, cs, ρ, μ, rl, ?_⟩
  unfold dN at po
  cases q : f ρ μ with
  | ok c μ1 =>
    rw [q] at po
    have po : Post Γ (RepS Γ.K) (wX Γ W σ) G cs H (.ok (.rf μ1.length) (μ1 ++ [c])) Q := po
    intro G' cs' H' p g m hp np rc
    refine po.at (v := V.ref p) ⟨g.ex, g.pre.trans (List.prefix_append _ _), g.fr, fun a h1 h2 h3 => ?_, g.n2⟩ (m.adoptN np rc) ⟨p, by rw [← m.len]; simp, rfl⟩
    rcases List.mem_append.mp h3 with z | z
    · exact g.n1 a h1 h2 z
    · have : a = p := by simpa using z
      exact h1 (by rw [this]; exact hp)
  | ex c μ1 => rw [q] at po; exact po
  | no => rw [q] at po; exact po
theorem d_new {e : Expr} {f : EvF} (h : PE X e (wF Γ W f)) : PE X e (wE Γ W (dN f)) := pe_imp h fun _ _ _ => wN_of
/-- a one-place primitive that makes a new object -/
def PrF (Γ : Gm) (p : Sv → Mu → R Cell) (r : V → Hp → VK → Prop) : Prop := ∀ (E : Xn → Option Addr → Hp → Prop) G cs μ H x sa Q, RelM Γ G cs μ H → RepS Γ.K G cs x sa → PostF Γ E G cs H (p sa μ) Q → r x H Q
theorem wF.of {f : Ev} {k : Sv → Mu → R Cell} {g : EvF} (hg : ∀ ρ μ, g ρ μ = (f ρ μ).bind k) {σ : L2.St} {H : Hp} {Q : VK} (h : wF Γ W g σ H Q) {Q1 : VK}
    (i : ∀ G cs μ v H1 a, RelM Γ G cs μ H1 → RepS Γ.K G cs v a → PostF Γ (wX Γ W σ) G cs H1 (k a μ) Q → Q1 v H1) : wE Γ W f σ H Q1 := by
  obtain ⟨G, cs, ρ, μ, r, p⟩ := h
  rw [hg] at p
  exact ⟨G, cs, ρ, μ, r, (PostF.bind (rep := RepS Γ.K) p).imp fun v H1 ⟨G1, cs1, a, μ1, g1, m1, q1, p1⟩ => i G1 cs1 μ1 v H1 a m1 q1 p1⟩
theorem d_op1 {op : UnaryOp} {r : V → Hp → VK → Prop} {a : Expr} {pos : Pos} {fa : Ev} {p : Sv → Mu → R Sv} (ho : UnR X (unaryOp op) r) (ha : PE X a (wE Γ W fa))
    (hr : ∀ E G cs μ H x sa Q, RelM Γ G cs μ H → RepS Γ.K G cs x sa → Post Γ (RepS Γ.K) E G cs H (p sa μ) Q → r x H Q) : PE X (.UnaryOp op a pos) (wE Γ W (dOp1 p fa)) := by
  refine pe_imp (pe_un ho ha) fun σ H Q h => ?_
  exact wE.of (te := wE Γ W fa) (fun _ _ => rfl) h fun G cs μ v H1 a m q p => hr _ G cs μ H1 v a Q m q p
/-- what a two-place primitive is worth at a value rule -/
def Pr2 (Γ : Gm) (p : Sv → Sv → Mu → R Sv) (r : R2) : Prop := ∀ (E : Xn → Option Addr → Hp → Prop) G cs μ H x y sa sb Q, RelM Γ G cs μ H → RepS Γ.K G cs x sa → RepS Γ.K G cs y sb → Post Γ (RepS Γ.K) E G cs H (p sa sb μ) Q → r x y H Q
def Pr1 (Γ : Gm) (p : Sv → Mu → R Sv) (r : V → Hp → VK → Prop) : Prop := ∀ (E : Xn → Option Addr → Hp → Prop) G cs μ H x sa Q, RelM Γ G cs μ H → RepS Γ.K G cs x sa → Post Γ (RepS Γ.K) E G cs H (p sa μ) Q → r x H Q
theorem wE.two {fa fb : Ev} {p : Sv → Sv → Mu → R Sv} {r : R2} (hr : Pr2 Γ p r) {σ : L2.St} {H : Hp} {Q : VK} (h : wE Γ W (dOp2 p fa fb) σ H Q) : tOp r (wE Γ W fa) (wE Γ W fb) σ H Q := by
  obtain ⟨G, cs, ρ, μ, rl, po⟩ := h
  have q := (Post.bind (rep := RepS Γ.K) (show Post Γ (RepS Γ.K) (wX Γ W σ) G cs H ((fa ρ μ).bind _) Q from po))
  refine ⟨G, cs, ρ, μ, rl, q.imp fun x H1 ⟨G1, cs1, a, μ1, g1, m1, q1, p1⟩ => ?_⟩
  refine ⟨G1, cs1, ρ, μ1, rl.grow g1 m1, (Post.bind (rep := RepS Γ.K) p1).imp fun y H2 ⟨G2, cs2, b, μ2, g2, m2, q2, p2⟩ => ?_⟩
  exact hr _ G2 cs2 μ2 H2 x y a b Q m2 (q1.mono g2.ex g2.pre) q2 p2
theorem d_bin {op : Operator} {r : R2} {a b : Expr} {pos : Pos} {fa fb : Ev} {p : Sv → Sv → Mu → R Sv} (ho : OpR X (binaryOp op) r) (hr : Pr2 Γ p r) (ha : PE X a (wE Γ W fa)) (hb : PE X b (wE Γ W fb)) :
    PE X (.BinOp a op b pos) (wE Γ W (dOp2 p fa fb)) := pe_imp (pe_op ho ha hb) fun σ H Q h => wE.two hr h
theorem d_cmpr {op : CmpOp} {r : R2} {a b : Expr} {pos : Pos} {fa fb : Ev} {p : Sv → Sv → Mu → R Sv} (ho : OpR X (compareOp op) r) (hr : Pr2 Γ p r) (ha : PE X a (wE Γ W fa)) (hb : PE X b (wE Γ W fb)) (hm : behindInMarks op b = false) :
    PE X (.Compare a [op] [b] pos) (wE Γ W (dOp2 p fa fb)) := pe_imp (pe_cmpR ho ha hb hm) fun σ H Q h => wE.two hr h
/-- an expression as a test -/
theorem wT.of {f : Ev} {σ : L2.St} {H : Hp} {Q : Bool → Hp → Prop} (h : wT Γ W (dTest f) σ H Q) : wE Γ W f σ H fun x H1 => ∃ c, x = .bl c ∧ Q c H1 := by
  obtain ⟨G, cs, ρ, μ, rl, po⟩ := h
  have q := Post.bind (rep := RepS Γ.K) (show Post Γ (fun _ _ b c => b = c) (wX Γ W σ) G cs H ((f ρ μ).bind _) Q from po)
  refine ⟨G, cs, ρ, μ, rl, q.imp fun x H1 ⟨G1, cs1, a, μ1, g1, m1, q1, p1⟩ => ?_⟩
  split at p1
  · have q1 : Rep Γ.K G1 x (.bl _) := q1
    cases q1
    exact ⟨_, rfl, p1.now m1 rfl⟩
  · exact p1.elim
theorem d_tcmp {op : CmpOp} {a b : Expr} {pos : Pos} {r : R2} {p : Sv → Sv → Mu → R Sv} {fa fb : Ev} (ho : OpR X (compareOp op) r) (hr : Pr2 Γ p r) (ha : PE X a (wE Γ W fa)) (hb : PE X b (wE Γ W fb)) (hm : behindInMarks op b = false) :
    PT X (.Compare a [op] [b] pos) (wT Γ W (dTest (dOp2 p fa fb))) := by
  refine pt_imp (pt_cmpR ho ha hb hm) fun σ H Q h => ?_
  have q := wT.of h
  exact wE.two hr q
theorem d_test {e : Expr} {f : Ev} (h : PE X e (wE Γ W f)) (he : ∀ whole, isTrue e X.env whole = (do let v ← whole; standAt e.pos; holding [v] (truthy v)) := by intro _; rfl) : PT X e (wT Γ W (dTest f)) :=
  pt_imp (pt_val h he) fun σ H Q h => wT.of h
theorem wT.bind {f : EvT} {k : Bool → EvT} {σ : L2.St} {H : Hp} {Q : Bool → Hp → Prop} (h : wT Γ W (fun ρ μ => (f ρ μ).bind fun b μ1 => k b ρ μ1) σ H Q) : wT Γ W f σ H fun b H1 => wT Γ W (k b) σ H1 Q := by
  obtain ⟨G, cs, ρ, μ, rl, po⟩ := h
  refine ⟨G, cs, ρ, μ, rl, (Post.bind (rep := fun _ _ b c => b = c) po).imp fun b H1 ⟨G1, cs1, a, μ1, g1, m1, q1, p1⟩ => ?_⟩
  subst q1
  exact ⟨G1, cs1, ρ, μ1, rl.grow g1 m1, p1⟩
theorem wT.pure {b : Bool} {σ : L2.St} {H : Hp} {Q : Bool → Hp → Prop} (h : wT Γ W (fun _ μ => .ok b μ) σ H Q) : Q b H := by
  obtain ⟨G, cs, ρ, μ, rl, po⟩ := h
  exact po.now rl.m rfl
theorem wT.and {f g : EvT} {σ : L2.St} {H : Hp} {Q : Bool → Hp → Prop} (h : wT Γ W (dAndT f g) σ H Q) : tAnd (wT Γ W f) (wT Γ W g) σ H Q := by
  have q := wT.bind (k := fun b => if b then g else fun _ μ => .ok false μ) (f := f) (Γ := Γ) (W := W) (σ := σ) (H := H) (Q := Q) (by
    obtain ⟨G, cs, ρ, μ, rl, po⟩ := h
    refine ⟨G, cs, ρ, μ, rl, ?_⟩
    have e : dAndT f g ρ μ = (f ρ μ).bind fun b μ1 => (if b = true then g else fun _ μ => .ok false μ) ρ μ1 := by
      unfold dAndT
      cases f ρ μ with
      | ok b μ1 => cases b <;> rfl
      | ex c μ1 => rfl
      | no => rfl
    rw [e] at po; exact po)
  obtain ⟨G, cs, ρ, μ, rl, po⟩ := q
  refine ⟨G, cs, ρ, μ, rl, po.imp fun b H1 w => ?_⟩
  cases b with
  | true => exact w
  | false => exact wT.pure w
theorem wT.or {f g : EvT} {σ : L2.St} {H : Hp} {Q : Bool → Hp → Prop} (h : wT Γ W (dOrT f g) σ H Q) : tOr (wT Γ W f) (wT Γ W g) σ H Q := by
  have q := wT.bind (k := fun b => if b then (fun _ μ => .ok true μ) else g) (f := f) (Γ := Γ) (W := W) (σ := σ) (H := H) (Q := Q) (by
    obtain ⟨G, cs, ρ, μ, rl, po⟩ := h
    refine ⟨G, cs, ρ, μ, rl, ?_⟩
    have e : dOrT f g ρ μ = (f ρ μ).bind fun b μ1 => (if b = true then (fun _ μ => .ok true μ) else g) ρ μ1 := by
      unfold dOrT
      cases f ρ μ with
      | ok b μ1 => cases b <;> rfl
      | ex c μ1 => rfl
      | no => rfl
    rw [e] at po; exact po)
  obtain ⟨G, cs, ρ, μ, rl, po⟩ := q
  refine ⟨G, cs, ρ, μ, rl, po.imp fun b H1 w => ?_⟩
  cases b with
  | true => exact wT.pure w
  | false => exact w
theorem d_and {a b : Expr} {rest : List Expr} {pos : Pos} {f g : EvT} (ha : PT X a (wT Γ W f)) (hb : PW X (.BoolOp .And (b :: rest) pos) (wT Γ W g)) : PW X (.BoolOp .And (a :: b :: rest) pos) (wT Γ W (dAndT f g)) := pw_imp (pw_and ha hb) fun σ H Q h => wT.and h
theorem d_and1 {b : Expr} {pos : Pos} {g : EvT} (hb : PT X b (wT Γ W g)) : PW X (.BoolOp .And [b] pos) (wT Γ W g) := pw_and1 hb
theorem d_or {a b : Expr} {rest : List Expr} {pos : Pos} {f g : EvT} (ha : PT X a (wT Γ W f)) (hb : PW X (.BoolOp .Or (b :: rest) pos) (wT Γ W g)) : PW X (.BoolOp .Or (a :: b :: rest) pos) (wT Γ W (dOrT f g)) := pw_imp (pw_or ha hb) fun σ H Q h => wT.or h
theorem d_or1 {b : Expr} {pos : Pos} {g : EvT} (hb : PT X b (wT Γ W g)) : PW X (.BoolOp .Or [b] pos) (wT Γ W g) := pw_or1 hb
theorem d_not {a : Expr} {pos : Pos} {f : EvT} (ha : PT X a (wT Γ W f)) : PT X (.UnaryOp .Not a pos) (wT Γ W (dNotT f)) := by
  refine pt_imp (pt_not ha) fun σ H Q h => ?_
  have q := wT.bind (k := fun b _ μ => .ok (!b) μ) h
  obtain ⟨G, cs, ρ, μ, rl, po⟩ := q
  exact ⟨G, cs, ρ, μ, rl, po.imp fun b H1 w => wT.pure w⟩
end
end SP

/-! SPd: primitives and their value rules. -/
namespace SP
open PySem L2

section
variable {Γ : Gm} {X : Cx} {W : WX}
theorem pr2_pure {g : D → D → Option D} {r : R2} (h : ∀ (G H : Hp) (x y : V) (d e q : D) (Q : VK), Same G H → RepL Γ.K G H x d → RepL Γ.K G H y e → g d e = some q → (∀ v, Rep Γ.K G v q → Q v H) → r x y H Q) : Pr2 Γ (p2 g) r := by
  intro E G cs μ H x y sa sb Q m ra rb p
  unfold p2 at p
  split at p
  · rename_i d e h1 h2
    split at p
    · rename_i q hq
      exact h G H x y d e q Q m.sub (look_L m ra h1) (look_L m rb h2) hq fun v rv => p.now m rv
    · exact p.elim
  · exact p.elim
theorem pr1_pure {g : D → Option D} {r : V → Hp → VK → Prop} (h : ∀ (G H : Hp) (x : V) (d q : D) (Q : VK), Same G H → RepL Γ.K G H x d → g d = some q → (∀ v, Rep Γ.K G v q → Q v H) → r x H Q) : Pr1 Γ (p1 g) r := by
  intro E G cs μ H x sa Q m ra p
  unfold p1 at p
  split at p
  · rename_i d h1
    split at p
    · rename_i q hq
      exact h G H x d q Q m.sub (look_L m ra h1) hq fun v rv => p.now m rv
    · exact p.elim
  · exact p.elim
theorem pr2_I {p : Int → Int → V} {g : D → D → Option D} {C : Int → Int → Prop} (h : ∀ d e q, g d e = some q → ∃ i j, d = .int i ∧ e = .int j ∧ C i j ∧ ∀ K G, Rep K G (p i j) q) : Pr2 Γ (p2 g) (rI C p) := by
  refine pr2_pure fun G H x y d e q Q s rx ry hq k => ?_
  obtain ⟨i, j, rfl, rfl, c, rq⟩ := h d e q hq
  cases rx; cases ry
  exact ⟨i, j, rfl, rfl, c, k _ (rq _ _)⟩
theorem pr2_I0 {p : Int → Int → V} {g : D → D → Option D} (h : ∀ d e q, g d e = some q → ∃ i j, d = .int i ∧ e = .int j ∧ ∀ K G, Rep K G (p i j) q) : Pr2 Γ (p2 g) (rI0 p) := by
  refine pr2_pure fun G H x y d e q Q s rx ry hq k => ?_
  obtain ⟨i, j, rfl, rfl, rq⟩ := h d e q hq
  cases rx; cases ry
  exact ⟨i, j, rfl, rfl, k _ (rq _ _)⟩

/-! ### sums, products, rests -/
def rPlus : R2 := fun x y H Q => rI0 (fun i j => .int (i + j)) x y H Q ∨ ((∃ i j, x = .str i ∧ y = .str j ∧ i.length + j.length ≤ sizeLine ∧ Q (.str (i ++ j)) H) ∨ rCat x y H Q)
theorem op_plus : OpR X (binaryOp .Add) rPlus := op_or op_add (op_or op_add_str op_cat)
theorem goodS_app {a b : Str} (ha : goodS a) (hb : goodS b) (h : a.length + b.length ≤ maxN) : goodS (a ++ b) := by
  have e : (a ++ b).cps = a.cps ++ b.cps := rfl
  refine ⟨?_, ?_⟩
  · show (a ++ b).cps.size ≤ maxN
    rw [e, Array.size_append]; exact h
  · rw [e, Array.all_append, ha.2, hb.2]; rfl
theorem pr_add : Pr2 Γ (p2 gAdd) rPlus := by
  intro E G cs μ H x y sa sb Q m ra rb p
  unfold p2 at p
  split at p
  · rename_i d e h1 h2
    split at p
    · rename_i q hq
      have r1 := look_L m ra h1
      have r2 := look_L m rb h2
      unfold gAdd at hq
      split at hq
      · cases hq; cases r1; cases r2
        exact .inl ⟨_, _, rfl, rfl, p.now m (.int _)⟩
      · split at hq
        · rename_i a b hl
          cases hq
          cases r1 with
          | str _ ga => cases r2 with
            | str _ gb => exact .inr (.inl ⟨_, _, rfl, rfl, Nat.le_trans hl maxN_le, p.now m (.str _ (goodS_app ga gb hl))⟩)
        · cases hq
      · split at hq
        · rename_i a b hl
          cases hq
          cases r1 with
          | lst ha na sa => cases r2 with
            | lst hb nb sb =>
              refine .inr (.inr ⟨_, _, _, _, rfl, rfl, ha, hb, by rw [sa.length, sb.length]; exact Nat.le_trans hl maxN_le, fun l hl' => ?_⟩)
              obtain ⟨g, m'⟩ := m.imm hl' (.lst (_ ++ _))
              exact p.at g m' (.lst upd_same (by rw [List.length_append]; exact hl) ((sa.append sb).mono g.ex))
        · cases hq
      · cases hq
    · exact p.elim
  · exact p.elim
theorem d_add {a b : Expr} {pos : Pos} {fa fb : Ev} (ha : PE X a (wE Γ W fa)) (hb : PE X b (wE Γ W fb)) : PE X (.BinOp a .Add b pos) (wE Γ W (dOp2 (p2 gAdd) fa fb)) := d_bin op_plus pr_add ha hb
theorem pr_sub : Pr2 Γ (p2 gSub) (rI0 fun i j => .int (i - j)) := pr2_I0 fun d e q h => by
  unfold gSub at h; split at h
  · cases h; exact ⟨_, _, rfl, rfl, fun _ _ => .int _⟩
  · cases h
theorem d_sub {a b : Expr} {pos : Pos} {fa fb : Ev} (ha : PE X a (wE Γ W fa)) (hb : PE X b (wE Γ W fb)) : PE X (.BinOp a .Sub b pos) (wE Γ W (dOp2 (p2 gSub) fa fb)) := d_bin op_sub pr_sub ha hb
theorem pr_mul : Pr2 Γ (p2 gMul) (rI CMul fun i j => .int (i * j)) := pr2_I fun d e q h => by
  unfold gMul at h; split at h
  · rename_i i j
    split at h
    · rename_i c
      cases h
      refine ⟨_, _, rfl, rfl, ?_, fun _ _ => .int _⟩
      unfold small64 at c
      have e : (2 : Int) ^ 64 = 18446744073709551616 := by decide
      show (-(2 ^ 64) < _ ∧ _ < 2 ^ 64) ∨ (-(2 ^ 64) < _ ∧ _ < 2 ^ 64)
      simp only [e]
      rcases Bool.or_eq_true .. ▸ c with c | c
      · have := Nat.le_of_ble_eq_true c
        left; omega
      · have := Nat.le_of_ble_eq_true c
        right; omega
    · cases h
  · cases h
theorem d_mul {a b : Expr} {pos : Pos} {fa fb : Ev} (ha : PE X a (wE Γ W fa)) (hb : PE X b (wE Γ W fb)) : PE X (.BinOp a .Mult b pos) (wE Γ W (dOp2 (p2 gMul) fa fb)) := d_bin op_mul pr_mul ha hb
theorem pr_mod : Pr2 Γ (p2 gMod) (rI (fun _ j => 0 < j) fun i j => .int (i % j)) := pr2_I fun d e q h => by
  unfold gMod at h; split at h
  · split at h
    · rename_i c; cases h; exact ⟨_, _, rfl, rfl, c, fun _ _ => .int _⟩
    · cases h
  · cases h
theorem d_mod {a b : Expr} {pos : Pos} {fa fb : Ev} (ha : PE X a (wE Γ W fa)) (hb : PE X b (wE Γ W fb)) : PE X (.BinOp a .Mod b pos) (wE Γ W (dOp2 (p2 gMod) fa fb)) := d_bin op_mod pr_mod ha hb
theorem pr_div : Pr2 Γ (p2 gDiv) (rI CDiv fun i j => .int (i / j)) := pr2_I fun d e q h => by
  unfold gDiv at h; split at h
  · split at h
    · rename_i c; cases h; exact ⟨_, _, rfl, rfl, c, fun _ _ => .int _⟩
    · cases h
  · cases h
theorem d_div {a b : Expr} {pos : Pos} {fa fb : Ev} (ha : PE X a (wE Γ W fa)) (hb : PE X b (wE Γ W fb)) : PE X (.BinOp a .FloorDiv b pos) (wE Γ W (dOp2 (p2 gDiv) fa fb)) := d_bin op_fdiv pr_div ha hb

/-! ### comparisons of whole numbers -/
theorem pr_cmp (f : Int → Int → Bool) : Pr2 Γ (p2 (gInt f)) (rI0 fun i j => .bl (f i j)) := pr2_I0 fun d e q h => by
  unfold gInt at h; split at h
  · cases h; exact ⟨_, _, rfl, rfl, fun _ _ => .bl _⟩
  · cases h
def gLt : D → D → Option D := gInt fun i j => decide (i < j)
def gLe : D → D → Option D := gInt fun i j => decide (i ≤ j)
def gGt : D → D → Option D := gInt fun i j => decide (j < i)
def gGe : D → D → Option D := gInt fun i j => decide (j ≤ i)

/-! ### is None -/
theorem pr_isN : Pr2 Γ (p2 gIsN) (fun x y H Q => y = .non ∧ Q (.bl (decide (x = .non))) H) := pr2_pure fun G H x y d e q Q s rx ry hq k => by
  unfold gIsN at hq
  split at hq <;> first | (cases hq; done) | (cases hq; cases rx <;> cases ry <;> exact ⟨rfl, k _ (.bl _)⟩)
theorem pr_notN : Pr2 Γ (p2 gNotN) (fun x y H Q => y = .non ∧ Q (.bl (!decide (x = .non))) H) := pr2_pure fun G H x y d e q Q s rx ry hq k => by
  unfold gNotN at hq
  split at hq
  · rename_i b hb
    cases hq
    unfold gIsN at hb
    split at hb <;> first | (cases hb; done) | (cases hb; cases rx <;> cases ry <;> exact ⟨rfl, k _ (.bl _)⟩)
  · cases hq

/-! ### == of data -/
mutual
theorem eqok_py : ∀ (n : Nat) (d : D), D.eqok n d = true → d.py.depth ≤ n ∧ (∀ K G v, Rep K G v d → d.py.canLay0 = true ∧ Dp K G v d.py)
  | n, .non, _ => ⟨by simp [D.py, PyData.depth], fun _ _ _ r => by cases r; exact ⟨rfl, .non⟩⟩
  | n, .bl b, _ => ⟨by simp [D.py, PyData.depth], fun _ _ _ r => by cases r; exact ⟨rfl, .bl _⟩⟩
  | n, .int i, _ => ⟨by simp [D.py, PyData.depth], fun _ _ _ r => by cases r; exact ⟨rfl, .int _⟩⟩
  | n, .str s, _ => ⟨by simp [D.py, PyData.depth], fun _ _ _ r => by cases r with | str _ h => exact ⟨h.2, .str _⟩⟩
  | n + 1, .tup xs, h => by
    obtain ⟨h1, h2⟩ := eqoks_py n xs h
    refine ⟨by simp only [D.py, PyData.depth]; omega, fun K G v r => ?_⟩
    cases r with
    | tup q k r =>
      obtain ⟨c, p⟩ := h2 K G _ r
      exact ⟨c, .tup (.of q) p⟩
  | n + 1, .lst xs, h => by
    obtain ⟨h1, h2⟩ := eqoks_py n xs h
    refine ⟨by simp only [D.py, PyData.depth]; omega, fun K G v r => ?_⟩
    cases r with
    | lst q k r =>
      obtain ⟨c, p⟩ := h2 K G _ r
      exact ⟨c, .lst (.of q) p⟩
  | 0, .tup _, h => by simp [D.eqok] at h
  | 0, .lst _, h => by simp [D.eqok] at h
  | 0, .dk _, h => by simp [D.eqok] at h
  | 0, .dt _, h => by simp [D.eqok] at h
  | 0, .scr _, h => by simp [D.eqok] at h
  | _ + 1, .dk _, h => by simp [D.eqok] at h
  | _ + 1, .dt _, h => by simp [D.eqok] at h
  | _ + 1, .scr _, h => by simp [D.eqok] at h
theorem eqoks_py : ∀ (n : Nat) (d : List D), D.eqoks n d = true → PyData.depthAll (D.pys d) ≤ n ∧ (∀ K G v, Reps K G v d → PyData.canLayAll0 (D.pys d) = true ∧ DpAll K G v (D.pys d))
  | n, [], _ => ⟨by simp [D.pys, PyData.depthAll], fun _ _ _ r => by cases r; exact ⟨rfl, .nil⟩⟩
  | n, d :: r, h => by
    simp only [D.eqoks, Bool.and_eq_true] at h
    obtain ⟨a1, a2⟩ := eqok_py n d h.1
    obtain ⟨b1, b2⟩ := eqoks_py n r h.2
    refine ⟨by simp only [D.pys, PyData.depthAll]; omega, fun K G v q => ?_⟩
    cases q with
    | cons q qs =>
      obtain ⟨c1, p1⟩ := a2 K G _ q
      obtain ⟨c2, p2⟩ := b2 K G _ qs
      refine ⟨by simp only [D.pys, PyData.canLayAll0, c1, c2]; rfl, .cons p1 p2⟩
end
theorem eqok_shaped {n : Nat} {d : D} (h : D.eqok n d = true) (hn : n ≤ 64) {K : PySem.W.Frag} {G : Hp} {v : V} (r : Rep K G v d) : Dp K G v d.py ∧ SeqAt.shaped d.py = true := by
  obtain ⟨h1, h2⟩ := eqok_py n d h
  obtain ⟨c, p⟩ := h2 K G v r
  refine ⟨p, ?_⟩
  unfold SeqAt.shaped
  rw [c, decide_eq_true (Nat.le_trans h1 hn)]; rfl
theorem pr_eq (hK : X.K = Γ.K) : Pr2 Γ (p2 gEq) (rEqD X.K) := pr2_pure fun G H x y d e q Q s rx ry hq k => by
  unfold gEq at hq
  split at hq
  · rename_i c
    cases hq
    simp only [Bool.and_eq_true] at c
    obtain ⟨a1, a2⟩ := eqok_shaped c.1 (by decide) (rx.toRep s)
    obtain ⟨b1, b2⟩ := eqok_shaped c.2 (by decide) (ry.toRep s)
    rw [← hK] at a1 b1
    exact ⟨_, _, a1, b1, a2, b2, k _ (.bl _)⟩
  · cases hq
theorem pr_ne (hK : X.K = Γ.K) : Pr2 Γ (p2 gNe) (rNeD X.K) := pr2_pure fun G H x y d e q Q s rx ry hq k => by
  unfold gNe at hq
  split at hq
  · rename_i c
    cases hq
    simp only [Bool.and_eq_true] at c
    obtain ⟨a1, a2⟩ := eqok_shaped c.1 (by decide) (rx.toRep s)
    obtain ⟨b1, b2⟩ := eqok_shaped c.2 (by decide) (ry.toRep s)
    rw [← hK] at a1 b1
    exact ⟨_, _, a1, b1, a2, b2, k _ (.bl _)⟩
  · cases hq

/-! ### items -/
theorem goodS_one {c : Nat} (h : c < 0x110000) : goodS ⟨#[c]⟩ := ⟨by show 1 ≤ maxN; decide, by simp [h]⟩
theorem goodS_mem {s : Str} (h : goodS s) {c : Nat} (hc : c ∈ s.cps.toList) : c < 0x110000 := by
  have q := h.2
  rw [Array.all_eq_true_iff_forall_mem] at q
  simpa using q c (by simpa using hc)
theorem atI_mem {α : Type} {xs : List α} {i : Int} {v : α} (h : atI xs i = some v) : v ∈ xs := by
  obtain ⟨j, _, h2, _⟩ := atI_get h
  exact List.mem_of_getElem? h2
theorem Reps.atI {K : PySem.W.Frag} {G : Hp} {vs : List V} {ds : List D} (r : Reps K G vs ds) {i : Int} {d : D} (h : L2.atI ds i = some d) : ∃ v, L2.atI vs i = some v ∧ Rep K G v d := by
  unfold L2.atI at h ⊢
  rw [r.length]
  cases e : ixN ds.length i with
  | none => rw [e] at h; cases h
  | some j =>
    rw [e] at h
    obtain ⟨v, h1, h2⟩ := r.get (show ds[j]? = some d from h)
    exact ⟨v, h1, h2⟩
theorem pr_ix (hK : X.K = Γ.K) : Pr2 Γ (p2 gIx) (rIx X.K) := pr2_pure fun G H x y d e q Q s rx ry hq k => by
  unfold gIx at hq
  split at hq
  · cases rx with
    | lst h n r =>
      cases ry
      obtain ⟨v, h1, h2⟩ := r.atI hq
      exact .inl ⟨_, _, _, v, rfl, rfl, .of h, h1, k v h2⟩
  · cases rx with
    | tup h n r =>
      cases ry
      obtain ⟨v, h1, h2⟩ := r.atI hq
      exact .inr (.inl ⟨_, _, _, v, rfl, rfl, .of h, h1, k v h2⟩)
  · cases rx with
    | scr h n =>
      cases ry
      rename_i ns i a
      cases e : L2.atI ns i with
      | none => rw [e] at hq; cases hq
      | some z =>
        rw [e] at hq
        cases hq
        refine .inl ⟨_, _, _, .int z, rfl, rfl, by rw [hK]; exact h, ?_, k _ (.int z)⟩
        unfold L2.atI at e ⊢
        rw [List.length_map]
        cases e2 : ixN ns.length i with
        | none => rw [e2] at e; cases e
        | some j =>
          rw [e2] at e
          show (ns.map V.int)[j]? = _
          rw [List.getElem?_map, show ns[j]? = some z from e]; rfl
  · cases rx with
    | str _ g =>
      cases ry
      rename_i z i
      cases e : L2.atI z.cps.toList i with
      | none => rw [e] at hq; cases hq
      | some c =>
        rw [e] at hq
        cases hq
        exact .inr (.inr ⟨_, _, c, rfl, rfl, Nat.le_trans g.1 maxN_le, e, k _ (.str _ (goodS_one (goodS_mem g (atI_mem e))))⟩)
  · cases hq
theorem d_ix {a b : Expr} {pos : Pos} {fa fb : Ev} (ha : PE X a (wE Γ W fa)) (hb : PE X b (wE Γ W fb)) (hs : PlainIx b := by exact fun _ _ => rfl) (hK : X.K = Γ.K := by rfl) :
    PE X (.Subscript a b pos) (wE Γ W (dOp2 (p2 gIx) fa fb)) := pe_imp (pe_ix ix_seq ha hb hs) fun σ H Q h => wE.two (pr_ix hK) h

/-! ### argument lists, displays -/
theorem d_anil : PA X [] (wA Γ W dANil) := pa_imp pa_nil fun σ H Q h => by
  obtain ⟨G, cs, ρ, μ, rl, po⟩ := h
  exact po.now rl.m .nil
theorem d_acons {e : Expr} {es : List Expr} {f : Ev} {g : EvA} (he : PE X e (wE Γ W f)) (hs : PA X es (wA Γ W g)) (hn : ∀ env, starEach (e :: es) env = (false, eval e env) :: starEach es env := by intro _; rfl) : PA X (e :: es) (wA Γ W (dACons f g)) := by
  refine pa_imp (pa_cons he hs (hn _)) fun σ H Q h => ?_
  obtain ⟨G, cs, ρ, μ, rl, po⟩ := h
  refine ⟨G, cs, ρ, μ, rl, (Post.bind (rep := RepS Γ.K) po).imp fun x H1 ⟨G1, cs1, a, μ1, g1, m1, q1, p1⟩ => ?_⟩
  refine ⟨G1, cs1, ρ, μ1, rl.grow g1 m1, (Post.bind (rep := RepA Γ.K) p1).imp fun y H2 ⟨G2, cs2, b, μ2, g2, m2, q2, p2⟩ => ?_⟩
  exact p2.now m2 (.cons (q1.mono g2.ex g2.pre) q2)
theorem datas_ok {K : PySem.W.Frag} {G : Hp} {cs : List Addr} : ∀ {vs : List V} {ss : List Sv} {ds : List D}, RepA K G cs vs ss → datas ss = some ds → Reps K G vs ds
  | _, _, _, .nil, e => by cases e; exact .nil
  | _, _, _, .cons (d := .im d) (ds := r) h t, e => by
    simp only [datas] at e
    cases q : datas r with
    | none => rw [q] at e; cases e
    | some ds => rw [q] at e; cases e; exact .cons h (datas_ok t q)
  | _, _, _, .cons (d := .rf n) h t, e => by cases e
theorem wA.of {f : EvA} {k : List Sv → Mu → R Sv} {g : Ev} (hg : ∀ ρ μ, g ρ μ = (f ρ μ).bind k) {σ : L2.St} {H : Hp} {Q : VK} (h : wE Γ W g σ H Q) {Q1 : List V → Hp → Prop}
    (i : ∀ G cs μ v H1 a, RelM Γ G cs μ H1 → RepA Γ.K G cs v a → Post Γ (RepS Γ.K) (wX Γ W σ) G cs H1 (k a μ) Q → Q1 v H1) : wA Γ W f σ H Q1 := by
  obtain ⟨G, cs, ρ, μ, r, p⟩ := h
  rw [hg] at p
  exact ⟨G, cs, ρ, μ, r, (Post.bind (rep := RepA Γ.K) p).imp fun v H1 ⟨G1, cs1, a, μ1, g1, m1, q1, p1⟩ => i G1 cs1 μ1 v H1 a m1 q1 p1⟩
theorem d_tup {es : List Expr} {k : Nat} {pos : Pos} {g : EvA} (h : PE X (.Tuple es k pos) (tTup (wA Γ W g))) : PE X (.Tuple es k pos) (wE Γ W (dTup g)) := by
  refine pe_imp h fun σ H Q h => ?_
  refine wA.of (fun _ _ => rfl) h fun G cs μ v H1 a m q p => ?_
  split at p
  · rename_i ds hd
    split at p
    · rename_i hl
      have r := datas_ok q hd
      refine ⟨by rw [r.length]; exact Nat.le_trans hl maxN_le, fun l hl' => ?_⟩
      obtain ⟨g, m'⟩ := m.imm hl' (.tup v)
      exact p.at g m' (.tup upd_same hl (r.mono g.ex))
    · exact p.elim
  · exact p.elim
theorem wA.ofF {f : EvA} {k : List Sv → Mu → R Cell} {g : EvF} (hg : ∀ ρ μ, g ρ μ = (f ρ μ).bind k) {σ : L2.St} {H : Hp} {Q : VK} (h : wF Γ W g σ H Q) {Q1 : List V → Hp → Prop}
    (i : ∀ G cs μ v H1 a, RelM Γ G cs μ H1 → RepA Γ.K G cs v a → PostF Γ (wX Γ W σ) G cs H1 (k a μ) Q → Q1 v H1) : wA Γ W f σ H Q1 := by
  obtain ⟨G, cs, ρ, μ, r, p⟩ := h
  rw [hg] at p
  exact ⟨G, cs, ρ, μ, r, (PostF.bind (rep := RepA Γ.K) p).imp fun v H1 ⟨G1, cs1, a, μ1, g1, m1, q1, p1⟩ => i G1 cs1 μ1 v H1 a m1 q1 p1⟩
/-- a new object laid at l -/
theorem PostF.lay {E : Xn → Option Addr → Hp → Prop} {G H : Hp} {cs : List Addr} {μ : Mu} {Q : VK} {c : Cell} (p : PostF Γ E G cs H (.ok c μ) Q) (m : RelM Γ G cs μ H) {l : Addr} (hl : H l = none) (o : HO) (rc : G l = none → Same G G → RepC Γ G cs (upd H l o) l c) : Q (.ref l) (upd H l o) := by
  have gp := m.freshG hl
  have np := m.fresh hl
  refine p G cs (upd H l o) l ⟨.refl _, List.prefix_refl _, fun a u q _ => by rw [upd_ne (ne_of_none q hl)]; exact q, fun _ _ z => z, fun _ _ _ z => z⟩ ?_ hl np (rc gp (.refl _))
  refine ⟨fun b u q => by rw [upd_ne (ne_of_none q gp)]; exact m.sub _ _ q, m.len, m.nd, fun n a c' e1 e2 => ?_⟩
  have na : a ≠ l := fun z => np (by rw [← z]; exact List.mem_of_getElem? e1)
  have r := m.cell n a c' e1 e2
  cases c' with
  | lst xs => obtain ⟨g, k, vs, q, r⟩ := r; exact ⟨g, k, vs, by rw [upd_ne na]; exact q, r⟩
  | dk xs => obtain ⟨g, k, vs, q, r⟩ := r; exact ⟨g, k, vs, by rw [upd_ne na]; exact q, r⟩
  | dt xs => obtain ⟨g, k, vs, q, r⟩ := r; exact ⟨g, k, vs, by rw [upd_ne na]; exact q, r⟩
  | fz d => exact r
  | ob fs => obtain ⟨g, dx, vs, q, r⟩ := r; exact ⟨g, dx, vs, by rw [upd_ne na]; exact q, r⟩
  | dv xs => obtain ⟨g, k, vs, q, r⟩ := r; exact ⟨g, k, vs, by rw [upd_ne na]; exact q, r⟩
theorem d_lst {es : List Expr} {pos : Pos} {g : EvA} (h : PE X (.List es pos) (tLst (wA Γ W g))) : PE X (.List es pos) (wF Γ W (dLst g)) := by
  refine pe_imp h fun σ H Q h => ?_
  refine wA.ofF (fun _ _ => rfl) h fun G cs μ v H1 a m q p => ?_
  split at p
  · rename_i ds hd
    split at p
    · rename_i hl
      have r := datas_ok q hd
      exact ⟨by rw [r.length]; exact Nat.le_trans hl maxN_le, fun l hl' => p.lay m hl' (.lst v) fun gp _ => ⟨gp, hl, v, upd_same, r⟩⟩
    · exact p.elim
  · exact p.elim
theorem d_dk {pos : Pos} : PE X (.Dict [] [] pos) (wF Γ W dDk) := pe_imp pe_dnewK fun σ H Q h l hl => by
  obtain ⟨G, cs, ρ, μ, rl, po⟩ := h
  exact PostF.lay po rl.m hl (.dK []) fun gp _ => ⟨gp, Nat.zero_le _, [], upd_same, .nil⟩
theorem d_dt {pos : Pos} : PE X (.Dict [] [] pos) (wF Γ W dDt) := pe_imp pe_dnewT fun σ H Q h l hl => by
  obtain ⟨G, cs, ρ, μ, rl, po⟩ := h
  exact PostF.lay po rl.m hl (.dT []) fun gp _ => ⟨gp, Nat.zero_le _, [], upd_same, .nil⟩
end
end SP

/-! SPe: statements, loops, comprehensions, calls, defs. -/
namespace SP
open PySem L2

abbrev W0 : WX := fun _ _ _ _ => False
section
variable {Γ : Gm} {X : Cx} {W : WX}
/-! ### statements -/
theorem wE.stm' {f : Ev} {k : Sv → Rho → Mu → O} {σ : L2.St} {H : Hp} {D : Ends} {G : Hp} {cs : List Addr} {ρ : Rho} {μ : Mu} (rl : Rel Γ G cs ρ μ σ H) (po : PostS Γ W D G cs H (sE f k ρ μ)) {Q1 : VK}
    (i : ∀ G' cs' μ' v H1 a, Grow G cs H G' cs' H1 → Rel Γ G' cs' ρ μ' σ H1 → RepS Γ.K G' cs' v a → PostS Γ W D G' cs' H1 (k a ρ μ') → Q1 v H1) : wE Γ W f σ H Q1 := by
  refine ⟨G, cs, ρ, μ, rl, ?_⟩
  unfold sE at po
  cases e : f ρ μ with
  | ok a μ1 =>
    rw [e] at po
    exact fun G' cs' H' v g m r => i G' cs' μ1 v H' a g (rl.grow g m) r (PostS.mono (show PostS Γ W D G cs H (k a ρ μ1) from po) g)
  | ex c μ1 =>
    rw [e] at po
    have po : PostS Γ W D G cs H (.ex c ρ μ1) := po
    exact fun G' cs' H' g m => po G' cs' H' σ g (rl.grow g m)
  | no => rw [e] at po; exact po
theorem wE.stm {f : Ev} {k : Sv → Rho → Mu → O} {σ : L2.St} {H : Hp} {D : Ends} (h : wS Γ W (sE f k) D σ H) {Q1 : VK}
    (i : ∀ G cs ρ μ v H1 a, Rel Γ G cs ρ μ σ H1 → RepS Γ.K G cs v a → PostS Γ W D G cs H1 (k a ρ μ) → Q1 v H1) : wE Γ W f σ H Q1 := by
  obtain ⟨G, cs, ρ, μ, rl, po⟩ := h
  exact wE.stm' rl po fun G' cs' μ' v H1 a _ r q p => i G' cs' ρ μ' v H1 a r q p
theorem PostS.nowN {D : Ends} {G H : Hp} {cs : List Addr} {ρ : Rho} {μ : Mu} {σ : L2.St} (h : PostS Γ W D G cs H (.nx ρ μ)) (r : Rel Γ G cs ρ μ σ H) : D.nx σ H := h G cs H σ .refl r
theorem Rel.set {G H : Hp} {cs : List Addr} {ρ : Rho} {μ : Mu} {σ : L2.St} (r : Rel Γ G cs ρ μ σ H) (i : Nat) {v : V} {s : Sv} (h : RepS Γ.K G cs v s) : Rel Γ G cs (ρ.set i (some s)) μ (σ.set i (some v)) H := by
  refine ⟨r.m, fun j sv e => ?_, by simp [r.l]⟩
  by_cases hj : j = i
  · subst hj
    by_cases hl : j < ρ.length
    · rw [List.getElem?_set_self hl] at e
      cases e
      exact ⟨v, by rw [List.getElem?_set_self (r.l ▸ hl)], h⟩
    · rw [List.getElem?_eq_none (by simpa using hl)] at e; cases e
  · rw [List.getElem?_set_ne (Ne.symm hj)] at e
    obtain ⟨u, h1, h2⟩ := r.s j sv e
    exact ⟨u, by rw [List.getElem?_set_ne (Ne.symm hj)]; exact h1, h2⟩
theorem Rel.set0 {G H : Hp} {cs : List Addr} {ρ : Rho} {μ : Mu} {σ : L2.St} (r : Rel Γ G cs ρ μ σ H) (i : Nat) : Rel Γ G cs (ρ.set i none) μ (σ.set i none) H := by
  refine ⟨r.m, fun j sv e => ?_, by simp [r.l]⟩
  by_cases hj : j = i
  · subst hj
    by_cases hl : j < ρ.length
    · rw [List.getElem?_set_self hl] at e; cases e
    · rw [List.getElem?_eq_none (by simpa using hl)] at e; cases e
  · rw [List.getElem?_set_ne (Ne.symm hj)] at e
    obtain ⟨u, h1, h2⟩ := r.s j sv e
    exact ⟨u, by rw [List.getElem?_set_ne (Ne.symm hj)]; exact h1, h2⟩
theorem s_asg {i : Nat} {x : Str} {e : Expr} {f : Ev} {pos pos' : Pos} (hN : X.N.Nodup) (hi : X.N[i]? = some x) (hx : Loc X.env.scope x) (he : PE X e (wE Γ W f)) (hs : swapsWith e (some (.Name x pos')) pos.line X.env = pure false := by rfl)
    (hf : X.fn x = true ∨ X.env.scope.names.lookup x = some .local := by first | exact .inl rfl | exact .inr rfl | assumption) : PS X (.Assign [.Name x pos'] e pos) (wS Γ W (sAsg i f)) :=
  ps_imp (ps_set (i := i) hN hi hx he hs hf) fun D σ H h => wE.stm h fun G cs ρ μ v H1 a rl r po => po.nowN (rl.set i r)
theorem s_drop {e : Expr} {f : Ev} {pos : Pos} (he : PE X e (wE Γ W f)) (hs : swapsWith e none pos.line X.env = pure false := by rfl) : PS X (.Expr e pos) (wS Γ W (sDrop f)) :=
  ps_imp (ps_expr he hs) fun D σ H h => wE.stm h fun G cs ρ μ v H1 a rl r po => po.nowN rl
theorem s_ret {e : Expr} {f : Ev} {pos : Pos} (he : PE X e (wE Γ W f)) : PS X (.Return (some e) pos) (wS Γ W (sRet f)) :=
  ps_imp (ps_ret he) fun D σ H h => wE.stm h fun G cs ρ μ v H1 a rl r po => po G cs H1 v .refl rl.m r
theorem s_pass {pos : Pos} : PS X (.Pass pos) (wS Γ W sNext) := ps_imp ps_pass fun D σ H h => by
  obtain ⟨G, cs, ρ, μ, rl, po⟩ := h
  exact po.nowN rl
theorem ss_nil : PSs X [] (wS Γ W sNext) := pss_imp pss_nil fun D σ H h => by
  obtain ⟨G, cs, ρ, μ, rl, po⟩ := h
  exact po.nowN rl
theorem ss_one {s : Stmt} {f : EvS} (h : PS X s (wS Γ W f)) : PSs X [s] (wS Γ W f) := pss_one h
theorem ss_cons {s : Stmt} {r : List Stmt} {f g : EvS} (h1 : PS X s (wS Γ W f)) (h2 : PSs X r (wS Γ W g)) : PSs X (s :: r) (wS Γ W (sSeq f g)) := by
  refine pss_imp (pss_cons h1 h2) fun D σ H h => ?_
  obtain ⟨G, cs, ρ, μ, rl, po⟩ := h
  refine ⟨G, cs, ρ, μ, rl, ?_⟩
  unfold sSeq at po
  cases e : f ρ μ with
  | nx ρ1 μ1 =>
    rw [e] at po
    exact fun G' cs' H' σ' g' r' => ⟨G', cs', ρ1, μ1, r', PostS.mono (show PostS Γ W D G cs H (g ρ1 μ1) from po) g'⟩
  | bk ρ1 μ1 => rw [e] at po; exact po
  | ct ρ1 μ1 => rw [e] at po; exact po
  | rt v μ1 => rw [e] at po; exact po
  | ex c ρ1 μ1 => rw [e] at po; exact po
  | no => rw [e] at po; exact po
theorem s_if {c : Expr} {a b : List Stmt} {pos : Pos} {t : EvT} {f g : EvS} (hc : PT X c (wT Γ W t)) (ha : PSs X a (wS Γ W f)) (hb : PSs X b (wS Γ W g)) : PS X (.If c a b pos) (wS Γ W (sIf t f g)) := by
  refine ps_imp (ps_if hc ha hb) fun D σ H h => ?_
  obtain ⟨G, cs, ρ, μ, rl, po⟩ := h
  refine ⟨G, cs, ρ, μ, rl, ?_⟩
  unfold sIf at po
  cases e : t ρ μ with
  | ok b μ1 =>
    rw [e] at po
    intro G' cs' H' v g' m q
    subst q
    have r' := rl.grow g' m
    cases v with
    | true =>
      show wS Γ W f D σ H'
      exact ⟨G', cs', ρ, μ1, r', PostS.mono (show PostS Γ W D G cs H (f ρ μ1) from po) g'⟩
    | false =>
      show wS Γ W g D σ H'
      exact ⟨G', cs', ρ, μ1, r', PostS.mono (show PostS Γ W D G cs H (g ρ μ1) from po) g'⟩
  | ex c μ1 =>
    rw [e] at po
    have po : PostS Γ W D G cs H (.ex c ρ μ1) := po
    exact fun G' cs' H' g m => po G' cs' H' σ g (rl.grow g m)
  | no => rw [e] at po; exact po
theorem s_break {pos : Pos} : PS X (.Break pos) (wS Γ W sBreak) := ps_imp ps_break fun D σ H h => by
  obtain ⟨G, cs, ρ, μ, rl, po⟩ := h
  exact po G cs H σ .refl rl
theorem s_cont {pos : Pos} : PS X (.Continue pos) (wS Γ W sCont) := ps_imp ps_continue fun D σ H h => by
  obtain ⟨G, cs, ρ, μ, rl, po⟩ := h
  exact po G cs H σ .refl rl
/-! ### for -/
/-- one turn of a loop, the rest kept -/
theorem loop_turn {i : Nat} {body : EvS} {D : Ends} {G H : Hp} {cs : List Addr} {ρ : Rho} {μ : Mu} {σ : L2.St} {d : SP.D} {ds : List SP.D} {v : V} (rl : Rel Γ G cs ρ μ σ H) (rv : Rep Γ.K G v d) (po : PostS Γ W D G cs H (loopL i body (d :: ds) ρ μ)) {N : L2.St → Hp → Prop}
    (hN : ∀ G' cs' ρ' μ' σ' H', Grow G cs H G' cs' H' → Rel Γ G' cs' ρ' μ' σ' H' → PostS Γ W D G' cs' H' (loopL i body ds ρ' μ') → N σ' H') : wS Γ W body { D with nx := N, ct := N, bk := D.nx } (σ.set i (some v)) H := by
  refine ⟨G, cs, ρ.set i (some (.im d)), μ, rl.set i rv, ?_⟩
  simp only [loopL] at po
  cases e : body (ρ.set i (some (.im d))) μ with
  | nx ρ1 μ1 => rw [e] at po; exact fun G' cs' H' σ' g r => hN _ _ _ _ _ _ g r (PostS.mono po g)
  | ct ρ1 μ1 => rw [e] at po; exact fun G' cs' H' σ' g r => hN _ _ _ _ _ _ g r (PostS.mono po g)
  | bk ρ1 μ1 => rw [e] at po; exact po
  | rt v μ1 => rw [e] at po; exact po
  | ex c ρ1 μ1 => rw [e] at po; exact po
  | no => rw [e] at po; exact po
theorem s_forL {i : Nat} {x : Str} {iter : Expr} {body : List Stmt} {pos xpos : Pos} {f : Ev} {b : EvS} (hp : PassesOwn (model X.prog X.w) X.A X.env X.xe) (hc : X.calm = true) (hN : X.N.Nodup) (hi : X.N[i]? = some x) (hx : Loc X.env.scope x) (he : PE X iter (wE Γ W f)) (hb : PSs X body (wS Γ W b))
    (hs : ∀ x, foldedSetIterable iter X.env x = pure x := by intro _; rfl) (hf : X.fn x = true ∨ X.env.scope.names.lookup x = some .local := by first | exact .inl rfl | exact .inr rfl | assumption) : PS X (.For (.Name x xpos) iter body [] pos) (wS Γ W (sForL i f b)) := by
  refine ps_imp (ps_for hp hc (pi_list (d_frz he)) (pg_name (i := i) hN hi hx hf) hb hs) fun D σ H h => ?_
  show iList X.K (wE Γ W (dV f)) σ H _
  refine wE.stm h fun G cs ρ μ v H1 a rl r po => ?_
  split at po
  · rename_i xs
    have r : Rep Γ.K G v (.lst xs) := r
    cases r with
    | lst hl n rs =>
      rename_i a vs
      refine ⟨a, rfl, ⟨vs, .of (rl.m.sub _ _ hl)⟩, for_list (K := X.K) (a := a) (xs := vs) (fun k σ H => ∃ G cs ρ μ, Rel Γ G cs ρ μ σ H ∧ G a = some (.lst vs) ∧ Reps Γ.K G vs xs ∧ PostS Γ W D G cs H (loopL i b (xs.drop k) ρ μ)) ⟨G, cs, ρ, μ, rl, hl, rs, by simpa using po⟩
        (fun k σ H _ ⟨G, cs, ρ, μ, rl, hl, _⟩ => .of (rl.m.sub _ _ hl)) (fun k x σ H hx ⟨G, cs, ρ, μ, rl, hl, rs, po⟩ => ?_) (fun σ H ⟨G, cs, ρ, μ, rl, hl, rs, po⟩ => ?_)⟩
      · obtain ⟨d, hd, rd⟩ := rs.get' hx
        have ek : xs.drop k = d :: xs.drop (k + 1) := by
          have hk := (List.getElem?_eq_some_iff.mp hd).1
          rw [List.drop_eq_getElem_cons hk]
          rw [(List.getElem?_eq_some_iff.mp hd).2]
        rw [ek] at po
        exact loop_turn rl rd po fun G' cs' ρ' μ' σ' H' g r p => ⟨G', cs', ρ', μ', r, g.ex _ _ hl, rs.mono g.ex, p⟩
      · rw [rs.length, List.drop_length] at po
        exact po.nowN rl
  · exact po.elim
theorem s_forS {i : Nat} {x : Str} {iter : Expr} {body : List Stmt} {pos xpos : Pos} {f : Ev} {b : EvS} (hp : PassesOwn (model X.prog X.w) X.A X.env X.xe) (hc : X.calm = true) (hN : X.N.Nodup) (hi : X.N[i]? = some x) (hx : Loc X.env.scope x) (he : PE X iter (wE Γ W f)) (hb : PSs X body (wS Γ W b))
    (hs : ∀ x, foldedSetIterable iter X.env x = pure x := by intro _; rfl) (hf : X.fn x = true ∨ X.env.scope.names.lookup x = some .local := by first | exact .inl rfl | exact .inr rfl | assumption) : PS X (.For (.Name x xpos) iter body [] pos) (wS Γ W (sForS i f b)) := by
  refine ps_imp (ps_for hp hc (pi_str he) (pg_name (i := i) hN hi hx hf) hb hs) fun D σ H h => ?_
  show wE Γ W f σ H _
  refine wE.stm h fun G cs ρ μ v H1 a rl r po => ?_
  split at po
  · rename_i z
    have r : Rep Γ.K G v (.str z) := r
    cases r with
    | str _ gz =>
      refine ⟨z, rfl, ?_⟩
      refine ⟨fun k m σ H => m = z.cps.size - k ∧ k ≤ z.cps.size ∧ ∃ G cs ρ μ, Rel Γ G cs ρ μ σ H ∧ PostS Γ W D G cs H (loopL i b ((z.cps.toList.map fun c => SP.D.str ⟨#[c]⟩).drop k) ρ μ), ⟨_, rfl, Nat.zero_le _, G, cs, ρ, μ, rl, by simpa using po⟩, ?_⟩
      rintro k m σ H ⟨rfl, hk, G, cs, ρ, μ, rl, po⟩
      by_cases hlt : k < z.cps.size
      · have hd : (z.cps.toList.map fun c => SP.D.str ⟨#[c]⟩)[k]? = some (SP.D.str ⟨#[z.cps[k]]⟩) := by
          rw [List.getElem?_map]
          simp [hlt]
        have ek : (z.cps.toList.map fun c => SP.D.str ⟨#[c]⟩).drop k = SP.D.str ⟨#[z.cps[k]]⟩ :: (z.cps.toList.map fun c => SP.D.str ⟨#[c]⟩).drop (k + 1) := by
          have hk := (List.getElem?_eq_some_iff.mp hd).1
          rw [List.drop_eq_getElem_cons hk]
          rw [(List.getElem?_eq_some_iff.mp hd).2]
        rw [ek] at po
        refine .inr ⟨hlt, fun σ' H' => ∃ G cs ρ μ, Rel Γ G cs ρ μ σ' H' ∧ PostS Γ W D G cs H' (loopL i b ((z.cps.toList.map fun c => SP.D.str ⟨#[c]⟩).drop (k + 1)) ρ μ), fun σ' H' w => ⟨z.cps.size - (k + 1), by omega, rfl, by omega, w⟩, fun x H' y => ?_⟩
        obtain ⟨rfl, c, hc, rfl⟩ := y
        have e1 : c = z.cps[k] := by
          rw [Array.getElem?_eq_getElem hlt] at hc
          exact (Option.some.inj hc).symm
        subst e1
        exact loop_turn rl (.str _ (goodS_one (goodS_mem gz (by simp)))) po fun G' cs' ρ' μ' σ' H' g r p => ⟨G', cs', ρ', μ', r, p⟩
      · have e : k = z.cps.size := by omega
        refine .inl ⟨by show z.cps.size ≤ k; omega, ?_⟩
        rw [List.drop_eq_nil_of_le (by simp; omega)] at po
        exact po.nowN rl
  · exact po.elim
theorem range_drop {lo : Int} {n k : Nat} (h : k < n) : (rangeD lo n).drop k = D.int (lo + (k : Int)) :: (rangeD lo n).drop (k + 1) := by
  have hd : (rangeD lo n)[k]? = some (D.int (lo + (k : Int))) := by
    unfold rangeD
    rw [List.getElem?_map, List.getElem?_range h]; rfl
  have hk := (List.getElem?_eq_some_iff.mp hd).1
  rw [List.drop_eq_getElem_cons hk, (List.getElem?_eq_some_iff.mp hd).2]
theorem in62_ok {i : Int} (h : in62 i = true) : -(2 ^ 62) ≤ i ∧ i < 2 ^ 62 := by
  have := Nat.le_of_ble_eq_true h
  have e : (2 : Int) ^ 62 = 4611686018427387904 := by decide
  rw [e]
  omega
theorem range_loop {i : Nat} {b : EvS} {D : Ends} {G H : Hp} {cs : List Addr} {ρ : Rho} {μ : Mu} {σ : L2.St} {lo : Int} {n : Nat} (rl : Rel Γ G cs ρ μ σ H) (po : PostS Γ W D G cs H (loopL i b (rangeD lo n) ρ μ)) :
    ∃ Wn : Nat → Nat → L2.St → Hp → Prop, (∃ m, Wn 0 m σ H) ∧ ∀ k m σ H, Wn k m σ H → ((Itr lo n).stop k H ∧ D.nx σ H) ∨ ((Itr lo n).go k H ∧ ∃ N : L2.St → Hp → Prop, (∀ σ' H', N σ' H' → ∃ m', m' < m ∧ Wn (k + 1) m' σ' H') ∧ ∀ x H', (Itr lo n).yld k H x H' → gName i x σ H' fun σ2 H2 => wS Γ W b { D with nx := N, ct := N, bk := D.nx } σ2 H2) := by
  refine for_range (lo := lo) (n := n) (fun k σ H => ∃ G cs ρ μ, Rel Γ G cs ρ μ σ H ∧ PostS Γ W D G cs H (loopL i b ((rangeD lo n).drop k) ρ μ)) ⟨G, cs, ρ, μ, rl, by simpa using po⟩ (fun k σ H hk ⟨G, cs, ρ, μ, rl, po⟩ => ?_) (fun σ H ⟨G, cs, ρ, μ, rl, po⟩ => ?_)
  · rw [range_drop hk] at po
    exact loop_turn rl (.int _) po fun G' cs' ρ' μ' σ' H' g r p => ⟨G', cs', ρ', μ', r, p⟩
  · rw [List.drop_eq_nil_of_le (by simp [rangeD])] at po
    exact po.nowN rl
theorem s_forR1 {i : Nat} {x : Str} {a : Expr} {body : List Stmt} {pos xpos p rp : Pos} {f : Ev} {b : EvS} (hp : PassesOwn (model X.prog X.w) X.A X.env X.xe) (hc : X.calm = true) (hN : X.N.Nodup) (hi : X.N[i]? = some x) (hx : Loc X.env.scope x) (hg : Gl X "range") (hm : X.mg "range" = none) (he : PE X a (wE Γ W f)) (hb : PSs X body (wS Γ W b))
    (hs1 : starEach [a] X.env = [(false, eval a X.env)] := by rfl) (hs : ∀ x, foldedSetIterable (.Call (.Name "range" p) [a] [] rp) X.env x = pure x := by intro _; rfl) (hf : X.fn x = true ∨ X.env.scope.names.lookup x = some .local := by first | exact .inl rfl | exact .inr rfl | assumption) :
    PS X (.For (.Name x xpos) (.Call (.Name "range" p) [a] [] rp) body [] pos) (wS Γ W (sForR1 i f b)) := by
  refine ps_imp (ps_for hp hc (pi_range1 hg hm (pa_cons he pa_nil hs1) (hs := hs1)) (pg_name (i := i) hN hi hx hf) hb hs) fun D σ H h => ?_
  show wE Γ W f σ H _
  refine wE.stm h fun G cs ρ μ v H1 a rl r po => ?_
  split at po
  · rename_i n
    have r : Rep Γ.K G v (.int n) := r
    cases r
    split at po
    · rename_i hn
      obtain ⟨h1, h2⟩ := in62_ok hn
      exact ⟨n, rfl, h1, h2, range_loop rl po⟩
    · exact po.elim
  · exact po.elim
theorem s_forR2 {i : Nat} {x : Str} {a a2 : Expr} {body : List Stmt} {pos xpos p rp : Pos} {f g : Ev} {b : EvS} (hp : PassesOwn (model X.prog X.w) X.A X.env X.xe) (hc : X.calm = true) (hN : X.N.Nodup) (hi : X.N[i]? = some x) (hx : Loc X.env.scope x) (hg : Gl X "range") (hm : X.mg "range" = none) (he : PE X a (wE Γ W f)) (he2 : PE X a2 (wE Γ W g)) (hb : PSs X body (wS Γ W b))
    (hs1 : starEach [a, a2] X.env = [(false, eval a X.env), (false, eval a2 X.env)] := by rfl) (hs2 : starEach [a2] X.env = [(false, eval a2 X.env)] := by rfl) (hs : ∀ x, foldedSetIterable (.Call (.Name "range" p) [a, a2] [] rp) X.env x = pure x := by intro _; rfl) (hf : X.fn x = true ∨ X.env.scope.names.lookup x = some .local := by first | exact .inl rfl | exact .inr rfl | assumption) :
    PS X (.For (.Name x xpos) (.Call (.Name "range" p) [a, a2] [] rp) body [] pos) (wS Γ W (sForR2 i f g b)) := by
  refine ps_imp (ps_for hp hc (pi_range2 hg hm (pa_cons he (pa_cons he2 pa_nil hs2) (by rw [hs1, hs2])) (hs := hs1) (hs2 := hs2)) (pg_name (i := i) hN hi hx hf) hb hs) fun D σ H h => ?_
  show wE Γ W f σ H _
  refine wE.stm h fun G cs ρ μ v H1 a rl r po => ?_
  split at po
  · rename_i n
    have r : Rep Γ.K G v (.int n) := r
    cases r
    show wE Γ W g σ H1 _
    refine wE.stm (D := D) ⟨G, cs, ρ, μ, rl, po⟩ fun G cs ρ μ v H1 a rl r po => ?_
    split at po
    · rename_i m
      have r : Rep Γ.K G v (.int m) := r
      cases r
      split at po
      · rename_i hn
        simp only [Bool.and_eq_true] at hn
        obtain ⟨h1, h2⟩ := in62_ok hn.1
        obtain ⟨h3, h4⟩ := in62_ok hn.2
        exact ⟨n, m, rfl, ⟨h1, h2, h3, h4⟩, range_loop rl po⟩
      · exact po.elim
    · exact po.elim
  · exact po.elim
/-! ### while -/
theorem s_while {c : Expr} {body : List Stmt} {pos : Pos} {t : EvT} {b : EvS} {n : Nat} (hp : PassesOwn (model X.prog X.w) X.A X.env X.xe) (hc : PT X c (wT Γ W t)) (hb : PSs X body (wS Γ W b)) : PS X (.While c body [] pos) (wS Γ W (sWhile t b n)) := by
  refine ps_imp (ps_while hp hc hb) fun D σ H h => ?_
  obtain ⟨G, cs, ρ, μ, rl, po⟩ := h
  refine ⟨fun m σ H => ∃ G cs ρ μ, Rel Γ G cs ρ μ σ H ∧ PostS Γ W D G cs H (sWhile t b m ρ μ), ⟨n, G, cs, ρ, μ, rl, po⟩, ?_⟩
  rintro m σ H ⟨G, cs, ρ, μ, rl, po⟩
  cases m with
  | zero => exact po.elim
  | succ m =>
    refine ⟨G, cs, ρ, μ, rl, ?_⟩
    simp only [sWhile] at po
    cases e : t ρ μ with
    | ok v μ1 =>
      rw [e] at po
      cases v with
      | true =>
        intro G' cs' H' v' g' m' q
        subst q
        refine ⟨fun σ H => ∃ G cs ρ μ, Rel Γ G cs ρ μ σ H ∧ PostS Γ W D G cs H (sWhile t b m ρ μ), fun σ' H' w => ⟨m, Nat.lt_succ_self _, w⟩, G', cs', ρ, μ1, rl.grow g' m', ?_⟩
        have po := PostS.mono po g'
        dsimp only at po
        cases e2 : b ρ μ1 with
        | nx ρ1 μ2 => rw [e2] at po; exact fun G2 cs2 H2 σ2 g2 r2 => ⟨G2, cs2, ρ1, μ2, r2, PostS.mono po g2⟩
        | ct ρ1 μ2 => rw [e2] at po; exact fun G2 cs2 H2 σ2 g2 r2 => ⟨G2, cs2, ρ1, μ2, r2, PostS.mono po g2⟩
        | bk ρ1 μ2 => rw [e2] at po; exact po
        | rt v μ2 => rw [e2] at po; exact po
        | ex c ρ1 μ2 => rw [e2] at po; exact po
        | no => rw [e2] at po; exact po
      | false =>
        intro G' cs' H' v' g' m' q
        subst q
        exact (PostS.mono po g').nowN (rl.grow g' m')
    | ex x μ1 =>
      rw [e] at po
      have po : PostS Γ W D G cs H (.ex x ρ μ1) := po
      exact fun G' cs' H' g m => po G' cs' H' σ g (rl.grow g m)
    | no => rw [e] at po; exact po
/-! ### append -/
theorem s_app {o e : Expr} {apos cpos pos : Pos} {fx fe : Ev} (hx : PE X o (wE Γ W fx)) (he : PE X e (wE Γ W fe)) (h : PE X (.Call (.Attribute o "append" apos) [e] [] cpos) (tBM X.K "list" rAppend (wE Γ W fx) (tCons (wE Γ W fe) tNil)))
    (hs : swapsWith (.Call (.Attribute o "append" apos) [e] [] cpos) none pos.line X.env = pure false := by rfl) : PS X (.Expr (.Call (.Attribute o "append" apos) [e] [] cpos) pos) (wS Γ W (sApp fx fe)) := by
  refine ps_imp (ps_expr h hs) fun D σ H h => ?_
  show wE Γ W fx σ H _
  refine wE.stm h fun G cs ρ μ v H1 a rl r po => ?_
  split at po
  · rename_i n
    obtain ⟨p, hp, rfl⟩ := id r
    split at po
    · rename_i xs0 hx0
      obtain ⟨_, _, vs0, h0, _⟩ := rl.m.cell n p _ hp hx0
      refine ⟨.inl ⟨rfl, vs0, .of h0⟩, ?_⟩
      show wE Γ W fe σ H1 _
      refine wE.stm' rl po fun G2 cs2 μ2 w H2 b g2 rl2 r2 po => ?_
      split at po
      · rename_i d
        split at po
        · rename_i xs hx
          split at po
          · rename_i hl
            have hp2 : cs2[n]? = some p := pre_get g2.pre hp
            obtain ⟨g, _, vs, h1, rs⟩ := rl2.m.cell n p _ hp2 hx
            refine ⟨p, vs, w, rfl, rfl, h1, by rw [rs.length]; exact Nat.lt_of_lt_of_le hl maxN_le, ?_⟩
            obtain ⟨g3, m3⟩ := rl2.m.put hp2 (.lst (vs ++ [w])) (.lst (xs ++ [d])) g ⟨g, by rw [List.length_append]; exact hl, vs ++ [w], upd_same, rs.append (.cons r2 .nil)⟩
            exact po G2 cs2 _ σ g3 (rl2.grow g3 m3)
          · exact po.elim
        · exact po.elim
      · exact po.elim
    · exact po.elim
  · exact po.elim
end
end SP

/-! SPf: comprehensions, calls of defs, defs. -/
namespace SP
open PySem L2

section
variable {Γ : Gm} {X : Cx} {W : WX}
/-! ### comprehensions -/
theorem RelM.off {G H : Hp} {cs : List Addr} {μ : Mu} (m : RelM Γ G cs μ H) {p : Addr} (np : p ∉ cs) (gp : G p = none) (o : HO) : RelM Γ G cs μ (upd H p o) := by
  refine ⟨fun b u q => by rw [upd_ne (ne_of_none q gp)]; exact m.sub _ _ q, m.len, m.nd, fun n a c' e1 e2 => ?_⟩
  have na : a ≠ p := fun z => np (by rw [← z]; exact List.mem_of_getElem? e1)
  have r := m.cell n a c' e1 e2
  cases c' with
  | lst xs => obtain ⟨g, k, vs, q, r⟩ := r; exact ⟨g, k, vs, by rw [upd_ne na]; exact q, r⟩
  | dk xs => obtain ⟨g, k, vs, q, r⟩ := r; exact ⟨g, k, vs, by rw [upd_ne na]; exact q, r⟩
  | dt xs => obtain ⟨g, k, vs, q, r⟩ := r; exact ⟨g, k, vs, by rw [upd_ne na]; exact q, r⟩
  | fz d => exact r
  | ob fs => obtain ⟨g, dx, vs, q, r⟩ := r; exact ⟨g, dx, vs, by rw [upd_ne na]; exact q, r⟩
  | dv xs => obtain ⟨g, k, vs, q, r⟩ := r; exact ⟨g, k, vs, by rw [upd_ne na]; exact q, r⟩
theorem Grow.off {G G' H H' : Hp} {cs cs' : List Addr} (g : Grow G cs H G' cs' H') {p : Addr} (hp : H p = none) (o : HO) : Grow G cs H G' cs' (upd H' p o) :=
  ⟨g.ex, g.pre, fun a u q n => by rw [upd_ne (ne_of_none q hp)]; exact g.fr a u q n, g.n1, g.n2⟩
/-- within a comprehension: what is made stands at P, the items ds are left -/
def LcI (Γ : Gm) (E : Xn → Option Addr → Hp → Prop) (P : Addr) (i : Nat) (t : EvT) (e : Ev) (ρ : Rho) (G1 : Hp) (cs1 : List Addr) (H1 : Hp) (Q : VK) (ds : List SP.D) (k : Nat) (H : Hp) : Prop :=
  ∃ G cs μ acc ads, Grow G1 cs1 H1 G cs H ∧ RelM Γ G cs μ H ∧ P ∉ cs ∧ G P = none ∧ H P = some (.lst acc) ∧ Reps Γ.K G acc ads ∧ ads.length ≤ k ∧ PostF Γ E G1 cs1 H1 ((lcL i t e ds ρ μ).bind fun ys μ3 => .ok (.lst (ads ++ ys)) μ3) Q
theorem lc_turn {E : Xn → Option Addr → Hp → Prop} {P : Addr} {i : Nat} {t : EvT} {e : Ev} {ρ : Rho} {G1 : Hp} {cs1 : List Addr} {H1 : Hp} {Q : VK} {d : SP.D} {ds : List SP.D} {k : Nat} {H : Hp} {σ : L2.St} {v : V} (h1 : H1 P = none) (hk : k < maxN)
    (h : LcI Γ E P i t e (ρ.set i none) G1 cs1 H1 Q (d :: ds) k H) (rs : RelS Γ.K G1 cs1 (ρ.set i none) (σ.set i none)) (hl : σ.length = ρ.length) (rv : ∀ G, Same G1 G → Rep Γ.K G v d) :
    gName i v (wipe σ [i]) H fun σ2 H2 => wipe σ2 [i] = wipe σ [i] ∧ wT Γ W0 t σ2 H2 fun b H3 => if b = true then wE Γ W0 e σ2 H3 fun y H4 => ∃ acc, H4 P = some (.lst acc) ∧ acc.length < sizeLine ∧ LcI Γ E P i t e (ρ.set i none) G1 cs1 H1 Q ds (k + 1) (upd H4 P (.lst (acc ++ [y]))) else LcI Γ E P i t e (ρ.set i none) G1 cs1 H1 Q ds (k + 1) H3 := by
  obtain ⟨G, cs, μ, acc, ads, g, m, np, gp, hP, ra, hle, po⟩ := h
  have ew : wipe σ [i] = σ.set i none := rfl
  show wipe ((wipe σ [i]).set i (some v)) [i] = wipe σ [i] ∧ _
  refine ⟨by show ((σ.set i none).set i (some v)).set i none = σ.set i none; rw [List.set_set, List.set_set], ?_⟩
  have rl : Rel Γ G cs (ρ.set i none) μ (σ.set i none) H := ⟨m, rs.mono g.ex g.pre, by simp [hl]⟩
  have rl2 := rl.set i (v := v) (s := .im d) (rv G g.ex)
  refine ⟨G, cs, (ρ.set i none).set i (some (.im d)), μ, rl2, ?_⟩
  simp only [lcL] at po
  cases et : t ((ρ.set i none).set i (some (.im d))) μ with
  | ok b μ1 =>
    rw [et] at po
    intro G2 cs2 H2 b' g2 m2 q
    subst q
    have np2 : P ∉ cs2 := g2.n1 P (by rw [hP]; exact fun z => nomatch z) np
    have gp2 : G2 P = none := g2.n2 P (by rw [hP]; exact fun z => nomatch z) np gp
    have hP2 : H2 P = some (.lst acc) := g2.fr P _ hP np
    cases b' with
    | false =>
      exact ⟨G2, cs2, μ1, acc, ads, g.trans g2, m2, np2, gp2, hP2, ra.mono g2.ex, Nat.le_succ_of_le hle, po⟩
    | true =>
      show wE Γ W0 e _ H2 _
      have rl3 := rl2.grow g2 m2
      refine ⟨G2, cs2, (ρ.set i none).set i (some (.im d)), μ1, rl3, ?_⟩
      simp only [R.quiet, R.bind] at po
      cases ee : e ((ρ.set i none).set i (some (.im d))) μ1 with
      | ok w μ2 =>
        rw [ee] at po
        intro G3 cs3 H3 y g3 m3 ry
        have np3 : P ∉ cs3 := g3.n1 P (by rw [hP2]; exact fun z => nomatch z) np2
        have gp3 : G3 P = none := g3.n2 P (by rw [hP2]; exact fun z => nomatch z) np2 gp2
        have hP3 : H3 P = some (.lst acc) := g3.fr P _ hP2 np2
        have ra3 := (ra.mono g2.ex).mono g3.ex
        refine ⟨acc, hP3, by rw [ra.length]; exact Nat.lt_of_le_of_lt hle (Nat.lt_of_lt_of_le hk maxN_le), ?_⟩
        cases w with
        | im x =>
          refine ⟨G3, cs3, μ2, acc ++ [y], ads ++ [x], ((g.trans g2).trans g3).off h1 _, m3.off np3 gp3 _, np3, gp3, upd_same, ra3.append (.cons ry .nil), by simp; exact hle, ?_⟩
          have e2 : ((lcL i t e ds (ρ.set i none) μ2).bind fun ys μ3 => R.ok (Cell.lst ((ads ++ [x]) ++ ys)) μ3) = (((lcL i t e ds (ρ.set i none) μ2).bind fun ys μ3 => R.ok (x :: ys) μ3).bind fun ys μ3 => R.ok (Cell.lst (ads ++ ys)) μ3) := by
            cases lcL i t e ds (ρ.set i none) μ2 with
            | ok ys μ3 => simp [R.bind]
            | ex c μ3 => rfl
            | no => rfl
          rw [e2]
          exact po
        | rf n => exact po.elim
      | ex c μ2 => rw [ee] at po; exact po.elim
      | no => rw [ee] at po; exact po.elim
  | ex c μ1 => rw [et] at po; exact po.elim
  | no => rw [et] at po; exact po.elim
theorem lcEnd_eq (r : R (List SP.D)) : lcEnd r = r.bind fun ys μ3 => .ok (.lst ([] ++ ys)) μ3 := by
  cases r <;> rfl
theorem LcI.start {E : Xn → Option Addr → Hp → Prop} {P : Addr} {i : Nat} {t : EvT} {e : Ev} {ρ : Rho} {G1 : Hp} {cs1 : List Addr} {H1 : Hp} {μ : Mu} {Q : VK} {ds : List SP.D} (m : RelM Γ G1 cs1 μ H1) (h1 : H1 P = none) (po : PostF Γ E G1 cs1 H1 (lcEnd (lcL i t e ds ρ μ)) Q) : LcI Γ E P i t e ρ G1 cs1 H1 Q ds 0 (upd H1 P (.lst [])) := by
  rw [lcEnd_eq] at po
  exact ⟨G1, cs1, μ, [], [], Grow.refl.off h1 _, m.off (m.fresh h1) (m.freshG h1) _, m.fresh h1, m.freshG h1, upd_same, .nil, Nat.le_refl _, po⟩
theorem LcI.done {E : Xn → Option Addr → Hp → Prop} {P : Addr} {i : Nat} {t : EvT} {e : Ev} {ρ : Rho} {G1 : Hp} {cs1 : List Addr} {H1 H : Hp} {Q : VK} {k : Nat} (h1 : H1 P = none) (hk : k ≤ maxN) (h : LcI Γ E P i t e ρ G1 cs1 H1 Q [] k H) : Q (.ref P) H := by
  obtain ⟨G, cs, μ, acc, ads, g, m, np, gp, hP, ra, hle, po⟩ := h
  have po : PostF Γ E G1 cs1 H1 (.ok (.lst (ads ++ [])) μ) Q := po
  rw [List.append_nil] at po
  exact po G cs H P g m h1 np ⟨gp, Nat.le_trans hle hk, acc, hP, ra⟩
theorem pts_imp {ifs : List Expr} {t t' : TT} (h : PTs X ifs t) (i : ∀ σ H Q, t' σ H Q → t σ H Q) : PTs X ifs t' := ⟨fun pins s σ H Q I w => h.run pins s σ H Q I (i σ H Q w)⟩
theorem d_if0 : PTs X [] (wT Γ W0 dYes) := pts_imp pts_nil fun σ H Q h => wT.pure h
theorem d_if1 {c : Expr} {t : EvT} (h : PT X c (wT Γ W0 t)) : PTs X [c] (wT Γ W0 t) := pts_one h
theorem lcL_read {iter : Expr} {i : Nat} {f : Ev} {t : EvT} {el : Ev} {σ : L2.St} {H : Hp} {Q : VK} {K : PySem.W.Frag} (h : wF Γ W (dLcL i f t el) σ H Q) : tLc (iList K (wE Γ W (dV f))) (gName i) (wT Γ W0 t) (wE Γ W0 el) [i] σ H Q := by
  obtain ⟨G0, cs0, ρ, μ0, rl, po⟩ := h
  refine ⟨G0, cs0, ρ, μ0, rl, (PostF.bind (rep := RepS Γ.K) po).imp fun v H1 ⟨G1, cs1, a, μ1, g1, m1, q1, p1⟩ => ?_⟩
  have rl1 := rl.grow g1 m1
  split at p1
  · rename_i xs
    have q1 : Rep Γ.K G1 v (.lst xs) := q1
    cases q1 with
    | @lst a vs _ hl n rs =>
      by_cases hn : xs.length ≤ maxN
      · rw [if_pos hn] at p1
        refine ⟨a, rfl, ⟨vs, .of (m1.sub _ _ hl)⟩, fun P hP => ?_⟩
        refine lc_list (K := K) (a := a) (xs := vs) (fun k H => LcI Γ (wX Γ W σ) P i t el (ρ.set i none) G1 cs1 H1 Q (xs.drop k) k H) (by simpa using LcI.start m1 hP p1) (fun k H hk h => ?_) (fun k x H hx h => ?_) (fun H h => ?_)
        · obtain ⟨G, cs, μ, acc, ads, g, m, _⟩ := h
          exact .of (m.sub _ _ (g.ex _ _ hl))
        · obtain ⟨d, hd, rd⟩ := rs.get' hx
          have hkl := (List.getElem?_eq_some_iff.mp hd).1
          have ek : xs.drop k = d :: xs.drop (k + 1) := by
            rw [List.drop_eq_getElem_cons hkl, (List.getElem?_eq_some_iff.mp hd).2]
          rw [ek] at h
          exact lc_turn hP (Nat.lt_of_lt_of_le hkl hn) h (rl1.set0 i).s rl1.l fun G e => rd.mono e
        · rw [rs.length, List.drop_length] at h
          exact h.done hP hn
      · rw [if_neg hn] at p1
        exact p1.elim
  · exact p1.elim
theorem d_lcL {elt iter : Expr} {ifs : List Expr} {scope : Scope} {i : Nat} {x : Str} {xp pos : Pos} {f : Ev} {t : EvT} {el : Ev} (hc : X.calm = true) (hN : X.N.Nodup) (hi : PE X iter (wE Γ W f)) (ok : BlkOk X.N X.env.scope scope [(x, i)])
    (hg : ∀ (s : Shared) (H : Hp) (C : Addr) (cl : List (Str × Addr)) (fp : List Addr), PG (X.blk s H scope (compEnvC scope cl C X.env) fp) (.Name x xp) (gName i)) (ht : ∀ (s : Shared) (H : Hp) (C : Addr) (cl : List (Str × Addr)) (fp : List Addr), PTs (X.blk s H scope (compEnvC scope cl C X.env) fp) ifs (wT Γ W0 t))
    (he : ∀ (s : Shared) (H : Hp) (C : Addr) (cl : List (Str × Addr)) (fp : List Addr), PE (X.blk s H scope (compEnvC scope cl C X.env) fp) elt (wE Γ W0 el)) (hs : ∀ x, foldedSetIterable iter X.env x = pure x := by intro _; rfl) :
    PE X (.ListComp elt [⟨.Name x xp, iter, ifs, 0⟩] scope pos) (wF Γ W (dLcL i f t el)) :=
  pe_imp (pe_lc hc hN (pi_list (d_frz hi)) ok hg ht he hs) fun σ H Q h => lcL_read (iter := iter) h
/-- y = [.. for ..]: the store within the comprehension; how: dI or dN -/
theorem s_asgLcLI {y : Str} {j : Nat} {py : Pos} {elt iter : Expr} {ifs : List Expr} {scope : Scope} {i : Nat} {x : Str} {xp pos spos : Pos} {f : Ev} {t : EvT} {el : Ev} (hc : X.calm = true) (hN : X.N.Nodup) (hy : X.N[j]? = some y) (hyl : X.env.scope.names.lookup y = some .local)
    (hsw : swapsWith (.ListComp elt [⟨.Name x xp, iter, ifs, 0⟩] scope pos) (some (.Name y py)) spos.line X.env = pure true) (hi : PE X iter (wE Γ W f)) (ok : BlkOk X.N X.env.scope scope [(x, i)])
    (hg : ∀ (s : Shared) (H : Hp) (C : Addr) (cl : List (Str × Addr)) (fp : List Addr), PG (X.blk s H scope (compEnvC scope cl C X.env) fp) (.Name x xp) (gName i)) (ht : ∀ (s : Shared) (H : Hp) (C : Addr) (cl : List (Str × Addr)) (fp : List Addr), PTs (X.blk s H scope (compEnvC scope cl C X.env) fp) ifs (wT Γ W0 t))
    (he : ∀ (s : Shared) (H : Hp) (C : Addr) (cl : List (Str × Addr)) (fp : List Addr), PE (X.blk s H scope (compEnvC scope cl C X.env) fp) elt (wE Γ W0 el)) (hs : ∀ x, foldedSetIterable iter X.env x = pure x := by intro _; rfl) :
    PS X (.Assign [.Name y py] (.ListComp elt [⟨.Name x xp, iter, ifs, 0⟩] scope pos) spos) (wS Γ W (sAsg j (dI (dLcL i f t el)))) := by
  refine ps_imp (ps_setLc (i := j) hc hN hy hyl hsw (pi_list (d_frz hi)) ok hg ht he hs) fun D σ H h => ?_
  show tLc (iList X.K (wE Γ W (dV f))) (gName i) (wT Γ W0 t) (wE Γ W0 el) [i] σ H fun x H1 => gName j x σ H1 D.nx
  refine lcL_read (iter := iter) ?_
  have q := wE.stm h (Q1 := fun x H1 => gName j x σ H1 D.nx) fun G cs ρ μ v H1 a rl r po => po.nowN (rl.set j r)
  exact wI_of q
theorem s_asgLcLN {y : Str} {j : Nat} {py : Pos} {elt iter : Expr} {ifs : List Expr} {scope : Scope} {i : Nat} {x : Str} {xp pos spos : Pos} {f : Ev} {t : EvT} {el : Ev} (hc : X.calm = true) (hN : X.N.Nodup) (hy : X.N[j]? = some y) (hyl : X.env.scope.names.lookup y = some .local)
    (hsw : swapsWith (.ListComp elt [⟨.Name x xp, iter, ifs, 0⟩] scope pos) (some (.Name y py)) spos.line X.env = pure true) (hi : PE X iter (wE Γ W f)) (ok : BlkOk X.N X.env.scope scope [(x, i)])
    (hg : ∀ (s : Shared) (H : Hp) (C : Addr) (cl : List (Str × Addr)) (fp : List Addr), PG (X.blk s H scope (compEnvC scope cl C X.env) fp) (.Name x xp) (gName i)) (ht : ∀ (s : Shared) (H : Hp) (C : Addr) (cl : List (Str × Addr)) (fp : List Addr), PTs (X.blk s H scope (compEnvC scope cl C X.env) fp) ifs (wT Γ W0 t))
    (he : ∀ (s : Shared) (H : Hp) (C : Addr) (cl : List (Str × Addr)) (fp : List Addr), PE (X.blk s H scope (compEnvC scope cl C X.env) fp) elt (wE Γ W0 el)) (hs : ∀ x, foldedSetIterable iter X.env x = pure x := by intro _; rfl) :
    PS X (.Assign [.Name y py] (.ListComp elt [⟨.Name x xp, iter, ifs, 0⟩] scope pos) spos) (wS Γ W (sAsg j (dN (dLcL i f t el)))) := by
  refine ps_imp (ps_setLc (i := j) hc hN hy hyl hsw (pi_list (d_frz hi)) ok hg ht he hs) fun D σ H h => ?_
  show tLc (iList X.K (wE Γ W (dV f))) (gName i) (wT Γ W0 t) (wE Γ W0 el) [i] σ H fun x H1 => gName j x σ H1 D.nx
  refine lcL_read (iter := iter) ?_
  have q := wE.stm h (Q1 := fun x H1 => gName j x σ H1 D.nx) fun G cs ρ μ v H1 a rl r po => po.nowN (rl.set j r)
  exact wN_of q
theorem wF.rng {f : Ev} {i : Nat} {t : EvT} {el : Ev} {σ : L2.St} {H : Hp} {Q : VK} (h : wF Γ W (dLcR1 i f t el) σ H Q) : tLc (iRng1 (tCons (wE Γ W f) tNil)) (gName i) (wT Γ W0 t) (wE Γ W0 el) [i] σ H Q := by
  obtain ⟨G0, cs0, ρ, μ0, rl, po⟩ := h
  show wE Γ W f σ H _
  refine ⟨G0, cs0, ρ, μ0, rl, (PostF.bind (rep := RepS Γ.K) po).imp fun v H1 ⟨G1, cs1, a, μ1, g1, m1, q1, p1⟩ => ?_⟩
  have rl1 := rl.grow g1 m1
  split at p1
  · rename_i n
    have q1 : Rep Γ.K G1 v (.int n) := q1
    cases q1
    split at p1
    · rename_i hn
      simp only [Bool.and_eq_true, decide_eq_true_eq] at hn
      obtain ⟨h1, h2⟩ := in62_ok hn.1
      refine ⟨n, rfl, h1, h2, fun P hP => ?_⟩
      refine lc_range (lo := 0) (n := n.toNat) (fun k H => LcI Γ (wX Γ W σ) P i t el (ρ.set i none) G1 cs1 H1 Q ((rangeD 0 n.toNat).drop k) k H) (by simpa using LcI.start m1 hP p1) (fun k H hk h => ?_) (fun H h => ?_)
      · rw [range_drop hk] at h
        exact lc_turn hP (Nat.lt_of_lt_of_le hk hn.2) h (rl1.set0 i).s rl1.l fun G e => .int _
      · rw [List.drop_eq_nil_of_le (by simp [rangeD])] at h
        exact h.done hP hn.2
    · exact p1.elim
  · exact p1.elim
theorem d_lcR1 {elt a : Expr} {ifs : List Expr} {scope : Scope} {i : Nat} {x : Str} {xp pos p rp : Pos} {f : Ev} {t : EvT} {el : Ev} (hc : X.calm = true) (hN : X.N.Nodup) (hgr : Gl X "range") (hm : X.mg "range" = none) (hi : PE X a (wE Γ W f)) (ok : BlkOk X.N X.env.scope scope [(x, i)])
    (hg : ∀ (s : Shared) (H : Hp) (C : Addr) (cl : List (Str × Addr)) (fp : List Addr), PG (X.blk s H scope (compEnvC scope cl C X.env) fp) (.Name x xp) (gName i)) (ht : ∀ (s : Shared) (H : Hp) (C : Addr) (cl : List (Str × Addr)) (fp : List Addr), PTs (X.blk s H scope (compEnvC scope cl C X.env) fp) ifs (wT Γ W0 t))
    (he : ∀ (s : Shared) (H : Hp) (C : Addr) (cl : List (Str × Addr)) (fp : List Addr), PE (X.blk s H scope (compEnvC scope cl C X.env) fp) elt (wE Γ W0 el)) (hs1 : starEach [a] X.env = [(false, eval a X.env)] := by rfl) (hs : ∀ x, foldedSetIterable (.Call (.Name "range" p) [a] [] rp) X.env x = pure x := by intro _; rfl) :
    PE X (.ListComp elt [⟨.Name x xp, .Call (.Name "range" p) [a] [] rp, ifs, 0⟩] scope pos) (wF Γ W (dLcR1 i f t el)) :=
  pe_imp (pe_lc hc hN (pi_range1 hgr hm (pa_cons hi pa_nil hs1) (hs := hs1)) ok hg ht he hs) fun σ H Q h => wF.rng h
theorem s_asgLcR1I {y : Str} {j : Nat} {py : Pos} {elt a : Expr} {ifs : List Expr} {scope : Scope} {i : Nat} {x : Str} {xp pos spos p rp : Pos} {f : Ev} {t : EvT} {el : Ev} (hc : X.calm = true) (hN : X.N.Nodup) (hy : X.N[j]? = some y) (hyl : X.env.scope.names.lookup y = some .local)
    (hsw : swapsWith (.ListComp elt [⟨.Name x xp, .Call (.Name "range" p) [a] [] rp, ifs, 0⟩] scope pos) (some (.Name y py)) spos.line X.env = pure true) (hgr : Gl X "range") (hm : X.mg "range" = none) (hi : PE X a (wE Γ W f)) (ok : BlkOk X.N X.env.scope scope [(x, i)])
    (hg : ∀ (s : Shared) (H : Hp) (C : Addr) (cl : List (Str × Addr)) (fp : List Addr), PG (X.blk s H scope (compEnvC scope cl C X.env) fp) (.Name x xp) (gName i)) (ht : ∀ (s : Shared) (H : Hp) (C : Addr) (cl : List (Str × Addr)) (fp : List Addr), PTs (X.blk s H scope (compEnvC scope cl C X.env) fp) ifs (wT Γ W0 t))
    (he : ∀ (s : Shared) (H : Hp) (C : Addr) (cl : List (Str × Addr)) (fp : List Addr), PE (X.blk s H scope (compEnvC scope cl C X.env) fp) elt (wE Γ W0 el)) (hs1 : starEach [a] X.env = [(false, eval a X.env)] := by rfl) (hs : ∀ x, foldedSetIterable (.Call (.Name "range" p) [a] [] rp) X.env x = pure x := by intro _; rfl) :
    PS X (.Assign [.Name y py] (.ListComp elt [⟨.Name x xp, .Call (.Name "range" p) [a] [] rp, ifs, 0⟩] scope pos) spos) (wS Γ W (sAsg j (dI (dLcR1 i f t el)))) := by
  refine ps_imp (ps_setLc (i := j) hc hN hy hyl hsw (pi_range1 hgr hm (pa_cons hi pa_nil hs1) (hs := hs1)) ok hg ht he hs) fun D σ H h => ?_
  show tLc (iRng1 (tCons (wE Γ W f) tNil)) (gName i) (wT Γ W0 t) (wE Γ W0 el) [i] σ H fun x H1 => gName j x σ H1 D.nx
  refine wF.rng ?_
  have q := wE.stm h (Q1 := fun x H1 => gName j x σ H1 D.nx) fun G cs ρ μ v H1 a rl r po => po.nowN (rl.set j r)
  exact wI_of q

theorem s_asgLcR1N {y : Str} {j : Nat} {py : Pos} {elt a : Expr} {ifs : List Expr} {scope : Scope} {i : Nat} {x : Str} {xp pos spos p rp : Pos} {f : Ev} {t : EvT} {el : Ev} (hc : X.calm = true) (hN : X.N.Nodup) (hy : X.N[j]? = some y) (hyl : X.env.scope.names.lookup y = some .local)
    (hsw : swapsWith (.ListComp elt [⟨.Name x xp, .Call (.Name "range" p) [a] [] rp, ifs, 0⟩] scope pos) (some (.Name y py)) spos.line X.env = pure true) (hgr : Gl X "range") (hm : X.mg "range" = none) (hi : PE X a (wE Γ W f)) (ok : BlkOk X.N X.env.scope scope [(x, i)])
    (hg : ∀ (s : Shared) (H : Hp) (C : Addr) (cl : List (Str × Addr)) (fp : List Addr), PG (X.blk s H scope (compEnvC scope cl C X.env) fp) (.Name x xp) (gName i)) (ht : ∀ (s : Shared) (H : Hp) (C : Addr) (cl : List (Str × Addr)) (fp : List Addr), PTs (X.blk s H scope (compEnvC scope cl C X.env) fp) ifs (wT Γ W0 t))
    (he : ∀ (s : Shared) (H : Hp) (C : Addr) (cl : List (Str × Addr)) (fp : List Addr), PE (X.blk s H scope (compEnvC scope cl C X.env) fp) elt (wE Γ W0 el)) (hs1 : starEach [a] X.env = [(false, eval a X.env)] := by rfl) (hs : ∀ x, foldedSetIterable (.Call (.Name "range" p) [a] [] rp) X.env x = pure x := by intro _; rfl) :
    PS X (.Assign [.Name y py] (.ListComp elt [⟨.Name x xp, .Call (.Name "range" p) [a] [] rp, ifs, 0⟩] scope pos) spos) (wS Γ W (sAsg j (dN (dLcR1 i f t el)))) := by
  refine ps_imp (ps_setLc (i := j) hc hN hy hyl hsw (pi_range1 hgr hm (pa_cons hi pa_nil hs1) (hs := hs1)) ok hg ht he hs) fun D σ H h => ?_
  show tLc (iRng1 (tCons (wE Γ W f) tNil)) (gName i) (wT Γ W0 t) (wE Γ W0 el) [i] σ H fun x H1 => gName j x σ H1 D.nx
  refine wF.rng ?_
  have q := wE.stm h (Q1 := fun x H1 => gName j x σ H1 D.nx) fun G cs ρ μ v H1 a rl r po => po.nowN (rl.set j r)
  exact wN_of q

/-! ### calls of defs, and defs -/
/-- the promise of a def whose function is F, of n parameters -/
def spOf (Γ : Gm) (n : Nat) (F : List Sv → Mu → R Sv) : Sp := fun vs H Q E => vs.length = n ∧ ∃ G cs svs μ, RelM Γ G cs μ H ∧ RepA Γ.K G cs vs svs ∧ Post Γ (RepS Γ.K) (fun c d H' => E (Γ.xv c) d H') G cs H (F svs μ) Q
theorem RepA.length {K : PySem.W.Frag} {G : Hp} {cs : List Addr} : ∀ {vs : List V} {ss : List Sv}, RepA K G cs vs ss → vs.length = ss.length
  | _, _, .nil => rfl
  | _, _, .cons _ t => by simp [RepA.length t]
theorem d_call {n k : Nat} {fa : Addr} {fd : FuncData} {ps : List Str} {F : List Sv → Mu → R Sv} {x : Str} {e : Expr} {es : List Expr} {p pos : Pos} {g : EvA} (FO : FnOk X.prog X.w X.K X.mg X.base (L2.CX X.prog X.w) k fa fd ps (spOf Γ n F)) (hr : Room k X.A) (hm : X.mg x = some (.ref fa)) (hk : PySem.W.keepIn X.K (.ref fa) = true)
    (hb : Binds X.K fd ps []) (tk : Takes X W) (ha : PA X (e :: es) (wA Γ W g)) (hl : ∀ ρ μ a μ', g ρ μ = .ok a μ' → a.length = n) (hg : Gl X x := by rfl) (hdb : (x == ("__debug__" : Str)) = false := by decide)
    (he : starEach (e :: es) X.env = (false, eval e X.env) :: starEach es X.env := by rfl) (hpl : (backTo pos (starEach es X.env)).any (·.1) = false := by rfl) : PE X (.Call (.Name x p) (e :: es) [] pos) (wE Γ W (dCall F g)) := by
  refine pe_imp (pe_callS FO hr hg hm hk hb (fun σ => passAt tk σ) ha hdb he hpl) fun σ H Q h => ?_
  show wA Γ W g σ H _
  obtain ⟨G, cs, ρ, μ, rl, po⟩ := h
  refine ⟨G, cs, ρ, μ, rl, ?_⟩
  unfold dCall at po
  cases eg : g ρ μ with
  | ok a μ1 =>
    rw [eg] at po
    intro G1 cs1 H1 v g1 m1 q1
    exact ⟨by rw [q1.length]; exact hl _ _ _ _ eg, G1, cs1, a, μ1, m1, q1, Post.mono (show Post Γ (RepS Γ.K) (wX Γ W σ) G cs H (F a μ1) Q from po) g1⟩
  | ex c μ1 => rw [eg] at po; exact po
  | no => rw [eg] at po; exact po
theorem acons_len {f : Ev} {g : EvA} {n : Nat} (h : ∀ ρ μ a μ', g ρ μ = .ok a μ' → a.length = n) : ∀ ρ μ a μ', dACons f g ρ μ = .ok a μ' → a.length = n + 1 := by
  intro ρ μ a μ' e
  unfold dACons at e
  cases e1 : f ρ μ with
  | ok v μ1 =>
    rw [e1] at e
    simp only [R.bind] at e
    cases e2 : g ρ μ1 with
    | ok vs μ2 => rw [e2] at e; cases e; simp [h _ _ _ _ e2]
    | ex c μ2 => rw [e2] at e; cases e
    | no => rw [e2] at e; cases e
  | ex c μ1 => rw [e1] at e; cases e
  | no => rw [e1] at e; cases e
theorem anil_len : ∀ ρ μ a μ', dANil ρ μ = .ok a μ' → a.length = 0 := by
  intro ρ μ a μ' e; cases e; rfl
theorem start_rel {G H : Hp} {cs : List Addr} {μ : Mu} {vs : List V} {svs : List Sv} {N : List Str} (m : RelM Γ G cs μ H) (r : RepA Γ.K G cs vs svs) (hl : vs.length ≤ N.length) : Rel Γ G cs (svs.map some ++ List.replicate (N.length - svs.length) none) μ (L2.start N vs) H := by
  have el := r.length
  refine ⟨m, fun i sv e => ?_, ?_⟩
  · unfold L2.start
    by_cases hi : i < svs.length
    · rw [List.getElem?_append_left (by simpa using hi), List.getElem?_map] at e
      have key : ∀ {vs : List V} {svs : List Sv} {i : Nat} {s : Sv}, RepA Γ.K G cs vs svs → svs[i]? = some s → ∃ v, vs[i]? = some v ∧ RepS Γ.K G cs v s := by
        intro vs svs i s r
        induction r generalizing i with
        | nil => intro e; simp at e
        | cons h t ih =>
          cases i with
          | zero => intro e; simp at e; subst e; exact ⟨_, rfl, h⟩
          | succ i => intro e; simpa using ih (by simpa using e)
      cases q : svs[i]? with
      | none => rw [q] at e; cases e
      | some s =>
        rw [q] at e
        cases e
        obtain ⟨v, h1, h2⟩ := key r q
        exact ⟨v, by rw [List.getElem?_append_left (by simpa [el] using hi), List.getElem?_map, h1]; rfl, h2⟩
    · rw [List.getElem?_append_right (by simpa using hi), List.getElem?_replicate] at e
      split at e <;> cases e
  · unfold L2.start
    simp only [List.length_append, List.length_map, List.length_replicate]
    omega
theorem low_take {G H : Hp} {cs : List Addr} {μ : Mu} (m : RelM Γ G cs μ H) (n : Nat) (lo : (μ.take n).all (Cell.low n) = true) : RelM Γ G (cs.take n) (μ.take n) H := by
  refine ⟨m.sub, by simp [m.len], m.nd.sublist (List.take_sublist _ _), fun k a c e1 e2 => ?_⟩
  have hk : k < n := by
    have := (List.getElem?_eq_some_iff.mp e1).1
    simp at this; omega
  rw [List.getElem?_take_of_lt hk] at e1
  have e2' := e2
  rw [List.getElem?_take_of_lt hk] at e2
  have r := m.cell k a c e1 e2
  cases c with
  | lst xs => exact r
  | dk xs => exact r
  | dt xs => exact r
  | fz d => exact r
  | ob fs =>
    obtain ⟨g, dx, vs, q, r⟩ := r
    refine ⟨g, dx, vs, q, ?_⟩
    rw [List.all_eq_true] at lo
    have lw : fs.all (fun p => p.2.low n) = true := lo _ (List.mem_of_getElem? e2')
    rw [List.all_eq_true] at lw
    clear q e2 e2'
    induction r with
    | nil => exact .nil
    | cons h t ih =>
      refine .cons ?_ (ih fun x hx => lw x (List.mem_cons_of_mem _ hx))
      have l1 := lw _ List.mem_cons_self
      rename_i d ds
      cases d with
      | im d => exact h
      | rf j =>
        obtain ⟨a', h1, h2⟩ := h
        have hj : j < n := by simpa [Sv.low] using l1
        exact ⟨a', by rw [List.getElem?_take_of_lt hj]; exact h1, h2⟩
  | dv fs =>
    obtain ⟨g, kn, vs, q, r⟩ := r
    refine ⟨g, kn, vs, q, ?_⟩
    rw [List.all_eq_true] at lo
    have lw : fs.all (fun p => p.2.low n) = true := lo _ (List.mem_of_getElem? e2')
    rw [List.all_eq_true] at lw
    clear q e2 e2' kn
    induction r with
    | nil => exact .nil
    | cons gk h t ih =>
      refine .cons gk ?_ (ih fun x hx => lw x (List.mem_cons_of_mem _ hx))
      have l1 := lw _ List.mem_cons_self
      rename_i d ds
      cases d with
      | im d => exact h
      | rf j =>
        obtain ⟨a', h1, h2⟩ := h
        have hj : j < n := by simpa [Sv.low] using l1
        exact ⟨a', by rw [List.getElem?_take_of_lt hj]; exact h1, h2⟩
theorem Grow.take {G H G' H' : Hp} {cs cs' : List Addr} (g : Grow G cs H G' cs' H') {n : Nat} (hn : n = cs.length) : Grow G cs H G' (cs'.take n) H' := by
  subst hn
  refine ⟨g.ex, ?_, g.fr, fun a h1 h2 h3 => g.n1 a h1 h2 (List.mem_of_mem_take h3), g.n2⟩
  obtain ⟨t, rfl⟩ := g.pre
  rw [List.take_left]
  exact List.prefix_refl _
/-- a def's body keeps its promise: data is handed back -/
theorem fn_read {N : List Str} {b : EvS} {n : Nat} {vs : List V} {H : Hp} {Q : VK} {E : XK} (hn : n ≤ N.length) (h : spOf Γ n (dFn N.length b) vs H Q E) :
    wS Γ (fun cls d _ H' => E cls d H') b { nx := fun _ H' => Q .non H', rt := Q } (L2.start N vs) H := by
  obtain ⟨hl, G, cs, svs, μ, m, r, po⟩ := h
  refine ⟨G, cs, _, μ, start_rel m r (by rw [hl]; exact hn), ?_⟩
  unfold dFn at po
  cases e : b (svs.map some ++ List.replicate (N.length - svs.length) none) μ with
  | rt v μ1 =>
    rw [e] at po
    intro G1 cs1 H1 u g1 m1 q1
    dsimp only at po
    split at po
    · rename_i d μ2 ef
      split at po
      · rename_i hlo
        simp only [Bool.and_eq_true] at hlo
        obtain ⟨G2, g2, m2, r2⟩ := frz_ok m1 q1 ef
        exact po.at ((g1.trans g2).take m.len.symm) (low_take m2 _ hlo.1) r2
      · exact po.elim
    · exact po.elim
  | nx ρ1 μ1 =>
    rw [e] at po
    intro G1 cs1 H1 σ1 g1 r1
    dsimp only at po
    split at po
    · rename_i hlo
      simp only [Bool.and_eq_true] at hlo
      exact po.at (g1.take m.len.symm) (low_take r1.m _ hlo.1) .non
    · exact po.elim
  | ex c ρ1 μ1 =>
    rw [e] at po
    intro G1 cs1 H1 σ1 g1 r1
    dsimp only at po
    split at po
    · rename_i hlo
      simp only [Bool.and_eq_true] at hlo
      exact po _ _ _ (g1.take m.len.symm) (low_take r1.m _ hlo.1)
    · exact po.elim
  | bk ρ1 μ1 => rw [e] at po; exact po.elim
  | ct ρ1 μ1 => rw [e] at po; exact po.elim
  | no => rw [e] at po; exact po.elim
/-- .. whatever is handed back, cells too -/
theorem fn_readR {N : List Str} {b : EvS} {n : Nat} {vs : List V} {H : Hp} {Q : VK} {E : XK} (hn : n ≤ N.length) (h : spOf Γ n (dFnR N.length b) vs H Q E) :
    wS Γ (fun cls d _ H' => E cls d H') b { nx := fun _ H' => Q .non H', rt := Q } (L2.start N vs) H := by
  obtain ⟨hl, G, cs, svs, μ, m, r, po⟩ := h
  refine ⟨G, cs, _, μ, start_rel m r (by rw [hl]; exact hn), ?_⟩
  unfold dFnR at po
  cases e : b (svs.map some ++ List.replicate (N.length - svs.length) none) μ with
  | rt v μ1 =>
    rw [e] at po
    exact fun G1 cs1 H1 u g1 m1 q1 => po.at g1 m1 q1
  | nx ρ1 μ1 =>
    rw [e] at po
    exact fun G1 cs1 H1 σ1 g1 r1 => po.at g1 r1.m .non
  | ex c ρ1 μ1 =>
    rw [e] at po
    exact fun G1 cs1 H1 σ1 g1 r1 => po _ _ _ g1 r1.m
  | bk ρ1 μ1 => rw [e] at po; exact po.elim
  | ct ρ1 μ1 => rw [e] at po; exact po.elim
  | no => rw [e] at po; exact po.elim
end
end SP

/-! SPg: built-ins. -/
namespace SP
open PySem L2

section
variable {Γ : Gm} {X : Cx} {W : WX}
theorem d_b1 {id : String} {r : List V → Hp → VK → Prop} {x : Str} {p : Pos} {e : Expr} {pos : Pos} {f : Ev} {q : Sv → Mu → R Sv} (hc : CallR X (.builtin id) r) (hr : Pr1 Γ q fun x H Q => r [x] H Q) (hm : X.mg x = none) (hv : bootBuiltins x = some (.builtin id)) (ha : PE X e (wE Γ W f)) (hg : Gl X x := by rfl) (hn : x ≠ "__name__" := by decide) (hdb : (x == ("__debug__" : Str)) = false := by decide)
    (he : starEach (e :: []) X.env = (false, eval e X.env) :: starEach [] X.env := by rfl) (hpl : (backTo pos (starEach [] X.env)).any (·.1) = false := by rfl) : PE X (.Call (.Name x p) [e] [] pos) (wE Γ W (dOp1 q f)) := by
  refine pe_imp (pe_callB hc hg hm hv (pa_cons ha pa_nil he) hn hdb he hpl) fun σ H Q h => ?_
  exact wE.of (te := wE Γ W f) (fun _ _ => rfl) h fun G cs μ v H1 a m ra p => hr _ G cs μ H1 v a Q m ra p
theorem d_t1 {T : String} {r : List V → Hp → VK → Prop} {x : Str} {p : Pos} {e : Expr} {pos : Pos} {f : Ev} {q : Sv → Mu → R Sv} (hc : CallR X (.type T) r) (hr : Pr1 Γ q fun x H Q => r [x] H Q) (hm : X.mg x = none) (hv : bootBuiltins x = some (.type T)) (ha : PE X e (wE Γ W f)) (hg : Gl X x := by rfl) (hn : x ≠ "__name__" := by decide) (hdb : (x == ("__debug__" : Str)) = false := by decide)
    (he : starEach (e :: []) X.env = (false, eval e X.env) :: starEach [] X.env := by rfl) (hpl : (backTo pos (starEach [] X.env)).any (·.1) = false := by rfl) : PE X (.Call (.Name x p) [e] [] pos) (wE Γ W (dOp1 q f)) := by
  refine pe_imp (pe_callTy hc hg hm hv (pa_cons ha pa_nil he) hn hdb he hpl) fun σ H Q h => ?_
  exact wE.of (te := wE Γ W f) (fun _ _ => rfl) h fun G cs μ v H1 a m ra p => hr _ G cs μ H1 v a Q m ra p
theorem d_t1F {T : String} {r : List V → Hp → VK → Prop} {x : Str} {p : Pos} {e : Expr} {pos : Pos} {f : Ev} {q : Sv → Mu → R Cell} (hc : CallR X (.type T) r) (hr : PrF Γ q fun x H Q => r [x] H Q) (hm : X.mg x = none) (hv : bootBuiltins x = some (.type T)) (ha : PE X e (wE Γ W f)) (hg : Gl X x := by rfl) (hn : x ≠ "__name__" := by decide) (hdb : (x == ("__debug__" : Str)) = false := by decide)
    (he : starEach (e :: []) X.env = (false, eval e X.env) :: starEach [] X.env := by rfl) (hpl : (backTo pos (starEach [] X.env)).any (·.1) = false := by rfl) : PE X (.Call (.Name x p) [e] [] pos) (wF Γ W (dOpF q f)) := by
  refine pe_imp (pe_callTy hc hg hm hv (pa_cons ha pa_nil he) hn hdb he hpl) fun σ H Q h => ?_
  exact wF.of (fun _ _ => rfl) h fun G cs μ v H1 a m ra p => hr _ G cs μ H1 v a Q m ra p
theorem d_b2 {id : String} {r : List V → Hp → VK → Prop} {x : Str} {p : Pos} {e e2 : Expr} {pos : Pos} {f f2 : Ev} {q : Sv → Sv → Mu → R Sv} (hc : CallR X (.builtin id) r) (hr : Pr2 Γ q fun x y H Q => r [x, y] H Q) (hm : X.mg x = none) (hv : bootBuiltins x = some (.builtin id)) (ha : PE X e (wE Γ W f)) (hb : PE X e2 (wE Γ W f2)) (hg : Gl X x := by rfl) (hn : x ≠ "__name__" := by decide) (hdb : (x == ("__debug__" : Str)) = false := by decide)
    (he : starEach (e :: [e2]) X.env = (false, eval e X.env) :: starEach [e2] X.env := by rfl) (he2 : starEach (e2 :: []) X.env = (false, eval e2 X.env) :: starEach [] X.env := by rfl) (hpl : (backTo pos (starEach [e2] X.env)).any (·.1) = false := by rfl) : PE X (.Call (.Name x p) [e, e2] [] pos) (wE Γ W (dOp2 q f f2)) := by
  refine pe_imp (pe_callB hc hg hm hv (pa_cons ha (pa_cons hb pa_nil he2) he) hn hdb he hpl) fun σ H Q h => ?_
  exact wE.two (r := fun x y H Q => r [x, y] H Q) hr h

/-! ### len -/
theorem pr_len (hK : X.K = Γ.K) : Pr1 Γ (p1 gLen) fun x H Q => (∃ y n, [x] = [y] ∧ LenV X.K y H n ∧ Q (.int n) H) ∨ ((∃ a kvs, [x] = [V.ref a] ∧ H a = some (.dK kvs) ∧ Q (.int kvs.length) H) ∨ rLenT [x] H Q) := pr1_pure fun G H x d q Q s rx hq k => by
  unfold gLen at hq
  split at hq
  · cases hq; cases rx with
    | lst h n r => exact .inl ⟨_, _, rfl, .inl ⟨_, .of h, r.length.symm⟩, k _ (.int _)⟩
  · cases hq; cases rx with
    | tup h n r => exact .inl ⟨_, _, rfl, .inr ⟨_, .of h, r.length.symm⟩, k _ (.int _)⟩
  · cases hq; cases rx with
    | scr h n => exact .inl ⟨_, _, rfl, .inl ⟨_, by rw [hK]; exact h, by simp⟩, k _ (.int _)⟩
  · cases hq; cases rx with
    | str _ g => exact .inl ⟨_, _, rfl, ⟨Nat.le_trans g.1 maxN_le, rfl⟩, k _ (.int _)⟩
  · cases hq; cases rx with
    | dk h n r => exact .inr (.inl ⟨_, _, rfl, h, by rw [r.length]; exact k _ (.int _)⟩)
  · cases hq; cases rx with
    | dt h n r => exact .inr (.inr ⟨_, _, rfl, h, by rw [r.length]; exact k _ (.int _)⟩)
  · cases hq
theorem d_len {p : Pos} {e : Expr} {pos : Pos} {f : Ev} (hm : X.mg "len" = none) (ha : PE X e (wE Γ W f)) (hg : Gl X "len" := by rfl) (he : starEach (e :: []) X.env = (false, eval e X.env) :: starEach [] X.env := by rfl) (hpl : (backTo pos (starEach [] X.env)).any (·.1) = false := by rfl) (hK : X.K = Γ.K := by rfl) :
    PE X (.Call (.Name "len" p) [e] [] pos) (wE Γ W (dOp1 (p1 gLen) f)) := d_b1 (cr_or call_len (cr_or call_lenD call_len_dT)) (pr_len hK) hm PySem.boot_len ha hg (he := he) (hpl := hpl)

/-! ### list(..) -/
theorem repk_keys {K : PySem.W.Frag} {G H : Hp} : ∀ {vs : List (Key × V)} {ds : List (Key × SP.D)}, RepK K G vs ds → Reps K H (vs.map fun kv => kV kv.1) (ds.map fun kv => match kv.1 with | .inl i => .int i | .inr s => .str s)
  | _, _, .nil => .nil
  | _, _, .cons (k := .inl i) _ h r => .cons (.int i) (repk_keys r)
  | _, _, .cons (k := .inr s) g h r => .cons (.str s g) (repk_keys r)
theorem pr_list (hK : X.K = Γ.K) : PrF Γ fList fun x H Q => (∃ p ys, [x] = [V.ref p] ∧ (SqL X.K H p ys ∨ SqT X.K H p ys) ∧ ∀ l, H l = none → Q (.ref l) (upd H l (.lst ys))) ∨ (∃ (a : Addr) (kvs : List (Key × V)), [x] = [V.ref a] ∧ Rd H a (.dK kvs) ∧ ∀ p, H p = none → Q (.ref p) (upd H p (.lst (kvs.map fun kv => kV kv.1)))) := by
  intro E G cs μ H x sa Q m ra p
  unfold fList at p
  cases e : look μ sa with
  | none => rw [e] at p; exact p.elim
  | some d =>
    rw [e] at p
    have r := look_L m ra e
    cases r with
    | lst h n r => exact .inl ⟨_, _, rfl, .inl (.of h), fun l hl => p.lay m hl _ fun gp _ => ⟨gp, n, _, upd_same, r⟩⟩
    | tup h n r => exact .inl ⟨_, _, rfl, .inr (.of h), fun l hl => p.lay m hl _ fun gp _ => ⟨gp, n, _, upd_same, r⟩⟩
    | dk h n r => exact .inr ⟨_, _, rfl, .inl h, fun l hl => p.lay m hl _ fun gp _ => ⟨gp, by simpa using n, _, upd_same, repk_keys r⟩⟩
    | non => exact p.elim
    | bl b => exact p.elim
    | int i => exact p.elim
    | str s h => exact p.elim
    | dt h n r => exact p.elim
    | scr h n => exact p.elim
theorem d_list {p : Pos} {e : Expr} {pos : Pos} {f : Ev} (hc : X.calm = true) (hm : X.mg "list" = none) (ha : PE X e (wE Γ W f)) (hg : Gl X "list" := by rfl) (he : starEach (e :: []) X.env = (false, eval e X.env) :: starEach [] X.env := by rfl) (hpl : (backTo pos (starEach [] X.env)).any (·.1) = false := by rfl) (hK : X.K = Γ.K := by rfl) :
    PE X (.Call (.Name "list" p) [e] [] pos) (wF Γ W (dOpF fList f)) := d_t1F (cr_or call_list_of (call_listD hc)) (pr_list hK) hm PyProof.Rows.boot_list ha hg (he := he) (hpl := hpl)

/-! ### greatest, least, sums -/
theorem pr2_g {g : SP.D → SP.D → Option SP.D} {r : V → V → Hp → VK → Prop} (F : Int → Int → Int) (hg : ∀ d e q, g d e = some q → ∃ i j, d = .int i ∧ e = .int j ∧ q = .int (F i j)) (hr : ∀ i j H Q, Q (.int (F i j)) H → r (.int i) (.int j) H Q) : Pr2 Γ (p2 g) r := pr2_pure fun G H x y d e q Q s rx ry hq k => by
  obtain ⟨i, j, rfl, rfl, rfl⟩ := hg d e q hq
  cases rx; cases ry
  exact hr _ _ _ _ (k _ (.int _))
theorem d_max2 {p : Pos} {e e2 : Expr} {pos : Pos} {f f2 : Ev} (hc : X.calm = true) (hm : X.mg "max" = none) (ha : PE X e (wE Γ W f)) (hb : PE X e2 (wE Γ W f2)) (hg : Gl X "max" := by rfl)
    (he : starEach (e :: [e2]) X.env = (false, eval e X.env) :: starEach [e2] X.env := by rfl) (he2 : starEach (e2 :: []) X.env = (false, eval e2 X.env) :: starEach [] X.env := by rfl) (hpl : (backTo pos (starEach [e2] X.env)).any (·.1) = false := by rfl) :
    PE X (.Call (.Name "max" p) [e, e2] [] pos) (wE Γ W (dOp2 (p2 gMax2) f f2)) :=
  d_b2 (call_max2 hc) (pr2_g (fun i j => if j > i then j else i) (fun d e q h => by unfold gMax2 at h; split at h <;> cases h; exact ⟨_, _, rfl, rfl, rfl⟩) fun i j H Q q => ⟨i, j, rfl, q⟩) hm PyProof.Rows.boot_max ha hb hg (he := he) (he2 := he2) (hpl := hpl)
theorem d_min2 {p : Pos} {e e2 : Expr} {pos : Pos} {f f2 : Ev} (hc : X.calm = true) (hm : X.mg "min" = none) (ha : PE X e (wE Γ W f)) (hb : PE X e2 (wE Γ W f2)) (hg : Gl X "min" := by rfl)
    (he : starEach (e :: [e2]) X.env = (false, eval e X.env) :: starEach [e2] X.env := by rfl) (he2 : starEach (e2 :: []) X.env = (false, eval e2 X.env) :: starEach [] X.env := by rfl) (hpl : (backTo pos (starEach [e2] X.env)).any (·.1) = false := by rfl) :
    PE X (.Call (.Name "min" p) [e, e2] [] pos) (wE Γ W (dOp2 (p2 gMin2) f f2)) :=
  d_b2 (call_min2 hc) (pr2_g (fun i j => if j < i then j else i) (fun d e q h => by unfold gMin2 at h; split at h <;> cases h; exact ⟨_, _, rfl, rfl, rfl⟩) fun i j H Q q => ⟨i, j, rfl, q⟩) hm PyProof.Rows.boot_min ha hb hg (he := he) (he2 := he2) (hpl := hpl)
theorem asInts_ok {K : PySem.W.Frag} {G : Hp} : ∀ {ds : List SP.D} {ns : List Int} {vs : List V}, asInts ds = some ns → Reps K G vs ds → vs = ns.map V.int
  | [], _, _, e, .nil => by simp only [asInts] at e; cases e; rfl
  | .int i :: r, ns, _, e, .cons h t => by
    simp only [asInts] at e
    cases q : asInts r with
    | none => rw [q] at e; cases e
    | some m =>
      rw [q] at e; cases e
      cases h
      rw [asInts_ok q t]; rfl
  | .non :: _, _, _, e, _ => by simp [asInts] at e
  | .bl _ :: _, _, _, e, _ => by simp [asInts] at e
  | .str _ :: _, _, _, e, _ => by simp [asInts] at e
  | .tup _ :: _, _, _, e, _ => by simp [asInts] at e
  | .lst _ :: _, _, _, e, _ => by simp [asInts] at e
  | .dk _ :: _, _, _, e, _ => by simp [asInts] at e
  | .dt _ :: _, _, _, e, _ => by simp [asInts] at e
  | .scr _ :: _, _, _, e, _ => by simp [asInts] at e
theorem leastI_ok : ∀ (l : List Int) (a : Int), (leastI a l ∈ a :: l) ∧ ∀ y ∈ a :: l, leastI a l ≤ y
  | [], a => ⟨List.mem_cons_self, fun y h => by simp at h; subst h; exact Int.le_refl _⟩
  | b :: r, a => by
    simp only [leastI]
    obtain ⟨h1, h2⟩ := leastI_ok r (if b < a then b else a)
    have hm := h2 _ List.mem_cons_self
    have k1 : (if b < a then b else a) ≤ a := by split <;> omega
    have k2 : (if b < a then b else a) ≤ b := by split <;> omega
    refine ⟨?_, fun y hy => ?_⟩
    · rcases List.mem_cons.mp h1 with e | h
      · rw [e]; split <;> simp
      · simp [h]
    · rcases List.mem_cons.mp hy with e | h
      · subst e; exact Int.le_trans hm k1
      · rcases List.mem_cons.mp h with e | h
        · subst e; exact Int.le_trans hm k2
        · exact h2 y (List.mem_cons_of_mem _ h)
theorem mostI_ok : ∀ (l : List Int) (a : Int), (mostI a l ∈ a :: l) ∧ ∀ y ∈ a :: l, y ≤ mostI a l
  | [], a => ⟨List.mem_cons_self, fun y h => by simp at h; subst h; exact Int.le_refl _⟩
  | b :: r, a => by
    simp only [mostI]
    obtain ⟨h1, h2⟩ := mostI_ok r (if b > a then b else a)
    have hm := h2 _ List.mem_cons_self
    have k1 : a ≤ (if b > a then b else a) := by split <;> omega
    have k2 : b ≤ (if b > a then b else a) := by split <;> omega
    refine ⟨?_, fun y hy => ?_⟩
    · rcases List.mem_cons.mp h1 with e | h
      · rw [e]; split <;> simp
      · simp [h]
    · rcases List.mem_cons.mp hy with e | h
      · subst e; exact Int.le_trans k1 hm
      · rcases List.mem_cons.mp h with e | h
        · subst e; exact Int.le_trans k2 hm
        · exact h2 y (List.mem_cons_of_mem _ h)
theorem pr_min1 (hK : X.K = Γ.K) : Pr1 Γ (p1 gMin1) fun x H Q => rMin X.K [x] H Q := pr1_pure fun G H x d q Q s rx hq k => by
  unfold gMin1 at hq
  split at hq
  · split at hq
    · rename_i a r hi
      cases hq
      cases rx with
      | lst h n rs =>
        have e := asInts_ok hi rs
        subst e
        refine ⟨_, a :: r, rfl, .of h, by simp, fun m hm hl => ?_⟩
        obtain ⟨h1, h2⟩ := leastI_ok r a
        have : m = leastI a r := Int.le_antisymm (hl _ h1) (h2 _ hm)
        rw [this]
        exact k _ (.int _)
    · cases hq
  · cases hq
theorem d_min1 {p : Pos} {e : Expr} {pos : Pos} {f : Ev} (hc : X.calm = true) (hm : X.mg "min" = none) (ha : PE X e (wE Γ W f)) (hg : Gl X "min" := by rfl) (he : starEach (e :: []) X.env = (false, eval e X.env) :: starEach [] X.env := by rfl) (hpl : (backTo pos (starEach [] X.env)).any (·.1) = false := by rfl) (hK : X.K = Γ.K := by rfl) :
    PE X (.Call (.Name "min" p) [e] [] pos) (wE Γ W (dOp1 (p1 gMin1) f)) := d_b1 (cr_min hc) (pr_min1 hK) hm PyProof.Rows.boot_min ha hg (he := he) (hpl := hpl)
theorem pr_max1 (hK : X.K = Γ.K) : Pr1 Γ (p1 gMax1) fun x H Q => rMax X.K [x] H Q := pr1_pure fun G H x d q Q s rx hq k => by
  unfold gMax1 at hq
  split at hq
  · split at hq
    · rename_i a r hi
      cases hq
      cases rx with
      | lst h n rs =>
        have e := asInts_ok hi rs
        subst e
        refine ⟨_, a :: r, rfl, .of h, by simp, fun m hm hl => ?_⟩
        obtain ⟨h1, h2⟩ := mostI_ok r a
        have : m = mostI a r := Int.le_antisymm (h2 _ hm) (hl _ h1)
        rw [this]
        exact k _ (.int _)
    · cases hq
  · cases hq
theorem d_max1 {p : Pos} {e : Expr} {pos : Pos} {f : Ev} (hc : X.calm = true) (hm : X.mg "max" = none) (ha : PE X e (wE Γ W f)) (hg : Gl X "max" := by rfl) (he : starEach (e :: []) X.env = (false, eval e X.env) :: starEach [] X.env := by rfl) (hpl : (backTo pos (starEach [] X.env)).any (·.1) = false := by rfl) (hK : X.K = Γ.K := by rfl) :
    PE X (.Call (.Name "max" p) [e] [] pos) (wE Γ W (dOp1 (p1 gMax1) f)) := d_b1 (cr_max hc) (pr_max1 hK) hm PyProof.Rows.boot_max ha hg (he := he) (hpl := hpl)
theorem pr_sum (hK : X.K = Γ.K) : Pr1 Γ (p1 gSum) fun x H Q => rSum X.K [x] H Q := pr1_pure fun G H x d q Q s rx hq k => by
  unfold gSum at hq
  split at hq
  · rename_i xs
    cases hi : asInts xs with
    | none => rw [hi] at hq; cases hq
    | some ns =>
      rw [hi] at hq; cases hq
      cases rx with
      | lst h n rs =>
        have e := asInts_ok hi rs
        subst e
        exact ⟨_, ns, rfl, .of h, k _ (.int _)⟩
  · cases hq
theorem d_sum {p : Pos} {e : Expr} {pos : Pos} {f : Ev} (hc : X.calm = true) (hm : X.mg "sum" = none) (ha : PE X e (wE Γ W f)) (hg : Gl X "sum" := by rfl) (he : starEach (e :: []) X.env = (false, eval e X.env) :: starEach [] X.env := by rfl) (hpl : (backTo pos (starEach [] X.env)).any (·.1) = false := by rfl) (hK : X.K = Γ.K := by rfl) :
    PE X (.Call (.Name "sum" p) [e] [] pos) (wE Γ W (dOp1 (p1 gSum) f)) := d_b1 (cr_sum hc) (pr_sum hK) hm (by decide +kernel) ha hg (he := he) (hpl := hpl)
theorem d_abs {p : Pos} {e : Expr} {pos : Pos} {f : Ev} (hm : X.mg "abs" = none) (ha : PE X e (wE Γ W f)) (hg : Gl X "abs" := by rfl) (he : starEach (e :: []) X.env = (false, eval e X.env) :: starEach [] X.env := by rfl) (hpl : (backTo pos (starEach [] X.env)).any (·.1) = false := by rfl) :
    PE X (.Call (.Name "abs" p) [e] [] pos) (wE Γ W (dOp1 (p1 gAbs) f)) := d_b1 call_abs (pr1_pure fun G H x d q Q s rx hq k => by
      unfold gAbs at hq; split at hq <;> cases hq
      cases rx; exact ⟨_, rfl, k _ (.int _)⟩) hm PyProof.Rows.boot_abs ha hg (he := he) (hpl := hpl)

/-! ### isinstance of built-in classes -/
theorem tyx_of {K : PySem.W.Frag} {G H : Hp} {x : V} {d : SP.D} (r : RepL K G H x d) (h : ∀ ns, d ≠ .scr ns) : TyX K H x (.type d.tyN) := by
  cases r with
  | non => exact .base .non
  | bl b => exact .base (.bl b)
  | int i => exact .base (.int i)
  | str s _ => exact .base (.str s)
  | tup q _ _ => exact .base (.tup q)
  | lst q _ _ => exact .base (.lst q)
  | dk q _ _ => exact .base (.dK q)
  | dt q _ _ => exact .base (.dT q)
  | scr _ _ => exact absurd rfl (h _)
def Known (T : String) : Prop := ∀ d : SP.D, (∀ ns, d ≠ .scr ns) → kitB d.tyN T = some (isTy T d)
theorem known_of {T : String} (h : (["NoneType", "bool", "int", "str", "tuple", "list", "dict"].all fun a => kitB a T == some (a == T || (a == "bool" && T == "int"))) = true) : Known T := by
  intro d hd
  rw [List.all_eq_true] at h
  have key : d.tyN ∈ ["NoneType", "bool", "int", "str", "tuple", "list", "dict"] := by
    cases d <;> first | (exact absurd rfl (hd _)) | (simp [D.tyN])
  have := h _ key
  unfold isTy
  simpa using this
theorem d_isi {T : String} {p : Pos} {e e2 : Expr} {pos : Pos} {f : Ev} (kn : Known T) (hm : X.mg "isinstance" = none) (ha : PE X e (wE Γ W f)) (hb : PE X e2 (tC (.ty T))) (hg : Gl X "isinstance" := by rfl)
    (he : starEach (e :: [e2]) X.env = (false, eval e X.env) :: starEach [e2] X.env := by rfl) (he2 : starEach (e2 :: []) X.env = (false, eval e2 X.env) :: starEach [] X.env := by rfl) (hpl : (backTo pos (starEach [e2] X.env)).any (·.1) = false := by rfl) (hK : X.K = Γ.K := by rfl) :
    PE X (.Call (.Name "isinstance" p) [e, e2] [] pos) (wE Γ W (dOp1 (p1 (gIsi T)) f)) := by
  refine pe_imp (pe_callB call_isi hg hm PyProof.Rows.boot_isinstance (pa_cons ha (pa_cons hb pa_nil he2) he) (he := he) (hpl := hpl)) fun σ H Q h => ?_
  refine wE.of (te := wE Γ W f) (fun _ _ => rfl) h fun G cs μ v H1 a m ra p => ?_
  unfold p1 at p
  split at p
  · rename_i d hd
    split at p
    · rename_i q hq
      have rl := look_L m ra hd
      have hs : ∀ ns, d ≠ .scr ns := fun ns z => by subst z; simp [gIsi] at hq
      have e : q = .bl (isTy T d) := by
        cases d <;> first | (exact absurd rfl (hs _)) | (simp only [gIsi] at hq; exact (Option.some.inj hq).symm)
      subst e
      refine ⟨v, .ty T, .type d.tyN, .type T, isTy T d, rfl, .ty T, by rw [hK]; exact tyx_of rl hs, kit_ty (kn d hs), p.now m (.bl _)⟩
    · exact p.elim
  · exact p.elim
theorem d_tyName {x : Str} {T : String} {p : Pos} (hm : X.mg x = none) (hv : bootBuiltins x = some (.type T)) (hg : Gl X x := by rfl) (hn : x ≠ "__name__" := by decide) (hd : (x == ("__debug__" : Str)) = false := by decide) : PE X (.Name x p) (tC (.ty T)) := pe_bltn hg hm hv rfl hn hd
theorem kn_tuple : Known "tuple" := known_of (by decide +kernel)
theorem kn_list : Known "list" := known_of (by decide +kernel)
theorem kn_int : Known "int" := known_of (by decide +kernel)
theorem kn_bool : Known "bool" := known_of (by decide +kernel)
theorem kn_str : Known "str" := known_of (by decide +kernel)

/-! ### and, or of truth values; chains -/
theorem d_andV {a b : Expr} {rest : List Expr} {pos : Pos} {f g : Ev} (ha : PE X a (wE Γ W f)) (hb : PE X (.BoolOp .And (b :: rest) pos) (wE Γ W g)) : PE X (.BoolOp .And (a :: b :: rest) pos) (wE Γ W (dAnd f g)) := by
  refine pe_imp (pe_and ha hb) fun σ H Q h => ?_
  obtain ⟨G, cs, ρ, μ, rl, po⟩ := h
  refine ⟨G, cs, ρ, μ, rl, (Post.bind (rep := RepS Γ.K) po).imp fun x H1 ⟨G1, cs1, a, μ1, g1, m1, q1, p1⟩ => ?_⟩
  split at p1
  · have q1 : Rep Γ.K G1 x (.bl true) := q1
    cases q1
    exact ⟨true, rfl, G1, cs1, ρ, μ1, rl.grow g1 m1, p1⟩
  · have q1 : Rep Γ.K G1 x (.bl false) := q1
    cases q1
    exact ⟨false, rfl, p1.now m1 (.bl _)⟩
  · exact p1.elim
theorem d_orV {a b : Expr} {rest : List Expr} {pos : Pos} {f g : Ev} (ha : PE X a (wE Γ W f)) (hb : PE X (.BoolOp .Or (b :: rest) pos) (wE Γ W g)) : PE X (.BoolOp .Or (a :: b :: rest) pos) (wE Γ W (dOr f g)) := by
  refine pe_imp (pe_or ha hb) fun σ H Q h => ?_
  obtain ⟨G, cs, ρ, μ, rl, po⟩ := h
  refine ⟨G, cs, ρ, μ, rl, (Post.bind (rep := RepS Γ.K) po).imp fun x H1 ⟨G1, cs1, a, μ1, g1, m1, q1, p1⟩ => ?_⟩
  split at p1
  · have q1 : Rep Γ.K G1 x (.bl false) := q1
    cases q1
    exact ⟨false, rfl, G1, cs1, ρ, μ1, rl.grow g1 m1, p1⟩
  · have q1 : Rep Γ.K G1 x (.bl true) := q1
    cases q1
    exact ⟨true, rfl, p1.now m1 (.bl _)⟩
  · exact p1.elim
theorem d_oneV {op : BoolOp} {a : Expr} {pos : Pos} {f : Ev} (ha : PE X a (wE Γ W f)) : PE X (.BoolOp op [a] pos) (wE Γ W f) := pe_one ha
theorem d_notV {a : Expr} {pos : Pos} {f : EvT} (ha : PT X a (wT Γ W f)) (h : PE X (.UnaryOp .Not a pos) (fun σ H Q => wT Γ W f σ H fun b H1 => Q (.bl (!b)) H1)) : PE X (.UnaryOp .Not a pos) (wE Γ W fun ρ μ => (f ρ μ).bind fun b μ1 => .ok (.im (.bl (!b))) μ1) := by
  refine pe_imp h fun σ H Q h => ?_
  obtain ⟨G, cs, ρ, μ, rl, po⟩ := h
  refine ⟨G, cs, ρ, μ, rl, (Post.bind (rep := fun _ _ b c => b = c) po).imp fun x H1 ⟨G1, cs1, a, μ1, g1, m1, q1, p1⟩ => ?_⟩
  subst q1
  exact p1.now m1 (.bl _)
theorem wE.chain {r r' : R2} {p p' : Sv → Sv → Mu → R Sv} {fa fb fc : Ev} (hr : Pr2 Γ p r) (hr' : Pr2 Γ p' r') {σ : L2.St} {H : Hp} {Q : VK} (h : wE Γ W (dChain p p' fa fb fc) σ H Q) : tChain r r' (wE Γ W fa) (wE Γ W fb) (wE Γ W fc) σ H Q := by
  obtain ⟨G, cs, ρ, μ, rl, po⟩ := h
  refine ⟨G, cs, ρ, μ, rl, (Post.bind (rep := RepS Γ.K) po).imp fun x H1 ⟨G1, cs1, a, μ1, g1, m1, q1, p1⟩ => ?_⟩
  refine ⟨G1, cs1, ρ, μ1, rl.grow g1 m1, (Post.bind (rep := RepS Γ.K) p1).imp fun y H2 ⟨G2, cs2, b, μ2, g2, m2, q2, p2⟩ => ?_⟩
  refine hr _ G2 cs2 μ2 H2 x y a b _ m2 (q1.mono g2.ex g2.pre) q2 ((Post.bind (rep := RepS Γ.K) p2).imp fun z H3 ⟨G3, cs3, k, μ3, g3, m3, q3, p3⟩ => ?_)
  split at p3
  · have q3 : Rep Γ.K G3 z (.bl true) := q3
    cases q3
    refine ⟨true, rfl, ?_⟩
    rw [if_pos rfl]
    have rl3 := (rl.grow g1 m1).grow (g2.trans g3) m3
    refine ⟨G3, cs3, ρ, μ3, rl3, (Post.bind (rep := RepS Γ.K) p3).imp fun w H4 ⟨G4, cs4, c, μ4, g4, m4, q4, p4⟩ => ?_⟩
    exact hr' _ G4 cs4 μ4 H4 y w b c Q m4 ((q2.mono g3.ex g3.pre).mono g4.ex g4.pre) q4 p4
  · have q3 : Rep Γ.K G3 z (.bl false) := q3
    cases q3
    refine ⟨false, rfl, ?_⟩
    rw [if_neg Bool.false_ne_true]
    exact p3.now m3 (.bl _)
  · exact p3.elim
theorem d_chain {op op' : CmpOp} {r r' : R2} {a b c : Expr} {pos : Pos} {fa fb fc : Ev} {p p' : Sv → Sv → Mu → R Sv} (ho : OpR X (compareOp op) r) (ho' : OpR X (compareOp op') r') (hr : Pr2 Γ p r) (hr' : Pr2 Γ p' r') (ha : PE X a (wE Γ W fa)) (hb : PE X b (wE Γ W fb)) (hc : PE X c (wE Γ W fc))
    (hm : lastMarks [op, op'] [b, c] = false := by with_unfolding_all rfl) : PE X (.Compare a [op, op'] [b, c] pos) (wE Γ W (dChain p p' fa fb fc)) := pe_imp (pe_chain ho ho' ha hb hc hm) fun σ H Q h => wE.chain hr hr' h
theorem d_tchain {op op' : CmpOp} {r r' : R2} {a b c : Expr} {pos : Pos} {fa fb fc : Ev} {p p' : Sv → Sv → Mu → R Sv} (ho : OpR X (compareOp op) r) (ho' : OpR X (compareOp op') r') (hr : Pr2 Γ p r) (hr' : Pr2 Γ p' r') (ha : PE X a (wE Γ W fa)) (hb : PE X b (wE Γ W fb)) (hc : PE X c (wE Γ W fc))
    (hm : lastMarks [op, op'] [b, c] = false := by with_unfolding_all rfl) : PT X (.Compare a [op, op'] [b, c] pos) (wT Γ W (dTest (dChain p p' fa fb fc))) := by
  refine pt_imp (pt_chain ho ho' ha hb hc hm) fun σ H Q h => ?_
  have q := wT.of h
  exact wE.chain hr hr' q
/-! ### < of whole numbers and of tuples of them -/
def rLess (K : PySem.W.Frag) : R2 := fun x y H Q => rI0 (fun i j => .bl (decide (i < j))) x y H Q ∨ rLtT K x y H Q
theorem op_less (hu : X.A.units < cLine) : OpR X (compareOp .Lt) (rLess X.K) := op_or op_lt (op_ltT hu)
theorem pr_less (hK : X.K = Γ.K) : Pr2 Γ (p2 gLtT) (rLess X.K) := pr2_pure fun G H x y d e q Q s rx ry hq k => by
  unfold gLtT at hq
  split at hq
  · cases hq; cases rx; cases ry; exact .inl ⟨_, _, rfl, rfl, k _ (.bl _)⟩
  · split at hq
    · rename_i a b ha hb
      cases hq
      cases rx with
      | tup h n rs => cases ry with
        | tup h' n' rs' =>
          have e1 := asInts_ok ha rs
          have e2 := asInts_ok hb rs'
          subst e1; subst e2
          exact .inr ⟨_, _, a, b, rfl, rfl, .of h, .of h', k _ (.bl _)⟩
    · cases hq
  · cases hq
section
variable {a b : Expr} {pos : Pos} {fa fb : Ev}
theorem d_le (ha : PE X a (wE Γ W fa)) (hb : PE X b (wE Γ W fb)) : PE X (.Compare a [.LtE] [b] pos) (wE Γ W (dOp2 (p2 gLe) fa fb)) := d_cmpr op_le (pr_cmp _) ha hb (nomark _)
theorem d_gt (ha : PE X a (wE Γ W fa)) (hb : PE X b (wE Γ W fb)) : PE X (.Compare a [.Gt] [b] pos) (wE Γ W (dOp2 (p2 gGt) fa fb)) := d_cmpr op_gt (pr_cmp _) ha hb (nomark _)
theorem d_ge (ha : PE X a (wE Γ W fa)) (hb : PE X b (wE Γ W fb)) : PE X (.Compare a [.GtE] [b] pos) (wE Γ W (dOp2 (p2 gGe) fa fb)) := d_cmpr op_ge (pr_cmp _) ha hb (nomark _)
theorem d_lt (hu : X.A.units < cLine) (ha : PE X a (wE Γ W fa)) (hb : PE X b (wE Γ W fb)) (hK : X.K = Γ.K := by rfl) : PE X (.Compare a [.Lt] [b] pos) (wE Γ W (dOp2 (p2 gLtT) fa fb)) := d_cmpr (op_less hu) (pr_less hK) ha hb (nomark _)
theorem d_eq (hu : X.A.units + 64 < cLine) (ha : PE X a (wE Γ W fa)) (hb : PE X b (wE Γ W fb)) (hK : X.K = Γ.K := by rfl) : PE X (.Compare a [.Eq] [b] pos) (wE Γ W (dOp2 (p2 gEq) fa fb)) := d_cmpr (op_eqD hu) (pr_eq hK) ha hb (nomark _)
theorem d_ne (hu : X.A.units + 64 < cLine) (ha : PE X a (wE Γ W fa)) (hb : PE X b (wE Γ W fb)) (hK : X.K = Γ.K := by rfl) : PE X (.Compare a [.NotEq] [b] pos) (wE Γ W (dOp2 (p2 gNe) fa fb)) := d_cmpr (op_neD hu) (pr_ne hK) ha hb (nomark _)
theorem d_is (ha : PE X a (wE Γ W fa)) (hb : PE X b (wE Γ W fb)) : PE X (.Compare a [.Is] [b] pos) (wE Γ W (dOp2 (p2 gIsN) fa fb)) := d_cmpr op_isN pr_isN ha hb (nomark _)
theorem d_isn (ha : PE X a (wE Γ W fa)) (hb : PE X b (wE Γ W fb)) : PE X (.Compare a [.IsNot] [b] pos) (wE Γ W (dOp2 (p2 gNotN) fa fb)) := d_cmpr op_notN pr_notN ha hb (nomark _)
end
section
variable {a b : Expr} {pos : Pos} {fa fb : Ev}
theorem t_le (ha : PE X a (wE Γ W fa)) (hb : PE X b (wE Γ W fb)) : PT X (.Compare a [.LtE] [b] pos) (wT Γ W (dTest (dOp2 (p2 gLe) fa fb))) := d_tcmp op_le (pr_cmp _) ha hb (nomark _)
theorem t_gt (ha : PE X a (wE Γ W fa)) (hb : PE X b (wE Γ W fb)) : PT X (.Compare a [.Gt] [b] pos) (wT Γ W (dTest (dOp2 (p2 gGt) fa fb))) := d_tcmp op_gt (pr_cmp _) ha hb (nomark _)
theorem t_ge (ha : PE X a (wE Γ W fa)) (hb : PE X b (wE Γ W fb)) : PT X (.Compare a [.GtE] [b] pos) (wT Γ W (dTest (dOp2 (p2 gGe) fa fb))) := d_tcmp op_ge (pr_cmp _) ha hb (nomark _)
theorem t_lt (hu : X.A.units < cLine) (ha : PE X a (wE Γ W fa)) (hb : PE X b (wE Γ W fb)) (hK : X.K = Γ.K := by rfl) : PT X (.Compare a [.Lt] [b] pos) (wT Γ W (dTest (dOp2 (p2 gLtT) fa fb))) := d_tcmp (op_less hu) (pr_less hK) ha hb (nomark _)
theorem t_eq (hu : X.A.units + 64 < cLine) (ha : PE X a (wE Γ W fa)) (hb : PE X b (wE Γ W fb)) (hK : X.K = Γ.K := by rfl) : PT X (.Compare a [.Eq] [b] pos) (wT Γ W (dTest (dOp2 (p2 gEq) fa fb))) := d_tcmp (op_eqD hu) (pr_eq hK) ha hb (nomark _)
theorem t_ne (hu : X.A.units + 64 < cLine) (ha : PE X a (wE Γ W fa)) (hb : PE X b (wE Γ W fb)) (hK : X.K = Γ.K := by rfl) : PT X (.Compare a [.NotEq] [b] pos) (wT Γ W (dTest (dOp2 (p2 gNe) fa fb))) := d_tcmp (op_neD hu) (pr_ne hK) ha hb (nomark _)
theorem t_is (ha : PE X a (wE Γ W fa)) (hb : PE X b (wE Γ W fb)) : PT X (.Compare a [.Is] [b] pos) (wT Γ W (dTest (dOp2 (p2 gIsN) fa fb))) := d_tcmp op_isN pr_isN ha hb (nomark _)
theorem t_isn (ha : PE X a (wE Γ W fa)) (hb : PE X b (wE Γ W fb)) : PT X (.Compare a [.IsNot] [b] pos) (wT Γ W (dTest (dOp2 (p2 gNotN) fa fb))) := d_tcmp op_notN pr_notN ha hb (nomark _)
end
end
end SP

/-! SPh: dicts, texts, slices, raise. -/
namespace SP
open PySem L2

section
variable {Γ : Gm} {X : Cx} {W : WX}
/-! ### keys -/
theorem keyOf_ok {K : PySem.W.Frag} {G H : Hp} {x : V} {d : SP.D} {k : Key} (r : RepL K G H x d) (e : keyOf d = some k) : x = kV k ∧ goodK k := by
  cases r <;> simp only [keyOf] at e <;> first | (cases e; done) | skip
  · cases e; exact ⟨rfl, trivial⟩
  · rename_i h; cases e; exact ⟨rfl, h⟩
theorem keyOf_rep {K : PySem.W.Frag} {G : Hp} {x : V} {d : SP.D} {k : Key} (r : Rep K G x d) (e : keyOf d = some k) : x = kV k ∧ goodK k := by
  cases r <;> simp only [keyOf] at e <;> first | (cases e; done) | skip
  · cases e; exact ⟨rfl, trivial⟩
  · rename_i h; cases e; exact ⟨rfl, h⟩
theorem keysOf_ok {K : PySem.W.Frag} {G : Hp} : ∀ {xs : List SP.D} {ks : List Key} {vs : List V}, keysOf xs = some ks → Reps K G vs xs → vs = ks.map kV
  | [], _, _, e, .nil => by simp only [keysOf] at e; cases e; rfl
  | d :: r, ks, _, e, .cons h t => by
    simp only [keysOf] at e
    cases e1 : keyOf d with
    | none => rw [e1] at e; cases e
    | some k =>
      cases e2 : keysOf r with
      | none => rw [e1, e2] at e; cases e
      | some m =>
        rw [e1, e2] at e; cases e
        rw [(keyOf_rep h e1).1, keysOf_ok e2 t]; rfl
theorem repk_val {K : PySem.W.Frag} {G : Hp} {k : Key} : ∀ {vs : List (Key × V)} {ds : List (Key × SP.D)}, RepK K G vs ds → (∀ d, valD ds k = some d → ∃ v, valV vs k = some v ∧ Rep K G v d) ∧ (valD ds k = none → valV vs k = none)
  | _, _, .nil => ⟨fun d e => by simp [valD] at e, fun _ => rfl⟩
  | _, _, .cons (k := k') (v := v) (vs := vs) (d := d) (ds := ds) g h r => by
    obtain ⟨h1, h2⟩ := repk_val (k := k) r
    by_cases e : k' = k
    · refine ⟨fun d' q => ?_, fun q => ?_⟩
      · simp only [valD, List.find?_cons, e, decide_true, Option.map_some] at q
        cases q
        exact ⟨v, by simp [valV, e], h⟩
      · simp [valD, e] at q
    · have e1 : valD ((k', d) :: ds) k = valD ds k := by simp [valD, e]
      have e2 : valV ((k', v) :: vs) k = valV vs k := by simp [valV, e]
      rw [e1, e2]
      exact ⟨h1, h2⟩
theorem rept_val {K : PySem.W.Frag} {G : Hp} {k : List Key} : ∀ {vs : List (List Key × V)} {ds : List (List Key × SP.D)}, RepT K G vs ds → (∀ d, valD ds k = some d → ∃ v, valV vs k = some v ∧ Rep K G v d) ∧ (valD ds k = none → valV vs k = none)
  | _, _, .nil => ⟨fun d e => by simp [valD] at e, fun _ => rfl⟩
  | _, _, .cons (k := k') (v := v) (vs := vs) (d := d) (ds := ds) h r => by
    obtain ⟨h1, h2⟩ := rept_val (k := k) r
    by_cases e : k' = k
    · refine ⟨fun d' q => ?_, fun q => ?_⟩
      · simp only [valD, List.find?_cons, e, decide_true, Option.map_some] at q
        cases q
        exact ⟨v, by simp [valV, e], h⟩
      · simp [valD, e] at q
    · have e1 : valD ((k', d) :: ds) k = valD ds k := by simp [valD, e]
      have e2 : valV ((k', v) :: vs) k = valV vs k := by simp [valV, e]
      rw [e1, e2]
      exact ⟨h1, h2⟩
theorem repk_keysEq {K : PySem.W.Frag} {G : Hp} {k : Key} : ∀ {vs : List (Key × V)} {ds : List (Key × SP.D)}, RepK K G vs ds → (vs.any fun kv => decide (kv.1 = k)) = (ds.any fun kv => decide (kv.1 = k))
  | _, _, .nil => rfl
  | _, _, .cons g h r => by simp only [List.any_cons, repk_keysEq r]
theorem rept_keysEq {K : PySem.W.Frag} {G : Hp} {k : List Key} : ∀ {vs : List (List Key × V)} {ds : List (List Key × SP.D)}, RepT K G vs ds → (vs.any fun kv => decide (kv.1 = k)) = (ds.any fun kv => decide (kv.1 = k))
  | _, _, .nil => rfl
  | _, _, .cons h r => by simp only [List.any_cons, rept_keysEq r]
theorem repk_map {K : PySem.W.Frag} {G : Hp} {k : Key} {v : V} {d : SP.D} (h : Rep K G v d) : ∀ {vs : List (Key × V)} {ds : List (Key × SP.D)}, RepK K G vs ds → RepK K G (vs.map fun kv => if kv.1 = k then (kv.1, v) else kv) (ds.map fun kv => if kv.1 = k then (kv.1, d) else kv)
  | _, _, .nil => .nil
  | _, _, .cons (k := k') g h' r => by
    simp only [List.map_cons]
    by_cases e : k' = k
    · simp only [e, if_true]; exact .cons (e ▸ g) h (repk_map h r)
    · simp only [e, if_false]; exact .cons g h' (repk_map h r)
theorem rept_map {K : PySem.W.Frag} {G : Hp} {k : List Key} {v : V} {d : SP.D} (h : Rep K G v d) : ∀ {vs : List (List Key × V)} {ds : List (List Key × SP.D)}, RepT K G vs ds → RepT K G (vs.map fun kv => if kv.1 = k then (kv.1, v) else kv) (ds.map fun kv => if kv.1 = k then (kv.1, d) else kv)
  | _, _, .nil => .nil
  | _, _, .cons (k := k') h' r => by
    simp only [List.map_cons]
    by_cases e : k' = k
    · simp only [e, if_true]; exact .cons h (rept_map h r)
    · simp only [e, if_false]; exact .cons h' (rept_map h r)
theorem repk_app {K : PySem.W.Frag} {G : Hp} : ∀ {vs ws : List (Key × V)} {ds es : List (Key × SP.D)}, RepK K G vs ds → RepK K G ws es → RepK K G (vs ++ ws) (ds ++ es)
  | _, _, _, _, .nil, s => s
  | _, _, _, _, .cons g h r, s => .cons g h (repk_app r s)
theorem rept_app {K : PySem.W.Frag} {G : Hp} : ∀ {vs ws : List (List Key × V)} {ds es : List (List Key × SP.D)}, RepT K G vs ds → RepT K G ws es → RepT K G (vs ++ ws) (ds ++ es)
  | _, _, _, _, .nil, s => s
  | _, _, _, _, .cons h r, s => .cons h (rept_app r s)
theorem repk_put {K : PySem.W.Frag} {G : Hp} {k : Key} {v : V} {d : SP.D} (g : goodK k) (h : Rep K G v d) {vs : List (Key × V)} {ds : List (Key × SP.D)} (r : RepK K G vs ds) : RepK K G (putK vs k v) (putD ds k d) := by
  unfold putK putD
  rw [repk_keysEq r]
  split
  · exact repk_map h r
  · exact repk_app r (.cons g h .nil)
theorem rept_put {K : PySem.W.Frag} {G : Hp} {k : List Key} {v : V} {d : SP.D} (h : Rep K G v d) {vs : List (List Key × V)} {ds : List (List Key × SP.D)} (r : RepT K G vs ds) : RepT K G (putK vs k v) (putD ds k d) := by
  unfold putK putD
  rw [rept_keysEq r]
  split
  · exact rept_map h r
  · exact rept_app r (.cons h .nil)
theorem putD_len {κ : Type} [DecidableEq κ] (ds : List (κ × SP.D)) (k : κ) (d : SP.D) : (putD ds k d).length ≤ ds.length + 1 := by
  unfold putD
  split
  · simp
  · simp

/-! ### what a dict holds -/
def OptRep (K : PySem.W.Frag) (G : Hp) : Option SP.D → Option V → Prop
  | some dv, ov => ∃ v, ov = some v ∧ Rep K G v dv
  | none, ov => ov = none
theorem match_opt {K : PySem.W.Frag} {G : Hp} {o : Option SP.D} {ov : Option V} (h1 : ∀ d, o = some d → ∃ v, ov = some v ∧ Rep K G v d) (h2 : o = none → ov = none) : OptRep K G o ov := by
  cases o with
  | some d => exact h1 d rfl
  | none => exact h2 rfl
theorem dAt_ok {G H : Hp} {x y : V} {d k : SP.D} {o : Option SP.D} (s : Same G H) (rx : RepL Γ.K G H x d) (ry : RepL Γ.K G H y k) (e : dAt d k = some o) : ∃ a ov, x = .ref a ∧ DGet H a y ov ∧ OptRep Γ.K G o ov := by
  cases rx with
  | dk h n r =>
    simp only [dAt] at e
    cases e1 : keyOf k with
    | none => rw [e1] at e; cases e
    | some kk =>
      rw [e1] at e; cases e
      obtain ⟨rfl, _⟩ := keyOf_ok ry e1
      refine ⟨_, _, rfl, DGet.k (k := kk) h, ?_⟩
      obtain ⟨h1, h2⟩ := repk_val (k := kk) r
      exact match_opt h1 h2
  | dt h n r =>
    cases ry with
    | tup hb nb rb =>
      simp only [dAt] at e
      rename_i _ _ _ b ws xs
      cases e1 : keysOf xs with
      | none => rw [e1] at e; cases e
      | some kk =>
        rw [e1] at e; cases e
        have ew := keysOf_ok e1 rb
        subst ew
        refine ⟨_, _, rfl, DGet.t (k := kk) h hb, ?_⟩
        obtain ⟨h1, h2⟩ := rept_val (k := kk) r
        exact match_opt h1 h2
    | _ => simp [dAt] at e
  | _ => simp [dAt] at e
theorem isDict_ok {K : PySem.W.Frag} {G H : Hp} {x : V} {d : SP.D} (r : RepL K G H x d) (e : isDict d = true) : ∃ a, x = .ref a ∧ IsD H a := by
  cases r <;> simp [isDict] at e
  · rename_i h _ _; exact ⟨_, rfl, .inl ⟨_, .inl h⟩⟩
  · rename_i h _ _; exact ⟨_, rfl, .inr ⟨_, .inl h⟩⟩
theorem pr_dget : Pr2 Γ (p2 gDGet) (fun x y H Q => ∃ a v, x = .ref a ∧ DGet H a y (some v) ∧ Q v H) := pr2_pure fun G H x y d e q Q s rx ry hq k => by
  unfold gDGet at hq
  split at hq
  · rename_i v hv
    cases hq
    obtain ⟨a, ov, rfl, hd, hm⟩ := dAt_ok s rx ry hv
    obtain ⟨w, rfl, rw⟩ := hm
    exact ⟨a, w, rfl, hd, k w rw⟩
  · cases hq
theorem d_dget {a b : Expr} {pos : Pos} {fa fb : Ev} (hu : X.A.units + 1 < cLine) (ha : PE X a (wE Γ W fa)) (hb : PE X b (wE Γ W fb)) (hs : NoSl b := by exact fun _ _ => rfl) : PE X (.Subscript a b pos) (wE Γ W (dOp2 (p2 gDGet) fa fb)) :=
  pe_imp (pe_dget hu ha hb hs) fun σ H Q h => wE.two pr_dget h
theorem pr_in : Pr2 Γ (p2 gIn) (fun y x H Q => ∃ a o, x = .ref a ∧ DGet H a y o ∧ Q (.bl o.isSome) H) := pr2_pure fun G H y x e d q Q s ry rx hq k => by
  unfold gIn at hq
  cases e1 : dAt d e with
  | none => rw [e1] at hq; cases hq
  | some o =>
    rw [e1] at hq; cases hq
    obtain ⟨a, ov, rfl, hd, hm⟩ := dAt_ok s rx ry e1
    refine ⟨a, ov, rfl, hd, ?_⟩
    cases o with
    | none => cases (show ov = none from hm); exact k _ (.bl _)
    | some dv => obtain ⟨w, rfl, _⟩ := hm; exact k _ (.bl _)
theorem pr_notIn : Pr2 Γ (p2 gNotIn) (fun y x H Q => ∃ a o, x = .ref a ∧ DGet H a y o ∧ Q (.bl (!o.isSome)) H) := pr2_pure fun G H y x e d q Q s ry rx hq k => by
  unfold gNotIn at hq
  cases e1 : dAt d e with
  | none => rw [e1] at hq; cases hq
  | some o =>
    rw [e1] at hq; cases hq
    obtain ⟨a, ov, rfl, hd, hm⟩ := dAt_ok s rx ry e1
    refine ⟨a, ov, rfl, hd, ?_⟩
    cases o with
    | none => cases (show ov = none from hm); exact k _ (.bl _)
    | some dv => obtain ⟨w, rfl, _⟩ := hm; exact k _ (.bl _)
section
variable {a b : Expr} {pos : Pos} {fa fb : Ev}
theorem d_in (hu : X.A.units + 1 < cLine) (ha : PE X a (wE Γ W fa)) (hb : PE X b (wE Γ W fb)) (h1 : behindInMarks .In b = false := by rfl) : PE X (.Compare a [.In] [b] pos) (wE Γ W (dOp2 (p2 gIn) fa fb)) := pe_imp (pe_cmp (pc_din hu ha hb) h1) fun σ H Q h => wE.two pr_in h
theorem d_notIn (hu : X.A.units + 1 < cLine) (ha : PE X a (wE Γ W fa)) (hb : PE X b (wE Γ W fb)) (h1 : behindInMarks .NotIn b = false := by rfl) : PE X (.Compare a [.NotIn] [b] pos) (wE Γ W (dOp2 (p2 gNotIn) fa fb)) := pe_imp (pe_cmp (pc_dnotin hu ha hb) h1) fun σ H Q h => wE.two pr_notIn h
theorem t_in (hu : X.A.units + 1 < cLine) (ha : PE X a (wE Γ W fa)) (hb : PE X b (wE Γ W fb)) (h1 : behindInMarks .In b = false := by rfl) : PT X (.Compare a [.In] [b] pos) (wT Γ W (dTest (dOp2 (p2 gIn) fa fb))) := pt_imp (pt_cmp (pc_din hu ha hb) h1) fun σ H Q h => wE.two pr_in (wT.of h)
theorem t_notIn (hu : X.A.units + 1 < cLine) (ha : PE X a (wE Γ W fa)) (hb : PE X b (wE Γ W fb)) (h1 : behindInMarks .NotIn b = false := by rfl) : PT X (.Compare a [.NotIn] [b] pos) (wT Γ W (dTest (dOp2 (p2 gNotIn) fa fb))) := pt_imp (pt_cmp (pc_dnotin hu ha hb) h1) fun σ H Q h => wE.two pr_notIn (wT.of h)
end
theorem pr_inS : Pr2 Γ (p2 gInS) (fun x y H Q => ∃ (c : Nat) (z : Str), x = .str ⟨#[c]⟩ ∧ y = .str z ∧ Q (.bl (decide (c ∈ z.cps.toList))) H) := pr2_pure fun G H x y d e q Q s rx ry hq k => by
  unfold gInS at hq
  split at hq
  · rename_i c z
    split at hq
    · rename_i n hn
      cases hq
      cases rx; cases ry
      refine ⟨n, z, ?_, rfl, k _ (.bl _)⟩
      have : c = ⟨#[n]⟩ := by
        cases c with
        | mk cps => exact congrArg Str.mk (by have := congrArg List.toArray hn; simpa using this)
      rw [this]
    · cases hq
  · cases hq
theorem pr_notInS : Pr2 Γ (p2 gNotInS) (fun x y H Q => ∃ (c : Nat) (z : Str), x = .str ⟨#[c]⟩ ∧ y = .str z ∧ Q (.bl (!decide (c ∈ z.cps.toList))) H) := pr2_pure fun G H x y d e q Q s rx ry hq k => by
  unfold gNotInS at hq
  split at hq
  · rename_i b hb
    cases hq
    unfold gInS at hb
    split at hb
    · rename_i c z
      split at hb
      · rename_i n hn
        cases hb
        cases rx; cases ry
        refine ⟨n, z, ?_, rfl, k _ (.bl _)⟩
        have : c = ⟨#[n]⟩ := by
          cases c with
          | mk cps => exact congrArg Str.mk (by have := congrArg List.toArray hn; simpa using this)
        rw [this]
      · cases hb
    · cases hb
  · cases hq
section
variable {a b : Expr} {pos : Pos} {fa fb : Ev}
theorem t_inS (ha : PE X a (wE Γ W fa)) (hb : PE X b (wE Γ W fb)) (h1 : behindInMarks .In b = false := by rfl) : PT X (.Compare a [.In] [b] pos) (wT Γ W (dTest (dOp2 (p2 gInS) fa fb))) := d_tcmp op_in_sign pr_inS ha hb h1
theorem t_notInS (ha : PE X a (wE Γ W fa)) (hb : PE X b (wE Γ W fb)) (h1 : behindInMarks .NotIn b = false := by rfl) : PT X (.Compare a [.NotIn] [b] pos) (wT Γ W (dTest (dOp2 (p2 gNotInS) fa fb))) := d_tcmp op_notIn_sign pr_notInS ha hb h1
end
/-! ### get -/
theorem d_get1 {o e : Expr} {apos cpos : Pos} {fd fk : Ev} (hu : X.A.units + 1 < cLine) (ho : PE X o (wE Γ W fd)) (he : PE X e (wE Γ W fk)) (m : M1 X o "get" apos e cpos) : PE X (.Call (.Attribute o "get" apos) [e] [] cpos) (wE Γ W (dGet1 fd fk)) := by
  refine pe_imp (pe_dget1 hu ho he m) fun σ H Q h => ?_
  obtain ⟨G, cs, ρ, μ, rl, po⟩ := h
  refine ⟨G, cs, ρ, μ, rl, (Post.bind (rep := RepS Γ.K) po).imp fun x H1 ⟨G1, cs1, a, μ1, g1, m1, q1, p1⟩ => ?_⟩
  split at p1
  · rename_i d0 h0
    split at p1
    · rename_i hd
      obtain ⟨p, rfl, isd⟩ := isDict_ok (look_L m1 q1 h0) hd
      refine ⟨p, rfl, isd, G1, cs1, ρ, μ1, rl.grow g1 m1, (Post.bind (rep := RepS Γ.K) p1).imp fun y H2 ⟨G2, cs2, b, μ2, g2, m2, q2, p2⟩ => ?_⟩
      split at p2
      · rename_i d k e1 e2
        have q1' := q1.mono g2.ex g2.pre
        split at p2
        · rename_i o eo
          obtain ⟨p', ov, ep, hg, hm⟩ := dAt_ok m2.sub (look_L m2 q1' e1) (look_L m2 q2 e2) eo
          cases ep
          refine ⟨ov, hg, ?_⟩
          cases o with
          | none => cases (show ov = none from hm); exact p2.now m2 .non
          | some dv => obtain ⟨w, rfl, rw⟩ := hm; exact p2.now (v := w) m2 rw
        · exact p2.elim
      · exact p2.elim
    · exact p1.elim
  · exact p1.elim
theorem d_get2 {o e f : Expr} {apos cpos : Pos} {fd fk fz : Ev} (hu : X.A.units + 1 < cLine) (ho : PE X o (wE Γ W fd)) (he : PE X e (wE Γ W fk)) (hf : PE X f (wE Γ W fz)) (m : M2 X o "get" apos e f cpos) : PE X (.Call (.Attribute o "get" apos) [e, f] [] cpos) (wE Γ W (dGet2 fd fk fz)) := by
  refine pe_imp (pe_dget2 hu ho he hf m) fun σ H Q h => ?_
  obtain ⟨G, cs, ρ, μ, rl, po⟩ := h
  refine ⟨G, cs, ρ, μ, rl, (Post.bind (rep := RepS Γ.K) po).imp fun x H1 ⟨G1, cs1, a, μ1, g1, m1, q1, p1⟩ => ?_⟩
  split at p1
  · rename_i d0 h0
    split at p1
    · rename_i hd
      obtain ⟨p, rfl, isd⟩ := isDict_ok (look_L m1 q1 h0) hd
      refine ⟨p, rfl, isd, G1, cs1, ρ, μ1, rl.grow g1 m1, (Post.bind (rep := RepS Γ.K) p1).imp fun y H2 ⟨G2, cs2, b, μ2, g2, m2, q2, p2⟩ => ?_⟩
      have rl2 := (rl.grow g1 m1).grow g2 m2
      refine ⟨G2, cs2, ρ, μ2, rl2, (Post.bind (rep := RepS Γ.K) p2).imp fun z H3 ⟨G3, cs3, c, μ3, g3, m3, q3, p3⟩ => ?_⟩
      split at p3
      · rename_i d k e e1 e2
        have q1' := (q1.mono g2.ex g2.pre).mono g3.ex g3.pre
        have q2' := q2.mono g3.ex g3.pre
        split at p3
        · rename_i o eo
          obtain ⟨p', ov, ep, hg, hm⟩ := dAt_ok m3.sub (look_L m3 q1' e1) (look_L m3 q2' e2) eo
          cases ep
          refine ⟨ov, hg, ?_⟩
          cases o with
          | none => cases (show ov = none from hm); exact p3.now (v := z) m3 q3
          | some dv => obtain ⟨w, rfl, rw⟩ := hm; exact p3.now (v := w) m3 rw
        · exact p3.elim
      · exact p3.elim
    · exact p1.elim
  · exact p1.elim
/-! ### d[k] = v -/
theorem s_dput {o i value : Expr} {pos pos' : Pos} {fd fk fv : Ev} (hu : X.A.units + 1 < cLine) (ho : PE X o (wE Γ W fd)) (hi : PE X i (wE Γ W fk)) (hv : PE X value (wE Γ W fv)) (hs : swapsWith value (some (.Subscript o i pos')) pos.line X.env = pure false := by rfl) :
    PS X (.Assign [.Subscript o i pos'] value pos) (wS Γ W (sDPut fd fk fv)) := by
  refine ps_imp (ps_dput hu ho hi hv hs) fun D σ H h => ?_
  show wE Γ W fv σ H _
  refine wE.stm h fun G cs ρ μ v H1 a rl r po => ?_
  split at po
  · rename_i dv
    show wE Γ W fd σ H1 _
    refine wE.stm' rl po fun G2 cs2 μ2 x H2 a2 g2 rl2 r2 po => ?_
    split at po
    · rename_i n
      show wE Γ W fk σ H2 _
      refine wE.stm' rl2 po fun G3 cs3 μ3 y H3 a3 g3 rl3 r3 po => ?_
      split at po
      · rename_i k ek
        have rk := look_L rl3.m r3 ek
        have rv : Rep Γ.K G3 v dv := Rep.mono g3.ex (Rep.mono g2.ex r)
        obtain ⟨p, hp, rfl⟩ := r2
        have hp3 := pre_get g3.pre hp
        unfold putCell at po
        split at po
        · rename_i kvs hc
          split at po
          · rename_i kk hkk
            split at po
            · rename_i hl
              obtain ⟨gp, nl, vs, hh, rs⟩ := rl3.m.cell n p _ hp3 hc
              obtain ⟨rfl, gk⟩ := keyOf_ok rk hkk
              refine ⟨p, _, rfl, DPut.k (k := kk) hh (by rw [rs.length]; exact Nat.lt_of_lt_of_le hl maxN_le), ?_⟩
              obtain ⟨g4, m4⟩ := rl3.m.put hp3 (.dK (putK vs kk v)) (.dk (putD kvs kk dv)) gp ⟨gp, Nat.le_trans (putD_len _ _ _) hl, _, upd_same, repk_put gk rv rs⟩
              exact po G3 cs3 _ σ g4 (rl3.grow g4 m4)
            · exact po.elim
          · exact po.elim
        · rename_i kvs hc
          split at po
          · rename_i xs
            split at po
            · rename_i kk hkk
              split at po
              · rename_i hl
                obtain ⟨gp, nl, vs, hh, rs⟩ := rl3.m.cell n p _ hp3 hc
                cases rk with
                | tup hb nb rb =>
                  have ew := keysOf_ok hkk rb
                  subst ew
                  refine ⟨p, _, rfl, .inr ⟨vs, kk, _, hh, rfl, hb, by rw [rs.length]; exact Nat.lt_of_lt_of_le hl maxN_le, rfl⟩, ?_⟩
                  obtain ⟨g4, m4⟩ := rl3.m.put hp3 (.dT (putK vs kk v)) (.dt (putD kvs kk dv)) gp ⟨gp, Nat.le_trans (putD_len _ _ _) hl, _, upd_same, rept_put rv rs⟩
                  exact po G3 cs3 _ σ g4 (rl3.grow g4 m4)
              · exact po.elim
            · exact po.elim
          · exact po.elim
        · exact po.elim
      · exact po.elim
    · exact po.elim
  · exact po.elim
/-! ### texts -/
theorem d_count {o e : Expr} {apos pos : Pos} {fa fb : Ev} (ho : PE X o (wE Γ W fa)) (he : PE X e (wE Γ W fb)) (h : PE X (.Call (.Attribute o "count" apos) [e] [] pos) (tM1 (fun x xs H Q => ∃ a b, x = .str a ∧ xs = [.str b] ∧ Q (.int (Txt.count a b)) H) (wE Γ W fa) (wE Γ W fb))) :
    PE X (.Call (.Attribute o "count" apos) [e] [] pos) (wE Γ W (dOpM gCount fa fb)) := by
  refine pe_imp h fun σ H Q h => ?_
  obtain ⟨G, cs, ρ, μ, rl, po⟩ := h
  refine ⟨G, cs, ρ, μ, rl, (Post.bind (rep := RepS Γ.K) po).imp fun x H1 ⟨G1, cs1, a, μ1, g1, m1, q1, p1⟩ => ?_⟩
  split at p1
  · rename_i z
    have q1 : Rep Γ.K G1 x (.str z) := q1
    cases q1 with
    | str _ gz =>
      refine ⟨⟨z, rfl⟩, G1, cs1, ρ, μ1, rl.grow g1 m1, (Post.bind (rep := RepS Γ.K) p1).imp fun y H2 ⟨G2, cs2, b, μ2, g2, m2, q2, p2⟩ => ?_⟩
      split at p2
      · rename_i w
        have q2 : Rep Γ.K G2 y (.str w) := q2
        cases q2
        exact ⟨z, w, rfl, rfl, p2.now m2 (.int _)⟩
      · exact p2.elim
  · exact p1.elim
theorem d_find {o e : Expr} {apos pos : Pos} {fa fb : Ev} (ho : PE X o (wE Γ W fa)) (he : PE X e (wE Γ W fb)) (h : PE X (.Call (.Attribute o "find" apos) [e] [] pos) (tM1 (fun x xs H Q => ∃ a b, x = .str a ∧ xs = [.str b] ∧ Q (.int (Txt.find a b)) H) (wE Γ W fa) (wE Γ W fb))) :
    PE X (.Call (.Attribute o "find" apos) [e] [] pos) (wE Γ W (dOpM gFind fa fb)) := by
  refine pe_imp h fun σ H Q h => ?_
  obtain ⟨G, cs, ρ, μ, rl, po⟩ := h
  refine ⟨G, cs, ρ, μ, rl, (Post.bind (rep := RepS Γ.K) po).imp fun x H1 ⟨G1, cs1, a, μ1, g1, m1, q1, p1⟩ => ?_⟩
  split at p1
  · rename_i z
    have q1 : Rep Γ.K G1 x (.str z) := q1
    cases q1 with
    | str _ gz =>
      refine ⟨⟨z, rfl⟩, G1, cs1, ρ, μ1, rl.grow g1 m1, (Post.bind (rep := RepS Γ.K) p1).imp fun y H2 ⟨G2, cs2, b, μ2, g2, m2, q2, p2⟩ => ?_⟩
      split at p2
      · rename_i w
        have q2 : Rep Γ.K G2 y (.str w) := q2
        cases q2
        exact ⟨z, w, rfl, rfl, p2.now m2 (.int _)⟩
      · exact p2.elim
  · exact p1.elim
/-! ### slices -/
def wO (Γ : Gm) (W : WX) (o : Option Ev) : TO := fun σ H Q => ∃ G cs ρ μ, Rel Γ G cs ρ μ σ H ∧ Post Γ (fun _ _ b c => b = c) (wX Γ W σ) G cs H (dPart o ρ μ) Q
theorem po_imp {e : Option Expr} {t t' : TO} (h : PO X e t) (i : ∀ σ H Q, t' σ H Q → t σ H Q) : PO X e t' := ⟨fun pins s σ H Q I w => h.run pins s σ H Q I (i σ H Q w)⟩
theorem d_ponone : PO X none (wO Γ W none) := po_imp po_none fun σ H Q h => by
  obtain ⟨G, cs, ρ, μ, rl, po⟩ := h
  exact po.now rl.m rfl
theorem d_posome {e : Expr} {f : Ev} (h : PE X e (wE Γ W f)) : PO X (some e) (wO Γ W (some f)) := po_imp (po_some h) fun σ H Q h => by
  obtain ⟨G, cs, ρ, μ, rl, po⟩ := h
  refine ⟨G, cs, ρ, μ, rl, (Post.bind (rep := RepS Γ.K) po).imp fun x H1 ⟨G1, cs1, a, μ1, g1, m1, q1, p1⟩ => ?_⟩
  split at p1
  · rename_i i
    have q1 : Rep Γ.K G1 x (.int i) := q1
    cases q1
    exact ⟨i, rfl, p1.now m1 rfl⟩
  · exact p1.elim
theorem goodS_cut {z : Str} (g : goodS z) (lo hi : Option Int) : goodS (cutS z lo hi) := by
  refine ⟨Nat.le_trans (cutS_length z lo hi) g.1, ?_⟩
  rw [Array.all_eq_true_iff_forall_mem]
  intro c hc
  have h1 : c ∈ z.cps.toList := by
    unfold cutS at hc
    simp only [List.mem_toArray] at hc
    exact List.mem_of_mem_drop (List.mem_of_mem_take hc)
  simpa using goodS_mem g h1
theorem d_sl {e : Expr} {lo hi : Option Expr} {p2 pos : Pos} {f : Ev} {l h : Option Ev} (he : PE X e (wE Γ W f)) (hl : PO X lo (wO Γ W l)) (hh : PO X hi (wO Γ W h)) : PE X (.Subscript e (.Slice lo hi none p2) pos) (wE Γ W (dSl f l h)) := by
  refine pe_imp (pe_slice (SlR.or sl_list sl_str) he hl hh) fun σ H Q w => ?_
  obtain ⟨G, cs, ρ, μ, rl, po⟩ := w
  refine ⟨G, cs, ρ, μ, rl, (Post.bind (rep := RepS Γ.K) po).imp fun x H1 ⟨G1, cs1, a, μ1, g1, m1, q1, p1⟩ => ?_⟩
  refine ⟨G1, cs1, ρ, μ1, rl.grow g1 m1, (Post.bind (rep := fun _ _ b c => b = c) p1).imp fun lv H2 ⟨G2, cs2, l2, μ2, g2, m2, q2, p2⟩ => ?_⟩
  subst q2
  have rl2 := (rl.grow g1 m1).grow g2 m2
  refine ⟨G2, cs2, ρ, μ2, rl2, (Post.bind (rep := fun _ _ b c => b = c) p2).imp fun hv H3 ⟨G3, cs3, h3, μ3, g3, m3, q3, p3⟩ => ?_⟩
  subst q3
  have q1' := (q1.mono g2.ex g2.pre).mono g3.ex g3.pre
  split at p3
  · rename_i d hd
    split at p3
    · rename_i r hr
      have rd := look_L m3 q1' hd
      unfold gSl at hr
      split at hr
      · cases hr
        cases rd with
        | str _ gz => exact .inr ⟨_, rfl, Nat.le_trans gz.1 maxN_le, p3.now m3 (.str _ (goodS_cut gz _ _))⟩
      · rename_i xs
        cases hr
        cases rd with
        | @lst _ vs _ ha na rs =>
          refine .inl ⟨_, _, rfl, .of ha, fun l hl' => ?_⟩
          have key : Reps Γ.K G3 (cutV vs lv hv) ((xs.drop (HT.sIx xs.length 0 lv)).take (HT.sIx xs.length xs.length hv - HT.sIx xs.length 0 lv)) := by
            unfold cutV
            rw [rs.length]
            exact (rs.drop _).take _
          obtain ⟨g, m'⟩ := m3.imm hl' (.lst (cutV vs lv hv))
          refine p3.at g m' (.lst upd_same ?_ (key.mono g.ex))
          simp only [List.length_take, List.length_drop]; omega
      · cases hr
    · exact p3.elim
  · exact p3.elim
/-! ### numbers -/
theorem d_pow {a b : Expr} {pos : Pos} {fa fb : Ev} (ha : PE X a (wE Γ W fa)) (hb : PE X b (wE Γ W fb)) : PE X (.BinOp a .Pow b pos) (wE Γ W (dOp2 (p2 gPow) fa fb)) := d_bin op_pow (pr2_I fun d e q h => by
  unfold gPow at h; split at h
  · split at h
    · rename_i c; cases h; exact ⟨_, _, rfl, rfl, c, fun _ _ => .int _⟩
    · cases h
  · cases h) ha hb
theorem d_neg {a : Expr} {pos : Pos} {f : Ev} (ha : PE X a (wE Γ W f)) : PE X (.UnaryOp .USub a pos) (wE Γ W (dOp1 (p1 gNeg) f)) := d_op1 un_neg ha fun E G cs μ H x sa Q m r p => by
  refine pr1_pure (Γ := Γ) (g := gNeg) (r := rU fun i => .int (-i)) (fun G H x d q Q s rx hq k => ?_) E G cs μ H x sa Q m r p
  unfold gNeg at hq; split at hq <;> cases hq
  cases rx; exact ⟨_, rfl, k _ (.int _)⟩
theorem d_notE {a : Expr} {pos : Pos} {f : Ev} (ha : PE X a (wE Γ W f)) : PE X (.UnaryOp .Not a pos) (wE Γ W (dNotE f)) := by
  refine pe_imp (pe_not ha) fun σ H Q h => ?_
  obtain ⟨G, cs, ρ, μ, rl, po⟩ := h
  refine ⟨G, cs, ρ, μ, rl, (Post.bind (rep := RepS Γ.K) po).imp fun x H1 ⟨G1, cs1, a, μ1, g1, m1, q1, p1⟩ => ?_⟩
  split at p1
  · rename_i b
    have q1 : Rep Γ.K G1 x (.bl b) := q1
    cases q1
    exact ⟨b, rfl, p1.now m1 (.bl _)⟩
  · exact p1.elim
theorem d_ifE {c a b : Expr} {pos : Pos} {t : EvT} {f g : Ev} (hc : PT X c (wT Γ W t)) (ha : PE X a (wE Γ W f)) (hb : PE X b (wE Γ W g)) : PE X (.IfExp c a b pos) (wE Γ W (dIfE t f g)) := by
  refine pe_imp (pe_ifExp hc ha hb) fun σ H Q h => ?_
  obtain ⟨G, cs, ρ, μ, rl, po⟩ := h
  refine ⟨G, cs, ρ, μ, rl, (Post.bind (rep := fun _ _ b c => b = c) po).imp fun x H1 ⟨G1, cs1, a, μ1, g1, m1, q1, p1⟩ => ?_⟩
  subst q1
  cases x with
  | true => exact ⟨G1, cs1, ρ, μ1, rl.grow g1 m1, p1⟩
  | false => exact ⟨G1, cs1, ρ, μ1, rl.grow g1 m1, p1⟩
/-! ### raise -/
theorem s_raise {c : Xn} {e : Expr} {C : Addr} {pos : Pos} (hc : X.calm = true) (tk : Takes X W) (hx : Γ.xv c = .ref C) (he : PMk X e (fun _ H Q => Q (.ref C) none H)) : PS X (.Raise (some e) none pos) (wS Γ W (sRaise c)) := by
  refine ps_imp (ps_raise hc tk he) fun D σ H h => ?_
  obtain ⟨G, cs, ρ, μ, rl, po⟩ := h
  have := po G cs H σ .refl rl
  rw [hx] at this
  exact this
end
end SP

/-! SPi: dicts whose keys are pairs: their hashes stand apart; copies; ==. -/
namespace SP
open PySem L2
/-! ### the hash of a pair of small numbers -/
def hM : Nat := 18446744073709551616
def hP1 : Nat := 11400714785074694791
def hP2 : Nat := 14029467366897019727
def hQ1 : Nat := 614540362697595703
def hQ2 : Nat := 839798700976720815
def hC : Nat := 2870177450013471924
def hRot (a : Nat) : Nat := (a * 2147483648) % 18446744073709551616 + a / 8589934592
def hUn (y : Nat) : Nat := (y % 2147483648) * 8589934592 + y / 2147483648
theorem hRot_eq (a : Nat) : hRot a = (a % 8589934592) * 2147483648 + a / 8589934592 := by
  unfold hRot
  have : a * 2147483648 % 18446744073709551616 = (a % 8589934592) * 2147483648 := by omega
  rw [this]
theorem hRot_un (a : Nat) (h : a < 18446744073709551616) : hUn (hRot a) = a := by
  rw [hRot_eq]
  unfold hUn
  have q : a / 8589934592 < 2147483648 := by omega
  have e := Nat.div_add_mod a 8589934592
  generalize a / 8589934592 = b at q e
  generalize a % 8589934592 = r at e
  have h1 : (r * 2147483648 + b) % 2147483648 = b := by omega
  have h2 : (r * 2147483648 + b) / 2147483648 = r := by omega
  rw [h1, h2]
  omega
theorem hRot_lt (a : Nat) (h : a < 18446744073709551616) : hRot a < 18446744073709551616 := by
  rw [hRot_eq]
  have q : a / 8589934592 < 2147483648 := by omega
  have q2 : a % 8589934592 < 8589934592 := Nat.mod_lt _ (by decide)
  omega
theorem hMul_un (a : Nat) (h : a < 18446744073709551616) : (a * 11400714785074694791 % 18446744073709551616) * 614540362697595703 % 18446744073709551616 = a := by omega
def hIn (a h : Nat) : Nat := (a + h * 14029467366897019727) % 18446744073709551616
def hStep (a h : Nat) : Nat := hRot (hIn a h) * 11400714785074694791 % 18446744073709551616
def hInv (y : Nat) : Nat := hUn (y * 614540362697595703 % 18446744073709551616)
theorem hIn_lt (a h : Nat) : hIn a h < 18446744073709551616 := Nat.mod_lt _ (by decide)
theorem hStep_lt (a h : Nat) : hStep a h < 18446744073709551616 := Nat.mod_lt _ (by decide)
theorem hInv_step (a h : Nat) : hInv (hStep a h) = hIn a h := by
  unfold hInv hStep
  rw [hMul_un _ (hRot_lt _ (hIn_lt a h)), hRot_un _ (hIn_lt a h)]
theorem hStep_inj {a h b g : Nat} (e : hStep a h = hStep b g) : hIn a h = hIn b g := by rw [← hInv_step, ← hInv_step, e]
def hBeg (i : Nat) : Nat := hStep 2870177450012600261 i
theorem hBeg_lt (i : Nat) : hBeg i < 18446744073709551616 := hStep_lt _ _
theorem hPart {a b j k : Nat} (ha : a < 18446744073709551616) (hb : b < 18446744073709551616) (hj : j < 128) (hk : k < 128) (e : hIn a j = hIn b k) : (a + 18446744073709551616 - b) * 839798700976720815 % 18446744073709551616 = (k + 18446744073709551616 - j) % 18446744073709551616 := by
  unfold hIn at e; omega
def hChk : Bool := (List.range 64).all fun i => (List.range 64).all fun k => decide (i = k) || (decide (128 ≤ (hBeg i + 18446744073709551616 - hBeg k) * 839798700976720815 % 18446744073709551616) && decide ((hBeg i + 18446744073709551616 - hBeg k) * 839798700976720815 % 18446744073709551616 ≤ 18446744073709551488))
theorem hChk_ok : hChk = true := by decide +kernel
theorem hBeg_apart {i k : Nat} (hi : i < 64) (hk : k < 64) (h : i ≠ k) : 128 ≤ (hBeg i + 18446744073709551616 - hBeg k) * 839798700976720815 % 18446744073709551616 ∧ (hBeg i + 18446744073709551616 - hBeg k) * 839798700976720815 % 18446744073709551616 ≤ 18446744073709551488 := by
  have := hChk_ok
  unfold hChk at this
  have := List.all_eq_true.mp (List.all_eq_true.mp this i (List.mem_range.mpr hi)) k (List.mem_range.mpr hk)
  simpa [h] using this
theorem hSame {a j l : Nat} (ha : a < 18446744073709551616) (hj : j < 128) (hl : l < 128) (e : hIn a j = hIn a l) : j = l := by
  have := hPart ha ha hj hl e
  rw [Nat.add_sub_cancel_left, Nat.mul_mod_right] at this
  clear ha e
  omega
theorem hPair_inj {i j k l : Nat} (hi : i < 64) (hj : j < 128) (hk : k < 64) (hl : l < 128) (e : hStep (hBeg i) j = hStep (hBeg k) l) : i = k ∧ j = l := by
  have e1 := hStep_inj e
  have li := hBeg_lt i
  have lk := hBeg_lt k
  have ap := fun h => hBeg_apart hi hk h
  by_cases h : i = k
  · rw [h] at e1
    exact ⟨h, hSame lk hj hl e1⟩
  · exfalso
    have q := ap h
    generalize hBeg i = a at e1 li q
    generalize hBeg k = b at e1 lk q
    rw [hPart li lk hj hl e1] at q
    clear li lk e1 ap e
    omega
theorem hFar {a j x : Nat} (ha : a < 18446744073709551616) (hx : x < 18446744073709551616) (hj : j < 128) (q : 128 ≤ (x + 18446744073709551616 - a) * 839798700976720815 % 18446744073709551616) : hIn a j ≠ x := by
  intro e
  unfold hIn at e
  have z : (x + 18446744073709551616 - a) * 839798700976720815 % 18446744073709551616 = j % 18446744073709551616 := by
    clear q
    omega
  rw [z] at q
  clear z e ha hx
  omega
def hChk2 : Bool := (List.range 64).all fun i => decide (128 ≤ (9148689060682678900 + 18446744073709551616 - hBeg i) * 839798700976720815 % 18446744073709551616) && decide (128 ≤ (15881292906973731817 + 18446744073709551616 - hBeg i) * 839798700976720815 % 18446744073709551616)
theorem hChk2_ok : hChk2 = true := by decide +kernel
theorem hNot {i j : Nat} (hi : i < 64) (hj : j < 128) : hStep (hBeg i) j ≠ 15576566623696079691 ∧ hStep (hBeg i) j ≠ 15576566625242355488 := by
  have := hChk2_ok
  unfold hChk2 at this
  have := List.all_eq_true.mp this i (List.mem_range.mpr hi)
  rw [Bool.and_eq_true] at this
  have q1 := of_decide_eq_true this.1
  have q2 := of_decide_eq_true this.2
  have lt := hBeg_lt i
  have e1 : hInv 15576566623696079691 = 9148689060682678900 := by decide +kernel
  have e2 : hInv 15576566625242355488 = 15881292906973731817 := by decide +kernel
  have st := hInv_step (hBeg i) j
  generalize hBeg i = a at *
  constructor
  · intro e
    rw [e, e1] at st
    exact hFar lt (by decide) hj q1 st.symm
  · intro e
    rw [e, e2] at st
    exact hFar lt (by decide) hj q2 st.symm
def hFin (a : Nat) : Int := if ((a + 2870177450013471924) % 18446744073709551616 == 18446744073709551616 - 1) = true then 1546275796 else if (a + 2870177450013471924) % 18446744073709551616 < 9223372036854775808 then (((a + 2870177450013471924) % 18446744073709551616 : Nat) : Int) else (((a + 2870177450013471924) % 18446744073709551616 : Nat) : Int) - 18446744073709551616
theorem hFin_inj {a b : Nat} (ha : a < 18446744073709551616) (hb : b < 18446744073709551616) (na : a ≠ 15576566623696079691 ∧ a ≠ 15576566625242355488) (nb : b ≠ 15576566623696079691 ∧ b ≠ 15576566625242355488) (e : hFin a = hFin b) : a = b := by
  unfold hFin at e
  simp only [beq_iff_eq] at e
  split at e <;> split at e <;> (try split at e) <;> (try split at e) <;> omega
def kStep (acc : Nat) (h : Int) : Nat :=
  let m : Nat := 2 ^ 64
  let prime1 : Nat := 11400714785074694791
  let prime2 : Nat := 14029467366897019727
  let acc := (acc + (h % (m : Int)).toNat * prime2) % m
  let acc := (acc * 2 ^ 31) % m + acc / 2 ^ 33
  (acc * prime1) % m
def kFin (n acc : Nat) : Int :=
  let m : Nat := 2 ^ 64
  let prime5 : Nat := 2870177450012600261
  let acc := (acc + (n ^^^ (prime5 ^^^ 3527539))) % m
  if acc == m - 1 then 1546275796 else if acc < 2 ^ 63 then acc else (acc : Int) - m
theorem tupleHash_k (a b : Int) : Builtin.Tuple.tupleHashOf [a, b] = kFin 2 (kStep (kStep 2870177450012600261 a) b) := by
  unfold Builtin.Tuple.tupleHashOf
  dsimp only
  rw [List.foldl_cons, List.foldl_cons, List.foldl_nil]
  exact Eq.refl _
theorem kStep_eq (a k : Nat) (h : k < 128) : kStep a (k : Int) = hStep a k := by
  have t : ((k : Int) % (((2 : Nat) ^ 64 : Nat) : Int)).toNat = k := by
    have e : (((2 : Nat) ^ 64 : Nat) : Int) = 18446744073709551616 := by decide
    rw [e]; omega
  have p31 : 2 ^ 31 = 2147483648 := by decide
  have p33 : 2 ^ 33 = 8589934592 := by decide
  have p64 : 2 ^ 64 = 18446744073709551616 := by decide
  unfold kStep
  dsimp only
  rw [t, p31, p33, p64]
  unfold hStep hRot hIn
  exact Eq.refl _
theorem kFin_eq (a : Nat) : kFin 2 a = hFin a := by
  have p63 : 2 ^ 63 = 9223372036854775808 := by decide
  have p64 : 2 ^ 64 = 18446744073709551616 := by decide
  have pc : (2 ^^^ (2870177450012600261 ^^^ 3527539)) = 2870177450013471924 := by decide +kernel
  unfold kFin
  dsimp only
  rw [pc, p63, p64]
  unfold hFin
  exact Eq.refl _
theorem tupleHash_pair (i j : Nat) (hi : i < 64) (hj : j < 128) : Builtin.Tuple.tupleHashOf [(i : Int), (j : Int)] = hFin (hStep (hBeg i) j) := by
  rw [tupleHash_k, kStep_eq _ i (by omega), kStep_eq _ j hj, kFin_eq]
  exact Eq.refl _
end SP
namespace PySem
open Lean Elab Tactic Meta PySem PySem.Calls PyProof.Rows PyProof.V PySem.Spec
section
variable {prog : Program} {w : World} {K : Type} [DecidableEq K] {knd : HeapKind prog w K} {A : Around} {E : Value → Shared → Prop} {s : Shared}
/-- two dicts, the same keys and values -/
theorem SPsamePairsH {nm : String} {a b : Addr} {ka kb : List (K × Addr × Value)} {Q : Bool → Shared → Prop} (hu : knd.room A) (ha : (a == sysModules) = false) (hb : (b == sysModules) = false)
    (da : s.heap.DictOfH knd a ka) (db : s.heap.DictOfH knd b kb) (hl : ka.length = kb.length) (hits : ∀ x ∈ ka, ∃ (j : Nat) (p : Addr × Value), kb[j]? = some (x.1, p) ∧ SeqAt.EqAt A s x.2.2 p.2 true) (h : Q true s) :
    wpAny (model prog w) A (Builtin.Dict.samePairs nm a b) Q E s := by
  obtain ⟨oa, es, ep, hoa, _, hda, hea, hisa, hna⟩ := da
  obtain ⟨ob, es', ep', hob, _, hdb, heb, hisb, hnb⟩ := db
  have hla : ka.length = es.size := (size_of_entries hea).symm
  have hlb : kb.length = es'.size := (size_of_entries heb).symm
  unfold Builtin.Dict.samePairs Builtin.Dict.showsAll
  rw [if_neg (show ¬ (a == sysModules) = true by rw [ha]; exact Bool.false_ne_true), if_neg (show ¬ (b == sysModules) = true by rw [hb]; exact Bool.false_ne_true)]
  refine wpAny_bind (wpAny_pure (wpAny_bind (wpAny_pure ?_)))
  refine wpAny_bind (wpAny_dictEntries hoa hda ?_)
  dsimp only
  refine wpAny_bind (wpAny_dictEntries hob hdb ?_)
  have hsz : es.size = es'.size := by omega
  rw [if_neg (by rw [hsz]; simp)]
  refine wpAny_bind (wpAny_dictEpoch hoa hda ?_)
  refine wpAny_bind ?_
  rw [Std.Legacy.Range.forIn_eq_forIn_range']
  simp only [Std.Legacy.Range.size, Nat.sub_zero, Nat.add_sub_cancel, Nat.div_one]
  refine wpAny_forIn_list _
    (fun rest q s' => s' = s ∧ q = (none, ()) ∧ ∃ i, rest = List.range' i (es.size - i) ∧ i ≤ es.size)
    _ ?_ ?_ _ _ ⟨rfl, rfl, 0, by simp, Nat.zero_le _⟩
  · rintro x rest q s' ⟨rfl, rfl, i, hr, hi⟩
    have hlt : i < es.size := by
      rcases Nat.lt_or_ge i es.size with h | h
      · exact h
      · rw [Nat.sub_eq_zero_of_le h] at hr; simp at hr
    obtain ⟨rfl, hrest⟩ : x = i ∧ rest = List.range' (i + 1) (es.size - (i + 1)) := by
      have e : es.size - i = (es.size - (i + 1)) + 1 := by omega
      rw [e, List.range'_succ] at hr
      injection hr with h1 h2
      exact ⟨h1, h2⟩
    refine wpAny_bind (wpAny_dictEntries hoa hda ?_)
    have hlt' : x < ka.length := by rw [hla]; exact hlt
    obtain ⟨⟨k, c, v⟩, hkv⟩ : ∃ y, ka[x]? = some y := ⟨ka[x], List.getElem?_eq_getElem hlt'⟩
    have hex : es[x]? = some ⟨knd.hash k, .ref c, v⟩ := by rw [entry_at hea x, hkv]; rfl
    rw [hex]
    obtain ⟨j, p, hj, he⟩ := hits _ (List.mem_of_getElem? hkv)
    have hej : es'[j]? = some ⟨knd.hash k, .ref p.1, p.2⟩ := by rw [entry_at heb j, hj]; rfl
    show wpAny _ _ (holding [Value.ref c, v] _ >>= _) _ _ _
    refine wpAny_bind (wpAny_holding (wpAny_bind (wpAny_dictFind_heap hu (hisa _ (List.mem_of_getElem? hkv)) hob hdb heb hisb hnb ?_ ?_)))
    · intro hno
      exact absurd hj (hno j p)
    · intro j' p' hj'
      have hjj : j' = j := idxH_unique hnb hj' hj
      subst hjj
      have hpp : p' = p := by rw [hj] at hj'; cases hj'; rfl
      subst hpp
      refine wpAny_bind (wpAny_dictEntries hob hdb ?_)
      rw [hej]
      refine wpAny_holding (he prog w _ _ ?_)
      show wpAny _ _ (if (!true) = true then _ else _) _ _ _
      rw [if_neg (by decide)]
      refine wpAny_bind (wpAny_dictEpoch hoa hda ?_)
      rw [if_neg (by simp)]
      exact wpAny_pure ⟨rfl, rfl, x + 1, hrest, hlt⟩
  · rintro q s' ⟨rfl, rfl, i, hr, hi⟩
    exact wpAny_pure h
theorem SPkeq_neH {a b : Addr} {ka kb : List (K × Addr × Value)} {Q : Value → Shared → Prop} (hr : knd.room A.in1) (ha : (a == sysModules) = false) (hb : (b == sysModules) = false)
    (da : s.heap.DictOfH knd a ka) (db : s.heap.DictOfH knd b kb) (hu : A.units < cLine) (hl : ka.length = kb.length) (hits : ∀ x ∈ ka, ∃ (j : Nat) (p : Addr × Value), kb[j]? = some (x.1, p) ∧ SeqAt.EqAt A.in1 s x.2.2 p.2 true) (h : Q (.bool false) s) :
    wpAny (model prog w) A (compareOp .NotEq (.ref a) (.ref b)) Q E s := by
  refine wpAny_richCompare_same_room (op := .NotEq) da.typeIs db.typeIs PySem.F.slot_dict_ne (wpAny_call_entry PySem.F.slot_dict_ne da.typeIs PySem.F.entry_dict_ne ?_ (PySem.F.args_dict_ne_2 _ _)) hu
  show wpAny _ _ (Builtin.Dict.dictSlotArgs "__ne__" ⟨[.ref a, .ref b], []⟩ >>= _) _ _ s
  refine wpAny_bind ?_
  unfold Builtin.Dict.dictSlotArgs
  refine wpAny_bind (wpAny_notOrdered_dict da.typeIs ?_)
  show wpAny _ _ (pure (Value.ref a, Value.ref b)) _ _ s
  refine wpAny_pure ?_
  refine wpAny_bind (wpAny_isInstance (T := "dict") db.typeIs PySem.F.sub_dict_dict ?_)
  simp only [Bool.not_true, Bool.false_eq_true, if_false]
  refine wpAny_bind (wpAny_pure (wpAny_bind (wpAny_pure ?_)))
  refine wpAny_bind (SPsamePairsH hr ha hb da db hl hits ?_)
  refine wpAny_pure ⟨_, rfl, ?_, ?_⟩
  · exact fun x => nomatch x
  · simpa using h
/-- dict(d): keys that are tuples -/
theorem SPcall_dictH {o : Addr} {more : List (K × Addr × Value)} {Q : Value → Shared → Prop} (hu : knd.room A.in1.in1) (hoS : (o == sysModules) = false) (ho : s.heap.DictOfH knd o more) (hsz : more.length ≤ sizeLine)
    (hty : ∀ x ∈ more, s.TypeIs (.ref x.2.1) "tuple") (hap : (more.map fun x => knd.hash x.1).Nodup)
    (hst : ∀ h', (∀ b o, s.heap.get? b = some o → h'.get? b = some o) → ∀ x ∈ more, knd.is h' x.1 x.2.1)
    (h : ∀ h', h'.DictOfH knd s.heap.objs.size more → Heap.SameBut s.heap.objs.size (s.heap.push { cls := .type "dict", data := .dict #[] }) h' → Q (.ref s.heap.objs.size) { s with heap := h' }) :
    wpAny (model prog w) A (call (.type "dict") [.ref o]) Q E s := by
  refine callType_codes (Q₁ := fun obj s₁ => obj = .ref s.heap.objs.size ∧ s₁ = { s with heap := s.heap.push { cls := .type "dict", data := .dict #[] } }) F.kt_called_dict (F.kt_typeCall_dict_1 _) F.entry_dict_init (kt_code_dict_new _ ⟨rfl, rfl⟩) ?_
  rintro obj s₁ ⟨rfl, rfl⟩
  have hnew : (s.heap.push { cls := .type "dict", data := .dict #[] }).DictOfH knd s.heap.objs.size [] := Heap.DictOfH.new s.heap
  have hk : ∀ b o, s.heap.get? b = some o → (s.heap.push { cls := .type "dict", data := .dict #[] }).get? b = some o := fun b o e => Heap.get?_push_of_some _ e
  have ho' : (s.heap.push { cls := .type "dict", data := .dict #[] }).DictOfH knd o more := ho.at' (fun _ e => hk _ _ e) (hst _ hk)
  have hn : (more.map (·.1)).Nodup := ho.nodup
  have hdo : s.heap.objs.size ≠ o := fun e => absurd ho.lt_size (by rw [e]; exact Nat.lt_irrefl _)
  refine ⟨hnew.typeIs, F.args_dict_init_2 _ _, ?_⟩
  unfold Builtin.«dict.__init__»
  refine wpAny_bind ?_
  unfold Builtin.Dict.selfAndRest
  refine wpAny_bind (wpAny_notOrdered_dict hnew.typeIs ?_)
  show wpAny _ _ (pure (s.heap.objs.size, [Value.ref o])) _ _ _
  refine wpAny_pure ?_
  show wpAny _ _ (Builtin.Dict.updateFrom "dict.__init__" s.heap.objs.size (.ref o) [] .none) _ _ _
  unfold Builtin.Dict.updateFrom
  refine wpAny_bind (wpAny_typeOf ho'.typeIs ?_)
  rw [if_neg (by decide)]
  refine wpAny_bind ?_
  unfold Builtin.Dict.merge
  refine wpAny_bind ?_
  unfold Builtin.Dict.readDirectly
  refine wpAny_bind (wpAny_isInstance ho'.typeIs isSubtype_dict_dict ?_)
  simp only [Bool.not_true, Bool.false_eq_true, if_false]
  refine wpAny_bind (wpAny_specialOf ho'.typeIs F.slot_dict_iter.lookup (wpAny_pure ?_))
  simp only [beq_self_eq_true, if_true]
  refine wpAny_bind (wpAny_pure ?_)
  refine wpAny_mergeDict_heap (hsz := by simpa using hsz) hu hdo hoS hnew ho' (.inr ⟨fun x hx => ?_, hap⟩) fun h' hd' _ hs' => ?_
  · obtain ⟨oo, e, hc⟩ := (hty x hx)
    exact ⟨oo, hk _ _ e, hc⟩
  show wpAny _ _ (Builtin.Dict.addKeywords s.heap.objs.size [] >>= _) _ _ _
  rw [storedAllH_nil_of_nodup more hn] at hd'
  exact wpAny_bind (wpAny_pure (wpAny_pure ⟨rfl, h h' hd' hs'⟩))
end
end PySem

/-! SPj: dict(d), d != e of dicts whose keys are pairs. -/
namespace SP
open PySem L2
/-! ### keys -/
def pairK : List Key → Bool
  | [.inl i, .inl j] => decide (0 ≤ i) && decide (i < 64) && (decide (0 ≤ j) && decide (j < 128))
  | _ => false
theorem pairK_shape {k : List Key} (h : pairK k = true) : ∃ i j : Nat, i < 64 ∧ j < 128 ∧ k = [.inl (i : Int), .inl (j : Int)] := by
  unfold pairK at h
  split at h
  · rename_i i j
    simp only [Bool.and_eq_true, decide_eq_true_eq] at h
    refine ⟨i.toNat, j.toNat, by omega, by omega, ?_⟩
    rw [Int.toNat_of_nonneg (by omega), Int.toNat_of_nonneg (by omega)]
  · cases h
theorem rawHash_nat (i : Nat) (h : i < 1000) : hashInt (i : Int) = (i : Int) := by
  have e : ((Int.natAbs (i : Int) : Nat) : Int) % ((2 ^ 61 - 1 : Nat) : Int) = (i : Int) := by
    have : ((2 ^ 61 - 1 : Nat) : Int) = 2305843009213693951 := by decide
    rw [this, Int.natAbs_natCast]
    omega
  have n1 : ¬ ((i : Int) < 0) := by omega
  have n2 : ((i : Int) == -1) = false := by
    rw [beq_eq_false_iff_ne]; omega
  have r : rawHash (i : Int) = (i : Int) := by
    unfold rawHash
    dsimp only
    simp only [e, n1, n2, if_false, Bool.false_eq_true]
  unfold hashInt
  simp only [r, n2, if_false, Bool.false_eq_true]
theorem reduce_id {h : Int} (h1 : -9223372036854775808 ≤ h) (h2 : h < 9223372036854775808) (h3 : h ≠ -1) : reduceHash h = h := by
  unfold reduceHash
  have e : (2 : Int) ^ 63 = 9223372036854775808 := by decide
  have n2 : (h == -1) = false := by rw [beq_eq_false_iff_ne]; exact h3
  rw [e, if_pos (by simp only [Bool.and_eq_true, decide_eq_true_eq]; exact ⟨h1, h2⟩), n2]
  rfl
theorem hFin_range {a : Nat} (na : a < 18446744073709551616) : -9223372036854775808 ≤ hFin a ∧ hFin a < 9223372036854775808 ∧ hFin a ≠ -1 := by
  unfold hFin
  simp only [beq_iff_eq]
  split
  · decide
  · split <;> omega
theorem pairHash {P : Program} {w : World} (i j : Nat) (hi : i < 64) (hj : j < 128) : tupleKeyHash (mixKind P w) [.inl (i : Int), .inl (j : Int)] = hFin (hStep (hBeg i) j) := by
  unfold tupleKeyHash
  have e : ([.inl (i : Int), .inl (j : Int)] : List Key).map (mixKind P w).hash = [(i : Int), (j : Int)] := by
    show [hashInt (i : Int), hashInt (j : Int)] = _
    rw [rawHash_nat i (by omega), rawHash_nat j (by omega)]
  rw [e, tupleHash_pair i j hi hj]
  obtain ⟨h1, h2, h3⟩ := hFin_range (hStep_lt (hBeg i) j)
  exact reduce_id h1 h2 h3
theorem pairHash_inj {P : Program} {w : World} {k l : List Key} (hk : pairK k = true) (hl : pairK l = true) (e : tupleKeyHash (mixKind P w) k = tupleKeyHash (mixKind P w) l) : k = l := by
  obtain ⟨i, j, hi, hj, rfl⟩ := pairK_shape hk
  obtain ⟨a, b, ha, hb, rfl⟩ := pairK_shape hl
  rw [pairHash i j hi hj, pairHash a b ha hb] at e
  have q := hFin_inj (hStep_lt _ _) (hStep_lt _ _) (hNot hi hj) (hNot ha hb) e
  obtain ⟨e1, e2⟩ := hPair_inj hi hj ha hb q
  rw [e1, e2]
theorem hashes_apart {P : Program} {w : World} : ∀ {xs : List (List Key × Addr × Value)}, (xs.map (·.1)).Nodup → (∀ x ∈ xs, pairK x.1 = true) → (xs.map fun x => (tupleKind (mixKind P w)).hash x.1).Nodup
  | [], _, _ => List.nodup_nil
  | x :: r, hn, hp => by
    rw [List.map_cons, List.nodup_cons] at hn
    rw [List.map_cons, List.nodup_cons]
    refine ⟨fun hm => ?_, hashes_apart hn.2 fun y hy => hp y (List.mem_cons_of_mem _ hy)⟩
    obtain ⟨y, hy, e⟩ := List.mem_map.mp hm
    have := pairHash_inj (hp y (List.mem_cons_of_mem _ hy)) (hp x List.mem_cons_self) e
    exact hn.1 (List.mem_map.mpr ⟨y, hy, this⟩)
theorem tk_keep {P : Program} {w : World} {h h' : Heap} {ks : List Key} {a : Addr} (x : (tupleKind (mixKind P w)).is h ks a) (e : ∀ b o, h.get? b = some o → h'.get? b = some o) : (tupleKind (mixKind P w)).is h' ks a :=
  let ⟨o, items, n, ho, r⟩ := x; ⟨o, items, n, e _ _ ho, r⟩
theorem kt_keys {H : Hp} {kvs : List (List Key × V)} {xs : List (List Key × Addr × Value)} (r : KT H kvs xs) : ∀ x ∈ xs, ∃ p ∈ kvs, p.1 = x.1 := by
  unfold KT at r
  induction r with
  | nil => intro x hx; cases hx
  | @cons p q ps qs h t ih =>
    intro x hx
    rcases List.mem_cons.mp hx with rfl | hx
    · exact ⟨p, List.mem_cons_self, h.1⟩
    · obtain ⟨p', hp', e⟩ := ih x hx
      exact ⟨p', List.mem_cons_of_mem _ hp', e⟩
section
variable {X : Cx}
theorem call_dictT (hu : X.A.units + 64 < cLine) : CallR X (.type "dict") (fun xs H Q => ∃ (a : Addr) (kvs : List (List Key × V)), xs = [.ref a] ∧ Rd H a (.dT kvs) ∧ (∀ p ∈ kvs, pairK p.1 = true) ∧ ∀ p, H p = none → Q (.ref p) (upd H p (.dT kvs))) := by
  intro pins s σ H xs us Q I r q
  obtain ⟨a, kvs, ex, hd, hp, q⟩ := q
  subst ex
  obtain ⟨u, eu, rx⟩ := vals1 r
  subst eu
  cases rx
  obtain ⟨z, lo, ks, rel, dd⟩ := dt_rd I.hok hd
  have hpk : ∀ x ∈ ks, pairK x.1 = true := fun x hx => by
    obtain ⟨p, hp', e⟩ := kt_keys rel x hx
    rw [← e]; exact hp p hp'
  have hz : ks.length ≤ sizeLine := by rw [← Paired.length rel]; exact z
  have his : ∀ x ∈ ks, (tupleKind (mixKind X.prog X.w)).is s.heap x.1 x.2.1 := let ⟨_, _, _, _, _, _, _, his, _⟩ := dd; his
  have hr : (tupleKind (mixKind X.prog X.w)).room X.A.in1.in1 := tupleKind_room_in1 (by show X.A.units + 1 + 1 < cLine; omega)
  refine SPcall_dictH (s := s) hr lo dd hz (fun x hx => ?_) (hashes_apart dd.nodup hpk) (fun h' hk x hx => tk_keep (his x hx) hk) fun h' d' hs => ?_
  · obtain ⟨o, items, n, ho, hc, _⟩ := his x hx
    exact ⟨o, ho, hc⟩
  have hm : (s.heap.objs.size == sysModules) = false := beq_eq_false_iff_ne.mpr (Nat.ne_of_gt I.big)
  have fr := I.hok.fresh (Nat.le_refl s.heap.objs.size)
  refine ⟨.ref s.heap.objs.size, upd H s.heap.objs.size (.dT kvs), I.laid (t' := s.toks) (fun b u e => (hs.2 b (Nat.ne_of_lt (Heap.lt_size e))).trans (Heap.get?_push_of_some _ e)) (Nat.le_refl _) ?_, rfl, q _ fr⟩
  obtain ⟨o, es, ep, g1, g2, g3, g4, _, g5⟩ := d'
  refine (show ObjOk X.prog X.w _ _ _ (.dT kvs) from ⟨z, hm, ks, KT.keeps rel fun b ys e => ?_, o, es, ep, g1, g2, g3, g4, g5⟩)
  have hne : b ≠ s.heap.objs.size := fun e2 => by rw [e2, fr] at e; cases e
  rw [upd_ne hne]; exact e
theorem op_neT (hu : X.A.units + 64 < cLine) : OpR X (compareOp .NotEq) (fun x y H Q => ∃ a b kvs, x = .ref a ∧ y = .ref b ∧ Rd H a (.dT kvs) ∧ Rd H b (.dT kvs) ∧ (∀ p ∈ kvs, flatB p.2 = true) ∧ Q (.bl false) H) := by
  intro pins s σ H x y v u Q I rx ry h
  obtain ⟨a, b, kvs, rfl, rfl, ea, eb, fl, q⟩ := h
  obtain rfl : v = Value.ref a := rx
  obtain rfl : u = Value.ref b := ry
  obtain ⟨_, la, xa, ra, da⟩ := dt_rd I.hok ea
  obtain ⟨_, lb, xb, rb, db⟩ := dt_rd I.hok eb
  refine SPkeq_neH (knd := tupleKind (mixKind X.prog X.w)) (tupleKind_room_in1 (by omega)) la lb da db (by omega) (by rw [← Paired.length ra, ← Paired.length rb]) ?_ (fin_bl I q rfl)
  have go : ∀ {l : List (List Key × V)} {m n : List (List Key × Addr × Value)}, KT H l m → KT H l n → (∀ p ∈ l, flatB p.2 = true) → ∀ x ∈ m, ∃ (j : Nat) (p : Addr × Value), n[j]? = some (x.1, p) ∧ SeqAt.EqAt X.A.in1 s x.2.2 p.2 true := by
    intro l m n r1
    induction r1 generalizing n with
    | nil => intro _ _ x hx; cases hx
    | @cons p q ps qs h t ih =>
      intro r2 f x hx
      cases r2 with
      | @cons _ q2 _ qs2 h2 t2 =>
        rcases List.mem_cons.mp hx with rfl | hx
        · refine ⟨0, q2.2, ?_, eqAt_same h.2.2 h2.2.2 (f p List.mem_cons_self)⟩
          show some q2 = some (x.1, q2.2)
          rw [← h.1, h2.1]
        · obtain ⟨j, p', e1, e2⟩ := ih t2 (fun p' hm => f p' (List.mem_cons_of_mem _ hm)) x hx
          exact ⟨j + 1, p', e1, e2⟩
  exact go ra rb fl
end
/-! ### in the layer -/
def fDict : Sv → Mu → R Cell := fun a μ => match look μ a with
  | some (.dk kvs) => .ok (.dk kvs) μ
  | some (.dt kvs) => if kvs.all (fun p => pairK p.1) then .ok (.dt kvs) μ else .no
  | _ => .no
def strsT : List (List Key × SP.D) → Option (List (List Key × Str))
  | [] => some []
  | (k, .str s) :: r => (strsT r).map ((k, s) :: ·)
  | _ => none
def gNeT : SP.D → SP.D → Option SP.D
  | .dt a, .dt b => match strsT a, strsT b with
    | some x, some y => if x = y then some (.bl false) else none
    | _, _ => none
  | _, _ => none
theorem strsT_ok {K : PySem.W.Frag} {G : Hp} : ∀ {ds : List (List Key × SP.D)} {l : List (List Key × Str)} {vs : List (List Key × V)}, strsT ds = some l → RepT K G vs ds → vs = l.map fun p => (p.1, V.str p.2)
  | [], l, _, e, .nil => by simp only [strsT] at e; cases e; rfl
  | (k, .str s) :: r, l, _, e, .cons h t => by
    simp only [strsT] at e
    cases q : strsT r with
    | none => rw [q] at e; cases e
    | some m =>
      rw [q] at e
      cases e
      cases h
      rw [strsT_ok q t]; rfl
  | (_, .non) :: _, _, _, e, _ => by simp [strsT] at e
  | (_, .bl _) :: _, _, _, e, _ => by simp [strsT] at e
  | (_, .int _) :: _, _, _, e, _ => by simp [strsT] at e
  | (_, .tup _) :: _, _, _, e, _ => by simp [strsT] at e
  | (_, .lst _) :: _, _, _, e, _ => by simp [strsT] at e
  | (_, .dk _) :: _, _, _, e, _ => by simp [strsT] at e
  | (_, .dt _) :: _, _, _, e, _ => by simp [strsT] at e
  | (_, .scr _) :: _, _, _, e, _ => by simp [strsT] at e
theorem rept_keys {K : PySem.W.Frag} {G : Hp} : ∀ {vs : List (List Key × V)} {ds : List (List Key × SP.D)}, RepT K G vs ds → ∀ p ∈ vs, ∃ q ∈ ds, q.1 = p.1
  | _, _, .nil, p, hp => by cases hp
  | _, _, .cons h t, p, hp => by
    rcases List.mem_cons.mp hp with rfl | hp
    · exact ⟨_, List.mem_cons_self, rfl⟩
    · obtain ⟨q, hq, e⟩ := rept_keys t p hp
      exact ⟨q, List.mem_cons_of_mem _ hq, e⟩
section
variable {X : Cx} {Γ : Gm} {W : WX}
theorem pr_dict : PrF Γ fDict fun x H Q => (∃ (a : Addr) (kvs : List (Key × V)), [x] = [V.ref a] ∧ Rd H a (.dK kvs) ∧ ∀ p, H p = none → Q (.ref p) (upd H p (.dK kvs))) ∨ (∃ (a : Addr) (kvs : List (List Key × V)), [x] = [V.ref a] ∧ Rd H a (.dT kvs) ∧ (∀ p ∈ kvs, pairK p.1 = true) ∧ ∀ p, H p = none → Q (.ref p) (upd H p (.dT kvs))) := by
  intro E G cs μ H x sa Q m ra p
  unfold fDict at p
  cases e : look μ sa with
  | none => rw [e] at p; exact p.elim
  | some d =>
    rw [e] at p
    have r := look_L m ra e
    cases r with
    | dk h n r => exact .inl ⟨_, _, rfl, .inl h, fun l hl => p.lay m hl _ fun gp _ => ⟨gp, n, _, upd_same, r⟩⟩
    | dt h n r =>
      dsimp only at p
      split at p
      · rename_i c
        refine .inr ⟨_, _, rfl, .inl h, fun q hq => ?_, fun l hl => p.lay m hl _ fun gp _ => ⟨gp, n, _, upd_same, r⟩⟩
        obtain ⟨k, hk, e⟩ := rept_keys r q hq
        rw [← e]
        exact List.all_eq_true.mp c k hk
      · exact p.elim
    | lst h n r => exact p.elim
    | tup h n r => exact p.elim
    | non => exact p.elim
    | bl b => exact p.elim
    | int i => exact p.elim
    | str s h => exact p.elim
    | scr h n => exact p.elim
theorem d_dict {p : Pos} {e : Expr} {pos : Pos} {f : Ev} (hu : X.A.units + 64 < cLine) (hm : X.mg "dict" = none) (ha : PE X e (wE Γ W f)) (hg : Gl X "dict" := by rfl) (he : starEach (e :: []) X.env = (false, eval e X.env) :: starEach [] X.env := by rfl) (hpl : (backTo pos (starEach [] X.env)).any (·.1) = false := by rfl) :
    PE X (.Call (.Name "dict" p) [e] [] pos) (wF Γ W (dOpF fDict f)) := d_t1F (cr_or call_dictD (call_dictT hu)) pr_dict hm PyProof.Rows.boot_dict ha hg (he := he) (hpl := hpl)
theorem pr_neT : Pr2 Γ (p2 gNeT) (fun x y H Q => ∃ a b kvs, x = .ref a ∧ y = .ref b ∧ Rd H a (.dT kvs) ∧ Rd H b (.dT kvs) ∧ (∀ p ∈ kvs, flatB p.2 = true) ∧ Q (.bl false) H) := pr2_pure fun G H x y d e q Q s rx ry hq k => by
  unfold gNeT at hq
  split at hq
  · rename_i xs ys
    cases ex : strsT xs with
    | none => rw [ex] at hq; cases hq
    | some l =>
      cases ey : strsT ys with
      | none => rw [ex, ey] at hq; cases hq
      | some l2 =>
        rw [ex, ey] at hq
        dsimp only at hq
        split at hq
        · rename_i c
          subst c
          cases hq
          cases rx with
          | dt h n r =>
            cases ry with
            | dt h2 n2 r2 =>
              have e1 := strsT_ok ex r
              have e2 := strsT_ok ey r2
              subst e1
              subst e2
              refine ⟨_, _, _, rfl, rfl, .inl h, .inl h2, fun p hp => ?_, k _ (.bl _)⟩
              obtain ⟨q, _, rfl⟩ := List.mem_map.mp hp
              rfl
        · cases hq
  · cases hq
variable {a b : Expr} {pos : Pos} {fa fb : Ev}
theorem d_neT (hu : X.A.units + 64 < cLine) (ha : PE X a (wE Γ W fa)) (hb : PE X b (wE Γ W fb)) : PE X (.Compare a [.NotEq] [b] pos) (wE Γ W (dOp2 (p2 gNeT) fa fb)) := d_cmpr (op_neT hu) pr_neT ha hb (nomark _)
theorem t_neT (hu : X.A.units + 64 < cLine) (ha : PE X a (wE Γ W fa)) (hb : PE X b (wE Γ W fb)) : PT X (.Compare a [.NotEq] [b] pos) (wT Γ W (dTest (dOp2 (p2 gNeT) fa fb))) := d_tcmp (op_neT hu) pr_neT ha hb (nomark _)
end
end SP

/-! SPk: an object: its attributes, its methods, a new one; try. -/
namespace SP
open PySem L2
/-! ### the evaluators -/
def fldO (x : Str) (μ : Mu) : Option Cell → R Sv
  | some (.ob fs) => match fs.lookup x with
    | some w => .ok w μ
    | none => .no
  | _ => .no
/-- e.x -/
def dFld (f : Ev) (x : Str) : Ev := fun ρ μ => (f ρ μ).bind fun v μ1 => match v with
  | .rf n => fldO x μ1 μ1[n]?
  | _ => .no
def putFd (f : Str) (v : Sv) : List (Str × Sv) → List (Str × Sv)
  | [] => [(f, v)]
  | (g, x) :: r => if g = f then (g, v) :: r else (g, x) :: putFd f v r
def fldP (x : Str) (v : Sv) (n : Nat) (ρ : Rho) (μ : Mu) : Option Cell → O
  | some (.ob fs) => if fs.length < 100 then .nx ρ (μ.set n (.ob (putFd x v fs))) else .no
  | _ => .no
/-- o.x = e -/
def sFld (fo : Ev) (x : Str) (fv : Ev) : EvS := sE fv fun v ρ μ => sE fo (fun o ρ μ => match o with
  | .rf n => fldP x v n ρ μ μ[n]?
  | _ => .no) ρ μ
def methO (m : Str) (k : Mu → R Sv) (μ : Mu) : Option Cell → R Sv
  | some (.ob fs) => if (fs.lookup m).isNone then k μ else .no
  | _ => .no
/-- o.m(..) -/
def dMeth (m : Str) (F : List Sv → Mu → R Sv) (fo : Ev) (g : EvA) : Ev := fun ρ μ => (fo ρ μ).bind fun v μ1 => match v with
  | .rf n => methO m (fun μ => (g ρ μ).bind fun vs μ2 => F (v :: vs) μ2) μ1 μ1[n]?
  | _ => .no
/-- C(..) -/
def dMake (F : List Sv → Mu → R Sv) (g : EvA) : Ev := fun ρ μ => (g ρ μ).bind fun vs μ1 => (F (.rf μ1.length :: vs) (μ1 ++ [.ob []])).bind fun v μ2 => match v with
  | .im .non => .ok (.rf μ1.length) μ2
  | _ => .no
def popO (n : Nat) (μ : Mu) : Option Cell → R Sv
  | some (.lst xs) => match xs[xs.length - 1]? with
    | some d => .ok (.im d) (μ.set n (.lst xs.dropLast))
    | none => .no
  | _ => .no
/-- l.pop() -/
def dPop (f : Ev) : Ev := fun ρ μ => (f ρ μ).bind fun v μ1 => match v with
  | .rf n => popO n μ1 μ1[n]?
  | _ => .no
/-- the handlers, one after the other: what each one takes, its suite -/
def catchO (U : List Xn) (c : Xn) (ρ : Rho) (μ : Mu) : List (List Xn × EvS) → O
  | [] => .ex c ρ μ
  | (S, h) :: r => if c ∈ S then h ρ μ else catchO U c ρ μ r
def sTry (U : List Xn) (b : EvS) (hs : List (List Xn × EvS)) : EvS := fun ρ μ => match b ρ μ with
  | .ex c ρ1 μ1 => if c ∈ U then catchO U c ρ1 μ1 hs else .no
  | o => o
/-! ### soundness -/
theorem repf_get {K : PySem.W.Frag} {G : Hp} {cs : List Addr} {x : Str} {w : Sv} : ∀ {vs : List (Str × V)} {ds : List (Str × Sv)}, RepF K G cs vs ds → ds.lookup x = some w → ∃ v, vs.lookup x = some v ∧ RepS K G cs v w
  | _, _, .nil, e => by simp at e
  | _, _, .cons (k := k) h r, e => by
    rw [List.lookup_cons] at e ⊢
    cases q : x == k with
    | true => rw [q] at e; cases e; exact ⟨_, rfl, h⟩
    | false => rw [q] at e; exact repf_get r e
theorem repf_none {K : PySem.W.Frag} {G : Hp} {cs : List Addr} {x : Str} : ∀ {vs : List (Str × V)} {ds : List (Str × Sv)}, RepF K G cs vs ds → ds.lookup x = none → vs.lookup x = none
  | _, _, .nil, e => by simp
  | _, _, .cons (k := k) h r, e => by
    rw [List.lookup_cons] at e ⊢
    cases q : x == k with
    | true => rw [q] at e; cases e
    | false => rw [q] at e; exact repf_none r e
theorem repf_put {K : PySem.W.Frag} {G : Hp} {cs : List Addr} {x : Str} {w : Sv} {v : V} (h : RepS K G cs v w) : ∀ {vs : List (Str × V)} {ds : List (Str × Sv)}, RepF K G cs vs ds → RepF K G cs (putF x v vs) (putFd x w ds)
  | _, _, .nil => .cons h .nil
  | _, _, .cons (k := k) h1 r => by
    unfold putF putFd
    by_cases e : k = x
    · rw [if_pos e, if_pos e]; exact .cons h r
    · rw [if_neg e, if_neg e]; exact .cons h1 (repf_put h r)
theorem repf_len {K : PySem.W.Frag} {G : Hp} {cs : List Addr} : ∀ {vs : List (Str × V)} {ds : List (Str × Sv)}, RepF K G cs vs ds → vs.length = ds.length
  | _, _, .nil => rfl
  | _, _, .cons _ r => by simp [repf_len r]
section
variable {X : Cx} {Γ : Gm} {W : WX}
theorem d_fld {o : Expr} {x : Str} {pos : Pos} {f : Ev} (c : Cls Γ.K Γ.C) (n : NoAttr Γ.K Γ.C x) (ho : PE X o (wE Γ W f)) (hb : attributeBase o x X.env (eval o X.env) = eval o X.env := by rfl) (hK : X.K = Γ.K := by rfl) : PE X (.Attribute o x pos) (wE Γ W (dFld f x)) := by
  refine pe_imp (pe_fld ho hb) fun σ H Q h => ?_
  rw [hK]
  show wE Γ W f σ H _
  refine wE.of (te := wE Γ W f) (fun _ _ => rfl) h fun G cs μ v H1 a m ra p => ?_
  cases a with
  | im d => exact p.elim
  | rf k =>
    obtain ⟨q, hq, rfl⟩ := ra
    dsimp only at p
    unfold fldO at p
    split at p
    · rename_i fs hc
      split at p
      · rename_i w hw
        obtain ⟨g, dx, vs, hh, rf⟩ := m.cell k q _ hq hc
        obtain ⟨u, hu, ru⟩ := repf_get rf hw
        exact ⟨q, Γ.C, dx, vs, u, rfl, hh, c, n, hu, p.now m ru⟩
      · exact p.elim
    · exact p.elim
theorem s_fld {o value : Expr} {x : Str} {pos pos' : Pos} {fo fv : Ev} (c : Cls Γ.K Γ.C) (n : NoAttr Γ.K Γ.C x) (ho : PE X o (wE Γ W fo)) (hv : PE X value (wE Γ W fv)) (hs : swapsWith value (some (.Attribute o x pos')) pos.line X.env = pure false := by rfl) (hK : X.K = Γ.K := by rfl) :
    PS X (.Assign [.Attribute o x pos'] value pos) (wS Γ W (sFld fo x fv)) := by
  refine ps_imp (ps_fld ho hv hs) fun D σ H h => ?_
  rw [hK]
  show wE Γ W fv σ H _
  refine wE.stm h fun G cs ρ μ v H1 a rl r po => ?_
  show wE Γ W fo σ H1 _
  refine wE.stm' rl po fun G2 cs2 μ2 y H2 a2 g2 rl2 r2 po => ?_
  cases a2 with
  | im d => exact po.elim
  | rf k =>
    obtain ⟨q, hq, rfl⟩ := r2
    dsimp only at po
    unfold fldP at po
    split at po
    · rename_i fs hc
      split at po
      · rename_i hl
        obtain ⟨g, dx, vs, hh, rf⟩ := rl2.m.cell k q _ hq hc
        have rv : RepS Γ.K G2 cs2 v a := r.mono g2.ex g2.pre
        refine ⟨q, Γ.C, dx, vs, rfl, hh, c, n, by rw [repf_len rf]; omega, ?_⟩
        obtain ⟨g4, m4⟩ := rl2.m.put hq (.ins Γ.C dx (putF x v vs)) (.ob (putFd x a fs)) g ⟨g, dx, _, upd_same, repf_put rv rf⟩
        exact po G2 cs2 _ σ g4 (rl2.grow g4 m4)
      · exact po.elim
    · exact po.elim
/-- a method's call -/
def tMethE (C : Addr) (m : Str) (sp : Sp) (E : L2.St → XK) (ta : TE) (t : TA) : TE := fun σ H Q => ta σ H fun x H1 => ∃ a dx fs, x = .ref a ∧ H1 a = some (.ins C dx fs) ∧ fs.lookup m = none ∧
  t σ H1 fun vs H2 => sp (x :: vs) H2 Q (E σ)
theorem pe_methE {CX : CXT} {k : Nat} {C f : Addr} {fd : FuncData} {ps : List Str} {sp : Sp} {E : L2.St → XK} {m : Str} {pos apos : Pos} {e o : Expr} {es : List Expr} {ta : TE} {t : TA} {pl : Sem Bool} (he : PE X o ta) (c : Cls X.K C) (hm : Meth X.K C m f) (F : FnOk X.prog X.w X.K X.mg X.base CX k f fd ps sp) (hr : Room k X.A) (hb : Binds X.K fd ps []) (hx : ∀ σ, PassesAt CX X σ (E σ)) (ha : PA X (e :: es) t)
    (hst : starEach (e :: es) X.env = (false, eval e X.env) :: starEach es X.env := by rfl) (hpl : (backTo pos (starEach es X.env)).any (·.1) = false := by rfl)
    (ht : eval (.Call (.Attribute o m apos) (e :: es) [] pos) X.env = (do
      let ov ← eval o X.env
      standAt apos.atName
      let (f, first) ← holding [ov] (getMethod ov m pl)
      callWith pos f first (backTo pos (starEach (e :: es) X.env)) (backToKw pos (keywordEach [] X.env))) := by rfl) :
    PE X (.Call (.Attribute o m apos) (e :: es) [] pos) (tMethE C m sp E ta t) := by
  refine ⟨fun pins s σ H Q I h => ?_⟩
  refine PySem.W.methodCall_KW (pl := pl) (thn (he.run pins s σ H _ I h) fun u s1 ⟨x, H1, I1, rx, a, dx, fs, ex, ea, l, q⟩ => ?_) ht
  subst ex
  obtain rfl : u = Value.ref a := rx
  refine getmeth_ok I1 ea c hm l ?_
  refine PySem.W.callWith_K (first := [.ref a]) (h₀ := X.base) I.ok.mod.kin hm.kp (thn (ha.run pos pins s1 σ H1 _ I1 q) fun us s2 ⟨vs, H2, I2, r, q2⟩ => ⟨I2.kIn, ?_⟩) hst hpl
  exact run_fnS (us := .ref a :: us) (vs := .ref a :: vs) F hr hb (hx σ) I2 (.cons rfl r) q2
theorem pe_methE0 {CX : CXT} {k : Nat} {C f : Addr} {fd : FuncData} {ps : List Str} {sp : Sp} {E : L2.St → XK} {m : Str} {pos apos : Pos} {o : Expr} {ta : TE} {pl : Sem Bool} (he : PE X o ta) (c : Cls X.K C) (hm : Meth X.K C m f) (F : FnOk X.prog X.w X.K X.mg X.base CX k f fd ps sp) (hr : Room k X.A) (hb : Binds X.K fd ps []) (hx : ∀ σ, PassesAt CX X σ (E σ))
    (ht : eval (.Call (.Attribute o m apos) [] [] pos) X.env = (do
      let ov ← eval o X.env
      standAt apos.atName
      let (f, first) ← holding [ov] (getMethod ov m pl)
      callWith pos f first (backTo pos (starEach [] X.env)) (backToKw pos (keywordEach [] X.env))) := by rfl) :
    PE X (.Call (.Attribute o m apos) [] [] pos) (tMethE C m sp E ta tNil) := by
  refine ⟨fun pins s σ H Q I h => ?_⟩
  refine PySem.W.methodCall_KW (pl := pl) (thn (he.run pins s σ H _ I h) fun u s1 ⟨x, H1, I1, rx, a, dx, fs, ex, ea, l, q⟩ => ?_) ht
  subst ex
  obtain rfl : u = Value.ref a := rx
  refine getmeth_ok I1 ea c hm l ?_
  exact PySem.W.callWith_K0 (first := [.ref a]) I1.kIn hm.kp (run_fnS (us := [.ref a]) (vs := [.ref a]) F hr hb (hx σ) I1 (.cons rfl .nil) q)
theorem wE.meth {n : Nat} {F : List Sv → Mu → R Sv} {m : Str} {fo : Ev} {g : EvA} {t : TA} (hg : ∀ σ H Q, wA Γ W g σ H Q → t σ H Q) (hl : ∀ ρ μ a μ', g ρ μ = .ok a μ' → a.length + 1 = n) {σ : L2.St} {H : Hp} {Q : VK} (h : wE Γ W (dMeth m F fo g) σ H Q) :
    tMethE Γ.C m (spOf Γ n F) (fun σ c d H => W c d σ H) (wE Γ W fo) t σ H Q := by
  obtain ⟨G, cs, ρ, μ, rl, po⟩ := h
  have po2 := Post.bind (rep := RepS Γ.K) (show Post Γ (RepS Γ.K) (wX Γ W σ) G cs H ((fo ρ μ).bind _) Q from po)
  refine ⟨G, cs, ρ, μ, rl, po2.imp fun v H1 ⟨G1, cs1, a, μ1, g1, m1, ra, p⟩ => ?_⟩
  cases a with
  | im d => exact p.elim
  | rf k =>
    have ra0 := ra
    obtain ⟨q, hq, rfl⟩ := ra
    dsimp only at p
    unfold methO at p
    split at p
    · rename_i fs hc
      split at p
      · rename_i hn
        obtain ⟨_, dx, vs, hh, rf⟩ := m1.cell k q _ hq hc
        dsimp only at p
        refine ⟨q, dx, vs, rfl, hh, repf_none rf (by simpa using hn), hg _ _ _ ⟨G1, cs1, ρ, μ1, rl.grow g1 m1, ?_⟩⟩
        cases eg : g ρ μ1 with
        | ok b μ2 =>
          rw [eg] at p
          intro G2 cs2 H2 ws g2 m2 q2
          exact ⟨by rw [List.length_cons, q2.length]; exact hl _ _ _ _ eg, G2, cs2, .rf k :: b, μ2, m2, .cons (ra0.mono g2.ex g2.pre) q2, Post.mono (show Post Γ (RepS Γ.K) (wX Γ W σ) G1 cs1 H1 (F (.rf k :: b) μ2) Q from p) g2⟩
        | ex c μ2 => rw [eg] at p; exact p
        | no => rw [eg] at p; exact p
      · exact p.elim
    · exact p.elim
theorem d_meth {n k : Nat} {fa : Addr} {fd : FuncData} {ps : List Str} {F : List Sv → Mu → R Sv} {m : Str} {e o : Expr} {es : List Expr} {apos pos : Pos} {fo : Ev} {g : EvA} {pl : Sem Bool} (c : Cls X.K Γ.C) (hm : Meth X.K Γ.C m fa) (FO : FnOk X.prog X.w X.K X.mg X.base (L2.CX X.prog X.w) k fa fd ps (spOf Γ n F)) (hr : Room k X.A)
    (hb : Binds X.K fd ps []) (tk : Takes X W) (ho : PE X o (wE Γ W fo)) (ha : PA X (e :: es) (wA Γ W g)) (hl : ∀ ρ μ a μ', g ρ μ = .ok a μ' → a.length + 1 = n)
    (hst : starEach (e :: es) X.env = (false, eval e X.env) :: starEach es X.env := by rfl) (hpl : (backTo pos (starEach es X.env)).any (·.1) = false := by rfl)
    (ht : eval (.Call (.Attribute o m apos) (e :: es) [] pos) X.env = (do
      let ov ← eval o X.env
      standAt apos.atName
      let (f, first) ← holding [ov] (getMethod ov m pl)
      callWith pos f first (backTo pos (starEach (e :: es) X.env)) (backToKw pos (keywordEach [] X.env))) := by rfl) :
    PE X (.Call (.Attribute o m apos) (e :: es) [] pos) (wE Γ W (dMeth m F fo g)) :=
  pe_imp (pe_methE (pl := pl) ho c hm FO hr hb (fun σ => passAt tk σ) ha hst hpl ht) fun σ H Q h => wE.meth (fun _ _ _ z => z) hl h
theorem d_meth0 {k : Nat} {fa : Addr} {fd : FuncData} {ps : List Str} {F : List Sv → Mu → R Sv} {m : Str} {o : Expr} {apos pos : Pos} {fo : Ev} {pl : Sem Bool} (c : Cls X.K Γ.C) (hm : Meth X.K Γ.C m fa) (FO : FnOk X.prog X.w X.K X.mg X.base (L2.CX X.prog X.w) k fa fd ps (spOf Γ 1 F)) (hr : Room k X.A)
    (hb : Binds X.K fd ps []) (tk : Takes X W) (ho : PE X o (wE Γ W fo))
    (ht : eval (.Call (.Attribute o m apos) [] [] pos) X.env = (do
      let ov ← eval o X.env
      standAt apos.atName
      let (f, first) ← holding [ov] (getMethod ov m pl)
      callWith pos f first (backTo pos (starEach [] X.env)) (backToKw pos (keywordEach [] X.env))) := by rfl) :
    PE X (.Call (.Attribute o m apos) [] [] pos) (wE Γ W (dMeth m F fo dANil)) :=
  pe_imp (pe_methE0 (pl := pl) ho c hm FO hr hb (fun σ => passAt tk σ) ht) fun σ H Q h => wE.meth (g := dANil) (t := tNil) (fun σ H Q ⟨G, cs, ρ, μ, rl, z⟩ => z.now rl.m .nil) (fun ρ μ a μ' e => by cases e; rfl) h
/-! ### a new object -/
def tMakeE (C : Addr) (sp : Sp) (E : L2.St → XK) (t : TA) : TE := fun σ H Q => t σ H fun vs H1 => ∀ x dx, H1 x = none → H1 dx = none → dx ≠ x →
  sp (.ref x :: vs) (upd (upd H1 dx (.own x)) x (.ins C dx [])) (fun v H2 => v = .non ∧ Q (.ref x) H2) (E σ)
theorem run_makeE {CX : CXT} {k : Nat} {C f : Addr} {fd : FuncData} {ps : List Str} {sp : Sp} {E : L2.St → XK} {pins : List (Addr × Obj)} {σ : L2.St} {H : Hp} {s : Shared} {Q : VK} {us : List Value} {vs : List V} (M : Mk X.K C f) (F : FnOk X.prog X.w X.K X.mg X.base CX k f fd ps sp) (hr : Room (k + 1) X.A) (hb : Binds X.K fd ps [])
    (hx : PassesAt CX X σ (E σ)) (I : L2.Inv X pins σ H s) (r : Vals vs us)
    (h : ∀ x dx, H x = none → H dx = none → dx ≠ x → sp (.ref x :: vs) (upd (upd H dx (.own x)) x (.ins C dx [])) (fun v H2 => v = .non ∧ Q (.ref x) H2) (E σ)) :
    wpAny (model X.prog X.w) X.A (call (.ref C) us) (EP X pins σ Q) X.xe s := by
  have hq := h (s.heap.objs.size + 1) s.heap.objs.size (I.hok.fresh (Nat.le_succ _)) (I.hok.fresh (Nat.le_refl _)) (Nat.ne_of_lt (Nat.lt_succ_self _))
  have I2 := L2.Inv.made (C := C) I
  have r2 : Vals (V.ref (s.heap.objs.size + 1) :: vs) (Value.ref (s.heap.objs.size + 1) :: us) := .cons rfl r
  have hl : (Value.ref (s.heap.objs.size + 1) :: us).length = ps.length := by
    have e := r2.length
    rw [F.len _ _ _ _ hq] at e
    exact e.symm
  have b := hb _ (Value.ref (s.heap.objs.size + 1) :: us) I2.kIn (by rw [List.append_nil]; exact hl)
  rw [List.append_nil] at b
  refine wpAny_call (make_map (f := f) I.kIn M.makes M.init (beq_iff_eq.mp M.fn) (codeAny_mono (F.run _ X.stack _ _ ⟨Value.ref (s.heap.objs.size + 1) :: us, []⟩ (Value.ref (s.heap.objs.size + 1) :: us) _ _ (E σ) (hr.make C us [])
    (I2.env0.make C us []) b r2 hq) fun r s' hq' => ?_))
  cases r with
  | error e => exact hx pins _ _ e s' I2 hq'
  | ok fl =>
    cases fl with
    | ret u =>
      obtain ⟨v, H', I3, rv, ev, q3⟩ := I2.after hq'
      subst ev
      exact ⟨rv, ⟨V.ref (s.heap.objs.size + 1), H', I3, rfl, q3⟩⟩
    | next => exact False.elim hq'
    | brk => exact False.elim hq'
    | cont => exact False.elim hq'
theorem pe_makeE {CX : CXT} {k : Nat} {C f : Addr} {fd : FuncData} {ps : List Str} {sp : Sp} {E : L2.St → XK} {x : Str} {p pos : Pos} {e : Expr} {es : List Expr} {t : TA} (M : Mk X.K C f) (F : FnOk X.prog X.w X.K X.mg X.base CX k f fd ps sp) (hr : Room (k + 1) X.A) (hg : Gl X x) (hm : X.mg x = some (.ref C)) (hb : Binds X.K fd ps []) (hx : ∀ σ, PassesAt CX X σ (E σ))
    (ha : PA X (e :: es) t) (hdb : (x == ("__debug__" : Str)) = false := by decide) (he : starEach (e :: es) X.env = (false, eval e X.env) :: starEach es X.env := by rfl) (hpl : (backTo pos (starEach es X.env)).any (·.1) = false := by rfl) :
    PE X (.Call (.Name x p) (e :: es) [] pos) (tMakeE C sp E t) := by
  refine ⟨fun pins s σ H Q I h => ?_⟩
  refine wpAny_Call_Name_kw (ld_glob I hg hm ?_ hdb)
  refine PySem.W.callWith_K (h₀ := X.base) I.ok.mod.kin M.kp (thn (ha.run pos pins s σ H _ I h) fun us s1 ⟨vs, H1, I1, r, q⟩ => ⟨I1.kIn, ?_⟩) he hpl
  exact run_makeE M F hr hb (hx σ) I1 r q
theorem d_make {n k : Nat} {fa : Addr} {fd : FuncData} {ps : List Str} {F : List Sv → Mu → R Sv} {x : Str} {e : Expr} {es : List Expr} {p pos : Pos} {g : EvA} (M : Mk X.K Γ.C fa) (FO : FnOk X.prog X.w X.K X.mg X.base (L2.CX X.prog X.w) k fa fd ps (spOf Γ n F)) (hr : Room (k + 1) X.A) (hm : X.mg x = some (.ref Γ.C))
    (hb : Binds X.K fd ps []) (tk : Takes X W) (ha : PA X (e :: es) (wA Γ W g)) (hl : ∀ ρ μ a μ', g ρ μ = .ok a μ' → a.length + 1 = n) (hg : Gl X x := by rfl) (hdb : (x == ("__debug__" : Str)) = false := by decide)
    (he : starEach (e :: es) X.env = (false, eval e X.env) :: starEach es X.env := by rfl) (hpl : (backTo pos (starEach es X.env)).any (·.1) = false := by rfl) : PE X (.Call (.Name x p) (e :: es) [] pos) (wE Γ W (dMake F g)) := by
  refine pe_imp (pe_makeE M FO hr hg hm hb (fun σ => passAt tk σ) ha hdb he hpl) fun σ H Q h => ?_
  show wA Γ W g σ H _
  obtain ⟨G, cs, ρ, μ, rl, po⟩ := h
  refine ⟨G, cs, ρ, μ, rl, ?_⟩
  unfold dMake at po
  cases eg : g ρ μ with
  | ok a μ1 =>
    rw [eg] at po
    intro G1 cs1 H1 vs g1 m1 q1 x0 dx hx hdx hne
    have po : Post Γ (RepS Γ.K) (wX Γ W σ) G cs H ((F (.rf μ1.length :: a) (μ1 ++ [.ob []])).bind _) Q := po
    have nd1 : dx ∉ cs1 := m1.fresh hdx
    have gd1 := m1.freshG hdx
    -- the dict's own mark
    have gA : Grow G1 cs1 H1 G1 cs1 (upd H1 dx (.own x0)) := ⟨.refl _, List.prefix_refl _, fun a o q _ => by rw [upd_ne (ne_of_none q hdx)]; exact q, fun _ _ z => z, fun _ _ _ z => z⟩
    have mA : RelM Γ G1 cs1 μ1 (upd H1 dx (.own x0)) := by
      refine ⟨fun b u q => by rw [upd_ne (ne_of_none q gd1)]; exact m1.sub _ _ q, m1.len, m1.nd, fun n b c' e1 e2 => ?_⟩
      have nb : b ≠ dx := fun z => nd1 (by rw [← z]; exact List.mem_of_getElem? e1)
      have r := m1.cell n b c' e1 e2
      cases c' with
      | lst xs => obtain ⟨g, k, vs, q, r⟩ := r; exact ⟨g, k, vs, by rw [upd_ne nb]; exact q, r⟩
      | dk xs => obtain ⟨g, k, vs, q, r⟩ := r; exact ⟨g, k, vs, by rw [upd_ne nb]; exact q, r⟩
      | dt xs => obtain ⟨g, k, vs, q, r⟩ := r; exact ⟨g, k, vs, by rw [upd_ne nb]; exact q, r⟩
      | fz d => exact r
      | ob fs => obtain ⟨g, dx2, vs, q, r⟩ := r; exact ⟨g, dx2, vs, by rw [upd_ne nb]; exact q, r⟩
      | dv xs => obtain ⟨g, k, vs, q, r⟩ := r; exact ⟨g, k, vs, by rw [upd_ne nb]; exact q, r⟩
    have hx2 : upd H1 dx (.own x0) x0 = none := by rw [upd_ne (Ne.symm hne)]; exact hx
    have gx := mA.freshG hx2
    obtain ⟨gB, mB⟩ := mA.push hx2 (.ins Γ.C dx []) (.ob []) ⟨gx, dx, [], upd_same, .nil⟩
    have gAB := gA.trans gB
    refine ⟨by rw [List.length_cons, q1.length]; exact hl _ _ _ _ eg, G1, cs1 ++ [x0], .rf μ1.length :: a, μ1 ++ [.ob []], mB, .cons ⟨x0, by rw [← m1.len, List.getElem?_append_right (Nat.le_refl _)]; simp, rfl⟩ (q1.mono (.refl _) (List.prefix_append _ _)), ?_⟩
    refine (Post.bind (rep := RepS Γ.K) (Post.mono po (g1.trans gAB))).imp fun v H2 ⟨G2, cs2, b, μ2, g2, m2, rb, p⟩ => ?_
    split at p
    · have rb : Rep Γ.K G2 v .non := rb
      cases rb
      refine ⟨rfl, p.now m2 ?_⟩
      exact ⟨x0, pre_get g2.pre (by rw [← m1.len, List.getElem?_append_right (Nat.le_refl _)]; simp), rfl⟩
    · exact p.elim
  | ex c μ1 => rw [eg] at po; exact po
  | no => rw [eg] at po; exact po
end
end SP

/-! SPl: l.pop(), try .. except. -/
namespace SP
open PySem L2
section
variable {X : Cx} {Γ : Gm} {W : WX}
theorem reps_last {K : PySem.W.Frag} {G : Hp} : ∀ {vs : List V} {ds : List SP.D}, Reps K G vs ds → ∀ (i : Nat) d, ds[i]? = some d → ∃ v, vs[i]? = some v ∧ Rep K G v d
  | _, _, .nil, i, d, e => by simp at e
  | _, _, .cons h r, 0, d, e => by simp at e; subst e; exact ⟨_, rfl, h⟩
  | _, _, .cons h r, i + 1, d, e => by simpa using reps_last r i d (by simpa using e)
theorem reps_dropLast {K : PySem.W.Frag} {G : Hp} : ∀ {vs : List V} {ds : List SP.D}, Reps K G vs ds → Reps K G vs.dropLast ds.dropLast
  | _, _, .nil => .nil
  | _, _, .cons h .nil => .nil
  | _, _, .cons h (.cons h2 r) => .cons h (reps_dropLast (.cons h2 r))
theorem d_pop {o : Expr} {apos cpos : Pos} {f : Ev} (ho : PE X o (wE Γ W f)) (h : PE X (.Call (.Attribute o "pop" apos) [] [] cpos) (tBM0 X.K "list" rPop (wE Γ W f))) : PE X (.Call (.Attribute o "pop" apos) [] [] cpos) (wE Γ W (dPop f)) := by
  refine pe_imp h fun σ H Q h => ?_
  show wE Γ W f σ H _
  refine wE.of (te := wE Γ W f) (fun _ _ => rfl) h fun G cs μ v H1 a m ra p => ?_
  cases a with
  | im d => exact p.elim
  | rf k =>
    obtain ⟨q, hq, rfl⟩ := ra
    dsimp only at p
    unfold popO at p
    split at p
    · rename_i xs hc
      split at p
      · rename_i d hd
        obtain ⟨g, n, vs, hh, rs⟩ := m.cell k q _ hq hc
        obtain ⟨u, hu, ru⟩ := reps_last rs _ _ hd
        have hl : vs.length = xs.length := rs.length
        refine ⟨.inl ⟨rfl, vs, .of hh⟩, q, vs, u, rfl, rfl, hh, by rw [hl]; exact hu, ?_⟩
        obtain ⟨g4, m4⟩ := m.put hq (.lst vs.dropLast) (.lst xs.dropLast) g ⟨g, by rw [List.length_dropLast]; omega, _, upd_same, reps_dropLast rs⟩
        exact p.at g4 m4 ru
      · exact p.elim
    · exact p.elim
/-- what is known of the handlers' classes, and their suites -/
inductive HdR (K : PySem.W.Frag) (Γ : Gm) (U : List Xn) : List (List Xn × EvS) → List (Value × (Addr → Value → Option Addr → TS)) → Prop
  | nil : HdR K Γ U [] []
  | cons {S : List Xn} {h : EvS} {cv : Value} {hs : List (List Xn × EvS)} {l : List (Value × (Addr → Value → Option Addr → TS))} (hx : ∀ c ∈ U, PySem.W.exmOne K (Γ.xv c) cv = some (decide (c ∈ S))) (r : HdR K Γ U hs l) :
      HdR K Γ U ((S, h) :: hs) ((cv, fun _ _ _ => wS Γ (fun _ _ _ _ => False) h) :: l)
/-- no exception is let out of these -/
def quietS (f : EvS) : Prop := ∀ ρ μ c ρ' μ', f ρ μ ≠ .ex c ρ' μ'
theorem PostS.quiet {D : Ends} {G H : Hp} {cs : List Addr} {o : O} {W' : WX} (h : PostS Γ W D G cs H o) (q : ∀ c ρ' μ', o ≠ .ex c ρ' μ') : PostS Γ W' D G cs H o := by
  cases o with
  | ex c ρ μ => exact absurd rfl (q c ρ μ)
  | nx ρ μ => exact h
  | rt v μ => exact h
  | bk ρ μ => exact h
  | ct ρ μ => exact h
  | no => exact h
theorem catch_ok {U : List Xn} {D : Ends} {G H : Hp} {cs : List Addr} {c : Xn} {ρ : Rho} {μ : Mu} {σ : L2.St} (hU : c ∈ U) : ∀ {hs : List (List Xn × EvS)} {l : List (Value × (Addr → Value → Option Addr → TS))}, HdR X.K Γ U hs l → (∀ p ∈ hs, quietS p.2) →
    PostS Γ W D G cs H (catchO U c ρ μ hs) → Rel Γ G cs ρ μ σ H → wMany X.K W D l (Γ.xv c) none σ H
  | _, _, .nil, _, po, rl => po G cs H σ .refl rl
  | _, _, .cons (S := S) (h := h) hx r, hq, po, rl => by
    refine ⟨_, hx c hU, fun e a ha => ?_, fun e => ?_⟩
    · have e : c ∈ S := by simpa using e
      unfold catchO at po
      rw [if_pos e] at po
      exact ⟨G, cs, ρ, μ, rl, po.quiet (hq _ List.mem_cons_self ρ μ)⟩
    · have e : c ∉ S := by simpa using e
      unfold catchO at po
      rw [if_neg e] at po
      exact catch_ok hU r (fun p hp => hq p (List.mem_cons_of_mem _ hp)) po rl
theorem s_try {U : List Xn} {b : EvS} {hs : List (List Xn × EvS)} {l : List (Value × (Addr → Value → Option Addr → TS))} {body : List Stmt} {h₀ : ExceptHandler} {hds : List ExceptHandler} {pos : Pos} (hst : X.stack = X.env :: X.outer) (hf : X.env.frame = some X.env.locals) (tk : Takes X W)
    (hb : ∀ (W' : WX) (pn : List (Addr × Obj)) (xe : Value → Shared → Prop), Takes (X.tr pn xe) W' → PassesOwn (model X.prog X.w) X.A X.env xe → PSs (X.tr pn xe) body (wS Γ W' b))
    (hh : HdsOk X (h₀ :: hds) l) (hr : HdR X.K Γ U hs l) (hq : ∀ p ∈ hs, quietS p.2) : PS X (.Try body (h₀ :: hds) [] [] pos) (wS Γ W (sTry U b hs)) := by
  refine ps_imp (ps_try_many (tb := fun W' => wS Γ W' b) hst hf tk hb hh) fun D σ H h => ?_
  obtain ⟨G, cs, ρ, μ, rl, po⟩ := h
  refine ⟨G, cs, ρ, μ, rl, ?_⟩
  unfold sTry at po
  cases e : b ρ μ with
  | ex c ρ1 μ1 =>
    rw [e] at po
    dsimp only at po
    split at po
    · rename_i hU
      exact fun G1 cs1 H1 σ1 g1 r1 => catch_ok hU hr hq (po.mono g1) r1
    · exact po.elim
  | nx ρ1 μ1 => rw [e] at po; exact po
  | rt v μ1 => rw [e] at po; exact po
  | bk ρ1 μ1 => rw [e] at po; exact po
  | ct ρ1 μ1 => rw [e] at po; exact po
  | no => rw [e] at po; exact po
theorem quiet_c (d : SP.D) : quietS (sSeq (sRet (dC d)) sNext) := fun ρ μ c ρ' μ' e => by cases e
theorem quiet_c1 (d : SP.D) : quietS (sRet (dC d)) := fun ρ μ c ρ' μ' e => by cases e
end
end SP
namespace SP
open PySem L2
theorem succ_len {g : EvA} {n : Nat} (h : ∀ ρ μ a μ', g ρ μ = .ok a μ' → a.length = n) : ∀ ρ μ a μ', g ρ μ = .ok a μ' → a.length + 1 = n + 1 := fun ρ μ a μ' e => by rw [h ρ μ a μ' e]
section
variable {X : Cx} {Γ : Gm} {W : WX}
/-- a statement that is never reached -/
theorem s_never {s : Stmt} : PS X s (wS Γ W sNever) := ⟨fun pins s σ H D I h => by
  obtain ⟨G, cs, ρ, μ, rl, po⟩ := h
  exact po.elim⟩
end
end SP

/-! SPx: texts joined, split, repeated; numbers read and written; insert; a slice as a cell. -/
namespace SP
open PySem L2
def goodSb (s : Str) : Bool := decide (s.length ≤ maxN) && s.cps.all (· < 0x110000)
theorem goodSb_ok {s : Str} (h : goodSb s = true) : goodS s := by
  unfold goodSb at h
  simp only [Bool.and_eq_true, decide_eq_true_eq] at h
  exact h
def strsOf : List SP.D → Option (List Str)
  | [] => some []
  | .str s :: r => (strsOf r).map (s :: ·)
  | _ => none
theorem strsOf_ok {K : PySem.W.Frag} {G : Hp} : ∀ {ds : List SP.D} {l : List Str} {vs : List V}, strsOf ds = some l → Reps K G vs ds → vs = l.map V.str
  | [], l, _, e, .nil => by simp only [strsOf] at e; cases e; rfl
  | .str s :: r, l, _, e, .cons h t => by
    simp only [strsOf] at e
    cases q : strsOf r with
    | none => rw [q] at e; cases e
    | some m =>
      rw [q] at e
      cases e
      cases h
      rw [strsOf_ok q t]; rfl
  | .non :: _, _, _, e, _ => by simp [strsOf] at e
  | .bl _ :: _, _, _, e, _ => by simp [strsOf] at e
  | .int _ :: _, _, _, e, _ => by simp [strsOf] at e
  | .tup _ :: _, _, _, e, _ => by simp [strsOf] at e
  | .lst _ :: _, _, _, e, _ => by simp [strsOf] at e
  | .dk _ :: _, _, _, e, _ => by simp [strsOf] at e
  | .dt _ :: _, _, _, e, _ => by simp [strsOf] at e
  | .scr _ :: _, _, _, e, _ => by simp [strsOf] at e
/-- s.join(l) -/
def gJoin (a : Str) : SP.D → Option SP.D
  | .lst xs => match strsOf xs with
    | some ys => if (ys.map (·.length)).sum + ys.length * a.length ≤ maxN ∧ goodSb (Txt.join a ys) = true then some (.str (Txt.join a ys)) else none
    | none => none
  | _ => none
def dJoin (fa fb : Ev) : Ev := fun ρ μ => (fa ρ μ).bind fun a μ1 => match a with
  | .im (.str z) => (fb ρ μ1).bind fun b μ2 => match look μ2 b with
    | some d => match gJoin z d with
      | some r => .ok (.im r) μ2
      | none => .no
    | none => .no
  | _ => .no
/-- s.split(t): a new list -/
def fSplit (a b : Str) (μ : Mu) : R Cell := if b.length ≠ 0 ∧ (Txt.split a b).length ≤ maxN ∧ (Txt.split a b).all goodSb = true then .ok (.lst ((Txt.split a b).map SP.D.str)) μ else .no
def dSplit (fa fb : Ev) : EvF := fun ρ μ => (fa ρ μ).bind fun a μ1 => match a with
  | .im (.str z) => (fb ρ μ1).bind fun b μ2 => match b with
    | .im (.str w) => fSplit z w μ2
    | _ => .no
  | _ => .no
def gMulS : SP.D → SP.D → Option SP.D
  | .str a, .int n => if a.length ≤ 1000 ∧ -1000 ≤ n ∧ n ≤ 1000 ∧ goodSb (Txt.mul a n) = true then some (.str (Txt.mul a n)) else none
  | _, _ => none
def gIntE : SP.D → Option SP.D
  | .int i => some (.int i)
  | .bl b => some (.int (if b then 1 else 0))
  | .str a => match PySem.intText? a with
    | some n => if a.length ≤ 640 then some (.int n) else none
    | none => none
  | _ => none
def gStrE : SP.D → Option SP.D
  | .int i => if i.natAbs.log2 < 1920 ∧ goodSb (toString i : String) = true then some (.str (toString i : String)) else none
  | _ => none
/-- l.insert(i, e), l a cell -/
def insC (i : Int) (d : SP.D) (n : Nat) (ρ : Rho) (μ : Mu) : Option Cell → O
  | some (.lst xs) => if xs.length < maxN ∧ 0 ≤ i ∧ i ≤ 1000000 then .nx ρ (μ.set n (.lst (xs.take i.toNat ++ [d] ++ xs.drop i.toNat))) else .no
  | _ => .no
def insD (fi fe : Ev) (n : Nat) (ρ : Rho) (μ : Mu) : Option Cell → O
  | some (.lst _) => sE fi (fun iv ρ μ => match iv with
    | .im (.int i) => sE fe (fun w ρ μ => match w with
      | .im d => insC i d n ρ μ μ[n]?
      | _ => .no) ρ μ
    | _ => .no) ρ μ
  | _ => .no
def sIns (fx fi fe : Ev) : EvS := sE fx fun v ρ μ => match v with
  | .rf n => insD fi fe n ρ μ μ[n]?
  | _ => .no
/-- a[lo:hi] of a list, a new cell -/
def fSl (d : SP.D) (lo hi : Option Int) (μ : Mu) : R Cell := match d with
  | .lst xs => .ok (.lst ((xs.drop (HT.sIx xs.length 0 lo)).take (HT.sIx xs.length xs.length hi - HT.sIx xs.length 0 lo))) μ
  | _ => .no
def dSlF (fa : Ev) (lo hi : Option Ev) : EvF := fun ρ μ => (fa ρ μ).bind fun a μ1 => (dPart lo ρ μ1).bind fun l μ2 => (dPart hi ρ μ2).bind fun h μ3 => match look μ3 a with
  | some d => fSl d l h μ3
  | none => .no
section
variable {X : Cx} {Γ : Gm} {W : WX}
theorem d_join {o e : Expr} {apos pos : Pos} {fa fb : Ev} (ho : PE X o (wE Γ W fa)) (he : PE X e (wE Γ W fb)) (hs : starEach [e] X.env = [(false, eval e X.env)] := by rfl) (hbase : attributeBase o "join" X.env (eval o X.env) = eval o X.env := by rfl) (hline : (apos.endLine == pos.line) = true := by rfl) (hK : X.K = Γ.K := by rfl) :
    PE X (.Call (.Attribute o "join" apos) [e] [] pos) (wE Γ W (dJoin fa fb)) := by
  refine pe_imp (pe_join ho he hs hbase hline) fun σ H Q h => ?_
  obtain ⟨G, cs, ρ, μ, rl, po⟩ := h
  refine ⟨G, cs, ρ, μ, rl, (Post.bind (rep := RepS Γ.K) po).imp fun x H1 ⟨G1, cs1, a, μ1, g1, m1, q1, p1⟩ => ?_⟩
  split at p1
  · rename_i z
    have q1 : Rep Γ.K G1 x (.str z) := q1
    cases q1 with
    | str _ gz =>
      refine ⟨⟨z, rfl⟩, G1, cs1, ρ, μ1, rl.grow g1 m1, (Post.bind (rep := RepS Γ.K) p1).imp fun y H2 ⟨G2, cs2, b, μ2, g2, m2, q2, p2⟩ => ?_⟩
      split at p2
      · rename_i d hd
        split at p2
        · rename_i r hr
          have rd := look_L m2 q2 hd
          unfold gJoin at hr
          split at hr
          · rename_i xs
            split at hr
            · rename_i ys hys
              split at hr
              · rename_i hc
                cases hr
                cases rd with
                | lst ha n rs =>
                  have := strsOf_ok hys rs
                  subst this
                  exact ⟨_, _, ys, rfl, rfl, .inl (by rw [hK]; exact .of ha), Nat.le_trans hc.1 (show maxN ≤ 16777216 by decide), p2.now m2 (.str _ (goodSb_ok hc.2))⟩
              · cases hr
            · cases hr
          · cases hr
        · exact p2.elim
      · exact p2.elim
  · exact p1.elim
theorem reps_strs {K : PySem.W.Frag} {G : Hp} : ∀ {ys : List Str}, ys.all goodSb = true → Reps K G (ys.map V.str) (ys.map SP.D.str)
  | [], _ => .nil
  | y :: r, h => by
    rw [List.all_cons, Bool.and_eq_true] at h
    exact .cons (.str _ (goodSb_ok h.1)) (reps_strs h.2)
theorem d_split {o e : Expr} {apos pos : Pos} {fa fb : Ev} (ho : PE X o (wE Γ W fa)) (he : PE X e (wE Γ W fb)) (hs : starEach [e] X.env = [(false, eval e X.env)] := by rfl) (hbase : attributeBase o "split" X.env (eval o X.env) = eval o X.env := by rfl) (hline : (apos.endLine == pos.line) = true := by rfl) :
    PE X (.Call (.Attribute o "split" apos) [e] [] pos) (wF Γ W (dSplit fa fb)) := by
  refine pe_imp (pe_split ho he hs hbase hline) fun σ H Q h => ?_
  obtain ⟨G, cs, ρ, μ, rl, po⟩ := h
  refine ⟨G, cs, ρ, μ, rl, (PostF.bind (rep := RepS Γ.K) po).imp fun x H1 ⟨G1, cs1, a, μ1, g1, m1, q1, p1⟩ => ?_⟩
  split at p1
  · rename_i z
    have q1 : Rep Γ.K G1 x (.str z) := q1
    cases q1 with
    | str _ gz =>
      refine ⟨⟨z, rfl⟩, G1, cs1, ρ, μ1, rl.grow g1 m1, (PostF.bind (rep := RepS Γ.K) p1).imp fun y H2 ⟨G2, cs2, b, μ2, g2, m2, q2, p2⟩ => ?_⟩
      split at p2
      · rename_i w
        have q2 : Rep Γ.K G2 y (.str w) := q2
        cases q2
        unfold fSplit at p2
        split at p2
        · rename_i hc
          refine ⟨z, w, rfl, rfl, by simpa using hc.1, Nat.le_trans (Nat.add_le_add_right gz.1 2) (show maxN + 2 ≤ sizeLine by decide), fun l hl => p2.lay m2 hl _ fun gp _ => ⟨gp, by rw [List.length_map]; exact hc.2.1, _, upd_same, reps_strs hc.2.2⟩⟩
        · exact p2.elim
      · exact p2.elim
  · exact p1.elim
theorem op_mulS : OpR X (binaryOp .Mult) (fun x y H Q => ∃ a n, x = .str a ∧ y = .int n ∧ PySem.MulOk a n ∧ Q (.str (Txt.mul a n)) H) := by
  intro pins s σ H x y v u Q I rx ry h
  obtain ⟨a, n, rfl, rfl, ok, q⟩ := h
  obtain ⟨t, rfl⟩ := rx
  obtain ⟨t', rfl⟩ := ry
  exact PySem.SB.mul ok fun t k => ⟨.str _, H, I.tok _, ⟨_, rfl⟩, q⟩
theorem mulOk_small {a : Str} {n : Int} (ha : a.length ≤ 1000) (h1 : -1000 ≤ n) (h2 : n ≤ 1000) : PySem.MulOk a n := by
  have e63 : (2 : Int) ^ 63 = 9223372036854775808 := by decide
  refine ⟨?_, fun hn _ => ?_, fun hn _ => ?_⟩
  · rw [e63, Bool.or_eq_false_iff, decide_eq_false_iff_not, decide_eq_false_iff_not]
    omega
  · rw [e63]
    have h3 : (9223372036854775808 - 1) / 1000 ≤ (9223372036854775808 - 1 : Int) / n := by
      have hn : 0 < n := by omega
      rw [Int.le_ediv_iff_mul_le hn]
      omega
    omega
  · unfold PySem.Builtin.Str.tooLong
    have : a.length * n.toNat ≤ 1000 * 1000 := Nat.mul_le_mul ha (by omega)
    have e : sizeLine ≥ 1000000 := by decide
    simp only [decide_eq_false_iff_not]
    omega
theorem d_mulS {a b : Expr} {pos : Pos} {fa fb : Ev} (ha : PE X a (wE Γ W fa)) (hb : PE X b (wE Γ W fb)) : PE X (.BinOp a .Mult b pos) (wE Γ W (dOp2 (p2 gMulS) fa fb)) := d_bin op_mulS (pr2_pure fun G H x y d e q Q s rx ry hq k => by
  unfold gMulS at hq
  split at hq
  · split at hq
    · rename_i hc
      cases hq
      cases rx with
      | str _ gz =>
        cases ry
        exact ⟨_, _, rfl, rfl, mulOk_small hc.1 hc.2.1 hc.2.2.1, k _ (.str _ (goodSb_ok hc.2.2.2))⟩
    · cases hq
  · cases hq) ha hb
theorem d_int1 {p : Pos} {e : Expr} {pos : Pos} {f : Ev} (hm : X.mg "int" = none) (ha : PE X e (wE Γ W f)) (hg : Gl X "int" := by rfl) (he : starEach (e :: []) X.env = (false, eval e X.env) :: starEach [] X.env := by rfl) (hpl : (backTo pos (starEach [] X.env)).any (·.1) = false := by rfl) :
    PE X (.Call (.Name "int" p) [e] [] pos) (wE Γ W (dOp1 (p1 gIntE) f)) := d_t1 (cr_or call_int1 call_int_str) (pr1_pure fun G H x d q Q s rx hq k => by
      unfold gIntE at hq
      split at hq
      · cases hq; cases rx; exact .inl (.inl ⟨_, rfl, k _ (.int _)⟩)
      · cases hq; cases rx; exact .inl (.inr ⟨_, rfl, k _ (.int _)⟩)
      · split at hq
        · rename_i n hn
          split at hq
          · rename_i hl
            cases hq; cases rx; exact .inr ⟨_, n, rfl, hn, hl, k _ (.int _)⟩
          · cases hq
        · cases hq
      · cases hq) hm PyProof.Rows.boot_int ha hg (he := he) (hpl := hpl)
theorem d_str1 {p : Pos} {e : Expr} {pos : Pos} {f : Ev} (hm : X.mg "str" = none) (ha : PE X e (wE Γ W f)) (hg : Gl X "str" := by rfl) (he : starEach (e :: []) X.env = (false, eval e X.env) :: starEach [] X.env := by rfl) (hpl : (backTo pos (starEach [] X.env)).any (·.1) = false := by rfl) :
    PE X (.Call (.Name "str" p) [e] [] pos) (wE Γ W (dOp1 (p1 gStrE) f)) := d_t1 call_str_int (pr1_pure fun G H x d q Q s rx hq k => by
      unfold gStrE at hq
      split at hq
      · split at hq
        · rename_i hc
          cases hq; cases rx; exact ⟨_, rfl, hc.1, k _ (.str _ (goodSb_ok hc.2))⟩
        · cases hq
      · cases hq) hm PyProof.Rows.boot_str ha hg (he := he) (hpl := hpl)
theorem lt63 {i : Int} (h : i ≤ 1000000) : i < 2 ^ 63 := by
  have e63 : (2 : Int) ^ 63 = 9223372036854775808 := by decide
  rw [e63]; omega
theorem s_ins {o i e : Expr} {apos cpos pos : Pos} {fx fi fe : Ev} (h : PE X (.Call (.Attribute o "insert" apos) [i, e] [] cpos) (tBM X.K "list" (fun x vs H Q => ∃ (l : Addr) (xs : List V) (i : Int) (y : V), x = .ref l ∧ vs = [.int i, y] ∧ H l = some (.lst xs) ∧ xs.length < sizeLine ∧ 0 ≤ i ∧ i < 2 ^ 63 ∧
    Q .non (upd H l (.lst (xs.take i.toNat ++ [y] ++ xs.drop i.toNat)))) (wE Γ W fx) (tCons (wE Γ W fi) (tCons (wE Γ W fe) tNil))))
    (hs : swapsWith (.Call (.Attribute o "insert" apos) [i, e] [] cpos) none pos.line X.env = pure false := by rfl) : PS X (.Expr (.Call (.Attribute o "insert" apos) [i, e] [] cpos) pos) (wS Γ W (sIns fx fi fe)) := by
  refine ps_imp (ps_expr h hs) fun D σ H h => ?_
  show wE Γ W fx σ H _
  refine wE.stm h fun G cs ρ μ v H1 a rl r po => ?_
  split at po
  · rename_i n
    obtain ⟨p, hp, rfl⟩ := id r
    unfold insD at po
    split at po
    · rename_i xs0 hx0
      obtain ⟨_, _, vs0, h0, _⟩ := rl.m.cell n p _ hp hx0
      refine ⟨.inl ⟨rfl, vs0, .of h0⟩, ?_⟩
      show wE Γ W fi σ H1 _
      refine wE.stm' rl po fun G2 cs2 μ2 w H2 b g2 rl2 r2 po => ?_
      split at po
      · rename_i iv
        have r2 : Rep Γ.K G2 w (.int iv) := r2
        cases r2
        show wE Γ W fe σ H2 _
        refine wE.stm' rl2 po fun G3 cs3 μ3 w3 H3 b3 g3 rl3 r3 po => ?_
        split at po
        · rename_i d
          unfold insC at po
          split at po
          · rename_i xs hx
            split at po
            · rename_i hl
              have hp3 : cs3[n]? = some p := pre_get g3.pre (pre_get g2.pre hp)
              obtain ⟨g, _, vs, h1, rs⟩ := rl3.m.cell n p _ hp3 hx
              refine ⟨p, vs, iv, w3, rfl, rfl, h1, by rw [rs.length]; exact Nat.lt_of_lt_of_le hl.1 maxN_le, hl.2.1, lt63 hl.2.2, ?_⟩
              obtain ⟨g4, m4⟩ := rl3.m.put hp3 (.lst (vs.take iv.toNat ++ [w3] ++ vs.drop iv.toNat)) (.lst (xs.take iv.toNat ++ [d] ++ xs.drop iv.toNat)) g ⟨g, by
                have := hl.1
                simp only [List.length_append, List.length_take, List.length_drop, List.length_cons, List.length_nil]; omega, _, upd_same, ((rs.take _).append (.cons r3 .nil)).append (rs.drop _)⟩
              exact po G3 cs3 _ σ g4 (rl3.grow g4 m4)
            · exact po.elim
          · exact po.elim
        · exact po.elim
      · exact po.elim
    · exact po.elim
  · exact po.elim
theorem d_slF {e : Expr} {lo hi : Option Expr} {p2 pos : Pos} {f : Ev} {l h : Option Ev} (he : PE X e (wE Γ W f)) (hl : PO X lo (wO Γ W l)) (hh : PO X hi (wO Γ W h)) : PE X (.Subscript e (.Slice lo hi none p2) pos) (wF Γ W (dSlF f l h)) := by
  refine pe_imp (pe_slice (SlR.or sl_list sl_str) he hl hh) fun σ H Q w => ?_
  obtain ⟨G, cs, ρ, μ, rl, po⟩ := w
  refine ⟨G, cs, ρ, μ, rl, (PostF.bind (rep := RepS Γ.K) po).imp fun x H1 ⟨G1, cs1, a, μ1, g1, m1, q1, p1⟩ => ?_⟩
  refine ⟨G1, cs1, ρ, μ1, rl.grow g1 m1, (PostF.bind (rep := fun _ _ b c => b = c) p1).imp fun lv H2 ⟨G2, cs2, l2, μ2, g2, m2, q2, p2⟩ => ?_⟩
  subst q2
  have rl2 := (rl.grow g1 m1).grow g2 m2
  refine ⟨G2, cs2, ρ, μ2, rl2, (PostF.bind (rep := fun _ _ b c => b = c) p2).imp fun hv H3 ⟨G3, cs3, h3, μ3, g3, m3, q3, p3⟩ => ?_⟩
  subst q3
  have q1' := (q1.mono g2.ex g2.pre).mono g3.ex g3.pre
  split at p3
  · rename_i d hd
    have rd := look_L m3 q1' hd
    unfold fSl at p3
    split at p3
    · rename_i xs
      cases rd with
      | @lst _ vs _ ha na rs =>
        refine .inl ⟨_, _, rfl, .of ha, fun l hl' => p3.lay m3 hl' _ fun gp _ => ⟨gp, ?_, _, upd_same, ?_⟩⟩
        · simp only [List.length_take, List.length_drop]; omega
        · unfold cutV
          rw [rs.length]
          exact (rs.drop _).take _
    · exact p3.elim
  · exact p3.elim
/-! ### list * int -/
theorem reps_flat {K : PySem.W.Frag} {G : Hp} {vs : List V} {ds : List SP.D} (r : Reps K G vs ds) : ∀ n : Nat, Reps K G (List.replicate n vs).flatten (List.replicate n ds).flatten
  | 0 => .nil
  | n + 1 => by
    rw [List.replicate_succ, List.replicate_succ, List.flatten_cons, List.flatten_cons]
    exact r.append (reps_flat r n)
theorem flat_len {α : Type} (xs : List α) : ∀ n : Nat, (List.replicate n xs).flatten.length = n * xs.length
  | 0 => by simp
  | n + 1 => by rw [List.replicate_succ, List.flatten_cons, List.length_append, flat_len xs n, Nat.add_mul]; omega
def gMulL : SP.D → SP.D → Option SP.D
  | .lst xs, .int k => if 0 ≤ k ∧ k ≤ 1000 ∧ k.toNat * xs.length ≤ maxN then some (.lst (List.replicate k.toNat xs).flatten) else none
  | _, _ => none
theorem pr_mulL : Pr2 Γ (p2 gMulL) rRep := by
  intro E G cs μ H x y sa sb Q m ra rb p
  unfold p2 at p
  split at p
  · rename_i d e h1 h2
    split at p
    · rename_i q hq
      have r1 := look_L m ra h1
      have r2 := look_L m rb h2
      unfold gMulL at hq
      split at hq
      · split at hq
        · rename_i xs k hc
          cases hq; cases r2
          cases r1 with
          | @lst _ vs _ ha na sa =>
            have e63 : (2 : Int) ^ 63 = 9223372036854775808 := by decide
            refine ⟨_, k, vs, rfl, rfl, ha, by rw [e63]; omega, by rw [e63]; omega, by rw [sa.length, Nat.mul_comm]; exact Nat.le_trans hc.2.2 maxN_le, fun l hl' => ?_⟩
            obtain ⟨g, m'⟩ := m.imm hl' (.lst (List.replicate k.toNat vs).flatten)
            exact p.at g m' (.lst upd_same (by rw [flat_len]; exact hc.2.2) ((reps_flat sa _).mono g.ex))
        · cases hq
      · cases hq
    · exact p.elim
  · exact p.elim
theorem d_mulL {a b : Expr} {pos : Pos} {fa fb : Ev} (ha : PE X a (wE Γ W fa)) (hb : PE X b (wE Γ W fb)) : PE X (.BinOp a .Mult b pos) (wE Γ W (dOp2 (p2 gMulL) fa fb)) := d_bin op_rep pr_mulL ha hb
end
end SP

/-! SPy: [e for i, x in enumerate(l)]. -/
namespace SP
open PySem L2
def lcE (i j : Nat) (e : Ev) : Nat → List SP.D → Rho → Mu → R (List SP.D)
  | _, [], _, μ => .ok [] μ
  | k, d :: r, ρ, μ => (e ((ρ.set i (some (.im (.int (k : Nat))))).set j (some (.im d))) μ).quiet.bind fun v μ2 => match v with
    | .im x => (lcE i j e (k + 1) r ρ μ2).bind fun ys μ3 => .ok (x :: ys) μ3
    | _ => .no
def dLcE (i j : Nat) (f : Ev) (e : Ev) : EvF := fun ρ μ => (dV f ρ μ).bind fun v μ1 => match v with
  | .im (.lst xs) => if xs.length ≤ maxN then lcEnd (lcE i j e 0 xs ((ρ.set i none).set j none) μ1) else .no
  | _ => .no
section
variable {Γ : Gm} {X : Cx} {W : WX}
def LcE (Γ : Gm) (E : Xn → Option Addr → Hp → Prop) (P : Addr) (i j : Nat) (e : Ev) (ρ : Rho) (G1 : Hp) (cs1 : List Addr) (H1 : Hp) (Q : VK) (ds : List SP.D) (k : Nat) (H : Hp) : Prop :=
  ∃ G cs μ acc ads, Grow G1 cs1 H1 G cs H ∧ RelM Γ G cs μ H ∧ P ∉ cs ∧ G P = none ∧ H P = some (.lst acc) ∧ Reps Γ.K G acc ads ∧ ads.length ≤ k ∧ PostF Γ E G1 cs1 H1 ((lcE i j e k ds ρ μ).bind fun ys μ3 => .ok (.lst (ads ++ ys)) μ3) Q
theorem wipe2 (σ : L2.St) {i j : Nat} (h : i ≠ j) : wipe σ [i, j] = (σ.set i none).set j none := by
  apply List.ext_getElem?
  intro n
  simp only [wipe, List.foldl, List.foldr, List.getElem?_set, List.length_set]
  by_cases h1 : j = n
  · subst h1; simp [h]
  · by_cases h2 : i = n
    · subst h2; simp [h1, Ne.symm h1]
    · simp [h1, h2]
theorem lcE_turn {E : Xn → Option Addr → Hp → Prop} {P : Addr} {i j : Nat} {e : Ev} {ρ : Rho} {G1 : Hp} {cs1 : List Addr} {H1 : Hp} {Q : VK} {d : SP.D} {ds : List SP.D} {k : Nat} {H H' : Hp} {σ : L2.St} {v : V} {T : Addr} {K : PySem.W.Frag} (hij : i ≠ j) (h1 : H1 P = none) (hk : k < maxN)
    (h : LcE Γ E P i j e ((ρ.set i none).set j none) G1 cs1 H1 Q (d :: ds) k H) (rs : RelS Γ.K G1 cs1 ((ρ.set i none).set j none) ((σ.set i none).set j none)) (hl : σ.length = ρ.length) (hT : H T = none) (hH : H' = upd H T (.tup [.int (k : Nat), v])) (rv : ∀ G, Same G1 G → Rep Γ.K G v d) :
    gTup K 2 (gCons (gName i) (gCons (gName j) gNil)) (.ref T) (wipe σ [i, j]) H' fun σ2 H2 => wipe σ2 [i, j] = wipe σ [i, j] ∧ wT Γ W0 dYes σ2 H2 fun b H3 => if b = true then wE Γ W0 e σ2 H3 fun y H4 => ∃ acc, H4 P = some (.lst acc) ∧ acc.length < sizeLine ∧ LcE Γ E P i j e ((ρ.set i none).set j none) G1 cs1 H1 Q ds (k + 1) (upd H4 P (.lst (acc ++ [y]))) else LcE Γ E P i j e ((ρ.set i none).set j none) G1 cs1 H1 Q ds (k + 1) H3 := by
  obtain ⟨G, cs, μ, acc, ads, g, m, np, gp, hP, ra, hle, po⟩ := h
  subst hH
  rw [show wipe σ [i, j] = (σ.set i none).set j none from wipe2 σ hij]
  refine ⟨T, [.int (k : Nat), v], rfl, .of upd_same, rfl, .int (k : Nat), [v], rfl, ?_⟩
  show ∃ v2 r2, [v] = v2 :: r2 ∧ _
  refine ⟨v, [], rfl, ?_⟩
  show ([] : List V) = [] ∧ _
  refine ⟨rfl, ?_, ?_⟩
  · rw [wipe2 _ hij]
    show (((((σ.set i none).set j none).set i (some (V.int (k : Nat)))).set j (some v)).set i none).set j none = (σ.set i none).set j none
    apply List.ext_getElem?
    intro n
    simp only [List.getElem?_set, List.length_set]
    by_cases h1 : j = n
    · subst h1; simp
    · by_cases h2 : i = n
      · subst h2; simp [h1, Ne.symm h1]
      · simp [h1, h2]
  have nT : T ∉ cs := m.fresh hT
  have gT := m.freshG hT
  have m' := m.off nT gT (.tup [.int (k : Nat), v])
  have nTP : P ≠ T := fun z => by rw [← z, hP] at hT; cases hT
  have g' : Grow G1 cs1 H1 G cs (upd H T (.tup [.int (k : Nat), v])) := by
    refine ⟨g.ex, g.pre, fun a o q n => ?_, g.n1, g.n2⟩
    have := g.fr a o q n
    rw [upd_ne (ne_of_none this hT)]; exact this
  have hP' : upd H T (.tup [.int (k : Nat), v]) P = some (.lst acc) := by rw [upd_ne nTP]; exact hP
  have rl : Rel Γ G cs ((ρ.set i none).set j none) μ ((σ.set i none).set j none) (upd H T (.tup [.int (k : Nat), v])) := ⟨m', rs.mono g.ex g.pre, by simp [hl]⟩
  have rl2 := (rl.set i (v := .int (k : Nat)) (s := .im (.int (k : Nat))) (.int _)).set j (v := v) (s := .im d) (rv G g.ex)
  refine ⟨G, cs, _, μ, rl2, ?_⟩
  simp only [lcE] at po
  intro G2 cs2 H2 b' g2 m2 q
  subst q
  have np2 : P ∉ cs2 := g2.n1 P (by rw [hP']; exact fun z => nomatch z) np
  have gp2 : G2 P = none := g2.n2 P (by rw [hP']; exact fun z => nomatch z) np gp
  have hP2 : H2 P = some (.lst acc) := g2.fr P _ hP' np
  show wE Γ W0 e _ H2 _
  have rl3 := rl2.grow g2 m2
  refine ⟨G2, cs2, _, μ, rl3, ?_⟩
  cases ee : e ((((ρ.set i none).set j none).set i (some (.im (.int (k : Nat))))).set j (some (.im d))) μ with
  | ok w μ2 =>
    rw [ee] at po
    intro G3 cs3 H3 y g3 m3 ry
    have np3 : P ∉ cs3 := g3.n1 P (by rw [hP2]; exact fun z => nomatch z) np2
    have gp3 : G3 P = none := g3.n2 P (by rw [hP2]; exact fun z => nomatch z) np2 gp2
    have hP3 : H3 P = some (.lst acc) := g3.fr P _ hP2 np2
    have ra3 := (ra.mono g2.ex).mono g3.ex
    refine ⟨acc, hP3, by rw [ra.length]; exact Nat.lt_of_le_of_lt hle (Nat.lt_of_lt_of_le hk maxN_le), ?_⟩
    cases w with
    | im x =>
      refine ⟨G3, cs3, μ2, acc ++ [y], ads ++ [x], ((g'.trans g2).trans g3).off h1 _, m3.off np3 gp3 _, np3, gp3, upd_same, ra3.append (.cons ry .nil), by simp; exact hle, ?_⟩
      have e2 : ((lcE i j e (k + 1) ds ((ρ.set i none).set j none) μ2).bind fun ys μ3 => R.ok (Cell.lst ((ads ++ [x]) ++ ys)) μ3) = (((lcE i j e (k + 1) ds ((ρ.set i none).set j none) μ2).bind fun ys μ3 => R.ok (x :: ys) μ3).bind fun ys μ3 => R.ok (Cell.lst (ads ++ ys)) μ3) := by
        cases lcE i j e (k + 1) ds ((ρ.set i none).set j none) μ2 with
        | ok ys μ3 => simp [R.bind]
        | ex c μ3 => rfl
        | no => rfl
      rw [e2]
      exact po
    | rf n => exact po.elim
  | ex c μ2 => rw [ee] at po; exact po.elim
  | no => rw [ee] at po; exact po.elim
theorem lcE_read {i j : Nat} {f : Ev} {el : Ev} {σ : L2.St} {H : Hp} {Q : VK} {K : PySem.W.Frag} (hij : i ≠ j) (h : wF Γ W (dLcE i j f el) σ H Q) : tLc (iEnum K (tCons (wE Γ W (dV f)) tNil)) (gTup K 2 (gCons (gName i) (gCons (gName j) gNil))) (wT Γ W0 dYes) (wE Γ W0 el) [i, j] σ H Q := by
  obtain ⟨G0, cs0, ρ, μ0, rl, po⟩ := h
  refine ⟨G0, cs0, ρ, μ0, rl, (PostF.bind (rep := RepS Γ.K) po).imp fun v H1 ⟨G1, cs1, a, μ1, g1, m1, q1, p1⟩ => ?_⟩
  have rl1 := rl.grow g1 m1
  split at p1
  · rename_i xs
    have q1 : Rep Γ.K G1 v (.lst xs) := q1
    cases q1 with
    | @lst a vs _ hl n rs =>
      by_cases hn : xs.length ≤ maxN
      · rw [if_pos hn] at p1
        refine ⟨a, vs, rfl, .of (m1.sub _ _ hl), fun P hP => ?_⟩
        refine L2.lc_it (walk_enum (K := K) (a := a) (xs := vs)) (fun k H => LcE Γ (wX Γ W σ) P i j el ((ρ.set i none).set j none) G1 cs1 H1 Q (xs.drop k) k H) ?_ (fun k H hk h => ?_) (fun k x H H' hk h y => ?_) (fun H h => ?_)
        · refine ⟨G1, cs1, μ1, [], [], Grow.refl.off hP _, m1.off (m1.fresh hP) (m1.freshG hP) _, m1.fresh hP, m1.freshG hP, upd_same, .nil, Nat.le_refl _, ?_⟩
          rw [List.drop_zero]
          rw [lcEnd_eq] at p1
          exact p1
        · obtain ⟨G, cs, μ, acc, ads, g, m, _⟩ := h
          exact .of (m.sub _ _ (g.ex _ _ hl))
        · obtain ⟨T, x1, x2, rfl, hT, hH, e1, e2⟩ := y
          cases e1
          obtain ⟨d, hd, rd⟩ := rs.get' e2
          have hkl := (List.getElem?_eq_some_iff.mp hd).1
          have ek : xs.drop k = d :: xs.drop (k + 1) := by
            rw [List.drop_eq_getElem_cons hkl, (List.getElem?_eq_some_iff.mp hd).2]
          rw [ek] at h
          exact lcE_turn hij hP (Nat.lt_of_lt_of_le hkl hn) h ((rl1.set0 i).set0 j).s rl1.l hT hH fun G e => rd.mono e
        · rw [rs.length, List.drop_length] at h
          obtain ⟨G, cs, μ, acc, ads, g, m, np, gp, hP2, ra, hle, po⟩ := h
          have po : PostF Γ _ G1 cs1 H1 (.ok (.lst (ads ++ [])) μ) Q := po
          rw [List.append_nil] at po
          exact po G cs H P g m hP np ⟨gp, Nat.le_trans hle hn, acc, hP2, ra⟩
      · rw [if_neg hn] at p1
        exact p1.elim
  · exact p1.elim
theorem d_lcE {elt iter : Expr} {scope : Scope} {i j : Nat} {x y : Str} {xp yp tp pos p rp : Pos} {kk : Nat} {f : Ev} {el : Ev} (hij : i ≠ j) (hc : X.calm = true) (hN : X.N.Nodup) (hge : Gl X "enumerate") (hm : X.mg "enumerate" = none) (hi : PE X iter (wE Γ W f)) (ok : BlkOk X.N X.env.scope scope [(x, i), (y, j)])
    (hg : ∀ (s : Shared) (H : Hp) (C : Addr) (cl : List (Str × Addr)) (fp : List Addr), PG (X.blk s H scope (compEnvC scope cl C X.env) fp) (.Tuple [.Name x xp, .Name y yp] kk tp) (gTup X.K 2 (gCons (gName i) (gCons (gName j) gNil))))
    (he : ∀ (s : Shared) (H : Hp) (C : Addr) (cl : List (Str × Addr)) (fp : List Addr), PE (X.blk s H scope (compEnvC scope cl C X.env) fp) elt (wE Γ W0 el)) (hs1 : starEach [iter] X.env = [(false, eval iter X.env)] := by rfl) (hs : ∀ z, foldedSetIterable (.Call (.Name "enumerate" p) [iter] [] rp) X.env z = pure z := by intro _; rfl) :
    PE X (.ListComp elt [⟨.Tuple [.Name x xp, .Name y yp] kk tp, .Call (.Name "enumerate" p) [iter] [] rp, [], 0⟩] scope pos) (wF Γ W (dLcE i j f el)) :=
  pe_imp (pe_lc hc hN (pi_enum hge hm (pa_cons (d_frz hi) pa_nil hs1) hs1) ok hg (fun _ _ _ _ _ => d_if0) he hs) fun σ H Q h => lcE_read hij h
end
end SP

/-! SPw: what a suite asks of its exception: isinstance; a list of truth values counted. -/
namespace SP
open PySem L2
def eqbk (k : Bool) (v : Value) : Bool := match v with
  | .bool n => n == k
  | _ => false
theorem eqbk_at {A : Around} {s : Shared} {k : Bool} : ∀ {bs : List Bool} {us : List Value}, Vals (bs.map V.bl) us → ∀ y ∈ us, SeqAt.EqAt A s y (.bool k) (eqbk k y)
  | [], _, .nil => fun y hy => by cases hy
  | b :: r, _, .cons h t => fun y hy => by
    rcases List.mem_cons.mp hy with e | e
    · rw [e]
      cases (show _ = Value.bool b from h)
      have := PySem.W.keq_flat (A := A) (s := s) (v := .bool b) (y := .bool k) (d := .bool b) (e := .bool k) (.bool b) (.bool k)
      have e2 : PyData.eqv (.bool b) (.bool k) = eqbk k (.bool b) := by simp [PyData.eqv, eqbk]
      rw [← e2]; exact this
    · exact eqbk_at t y e
theorem eqbk_count {k : Bool} : ∀ {bs : List Bool} {us : List Value}, Vals (bs.map V.bl) us → us.countP (eqbk k) = bs.count k
  | [], _, .nil => rfl
  | b :: r, _, .cons h t => by
    have ih := eqbk_count (k := k) t
    cases (show _ = Value.bool b from h)
    rw [List.countP_cons, List.count_cons, ih]
    rfl
def rCntB (K : PySem.W.Frag) : V → List V → Hp → VK → Prop := fun x xs H Q => ∃ (p : Addr) (bs : List Bool) (k : Bool), x = .ref p ∧ xs = [.bl k] ∧ SqL K H p (bs.map V.bl) ∧ Q (.int (bs.count k : Nat)) H
section
variable {X : Cx}
theorem mt_lcountB : MtR X "list.count" (rCntB X.K) := by
  intro pins s σ H x xs v us Q I rx rxs h
  obtain ⟨p, bs, k, rfl, rfl, hs, q⟩ := h
  cases rx
  obtain ⟨u, rfl, ru⟩ := rxs.one
  cases (show u = Value.bool k from ru)
  obtain ⟨its, rv, ⟨⟨cls, dd, data, sl⟩, n, ho, hc, hdn, hd⟩, hlen⟩ := I.list hs
  simp only at hc hd
  subst hc hd
  refine PySem.call_meets PySem.F.slot_list_count ⟨_, ho, rfl⟩ PySem.F.entry_list_count (PySem.F.args_list_count_2 _ _)
    (SeqAt.list_countAt p its.toArray n dd sl (.bool k) (eqbk k)) ⟨ho, fun y hy => eqbk_at rv y (by simpa using hy), ?_⟩
  have ec : its.toArray.toList.countP (eqbk k) = bs.count k := eqbk_count rv
  refine ⟨.int (bs.count k : Nat), H, I.tok _, ⟨s.toks, ?_⟩, q⟩
  show Value.int ((its.toArray.toList.countP (eqbk k) : Nat) : Int) s.toks = Value.int ((bs.count k : Nat) : Int) s.toks
  rw [ec]
/-- isinstance(e, C) in a suite: e's slot is i -/
def tIs (i : Nat) (a : Addr) (b : Bool) : TE := fun σ H Q => σ[i]? = some (some (.ref a)) ∧ Q (.bl b) H
theorem pe_isE {i : Nat} {a D : Addr} {oe : Obj} {pn : List (Addr × Obj)} {e n : Str} {p1 p2 p3 pos : Pos} {c : V} {cv : Value} {b : Bool} (C : ExcC X.K D) (hz : Zc (.ref D) none oe) (hf : ∃ vs, oe.data = .fields vs) (hm : X.mg "isinstance" = none)
    (ha : PE (X.suite a ((a, oe) :: pn)) (.Name e p1) (tVar i)) (hb : PE (X.suite a ((a, oe) :: pn)) (.Name n p2) (tC c)) (hc : ∀ u, RelV c u → u = cv) (hk : PySem.W.kitOne X.K (.ref D) cv = some b) (hg : Gl X "isinstance" := by rfl)
    (he : starEach (.Name e p1 :: [.Name n p2]) X.env = (false, eval (.Name e p1) X.env) :: starEach [.Name n p2] X.env := by rfl) (he2 : starEach (.Name n p2 :: []) X.env = (false, eval (.Name n p2) X.env) :: starEach [] X.env := by rfl) (hpl : (backTo pos (starEach [.Name n p2] X.env)).any (·.1) = false := by rfl) :
    PE (X.suite a ((a, oe) :: pn)) (.Call (.Name "isinstance" p3) [.Name e p1, .Name n p2] [] pos) (tIs i a b) := by
  refine pe_imp (pe_callB (call_isE C hz hf) hg hm PyProof.Rows.boot_isinstance (pa_cons ha (pa_cons hb pa_nil he2) he) (he := he) (hpl := hpl)) fun σ H Q h => ?_
  exact ⟨.ref a, h.1, c, cv, b, rfl, hc, hk, h.2⟩
theorem kit_sub {K : PySem.W.Frag} {D C : Addr} {b : Bool} (hdct : PySem.W.hasDictIn K C = true) (ht : PySem.W.typeIn K (.ref C) = some (.type "type")) (h4 : PySem.W.subIn K (.ref D) (.ref C) = some b) (hb : D = C → b = true) : PySem.W.kitOne K (.ref D) (.ref C) = some b := by
  have e2 : ((PySem.W.clsIn K C).isSome && PySem.W.typeIn K (.ref C) == some (.type "type")) = true := by
    obtain ⟨cd, hc, _⟩ := PySem.W.any_some hdct
    rw [hc, ht] <;> rfl
  unfold PySem.W.kitOne
  by_cases e : D = C
  · rw [if_pos (by simpa using e), hb e]
  · rw [if_neg (by simpa using e)]
    show (if ((PySem.W.clsIn K C).isSome && PySem.W.typeIn K (.ref C) == some (.type "type")) = true then PySem.W.subIn K (.ref D) (.ref C) else none) = some b
    rw [if_pos e2]
    exact h4
theorem kit_val {K : PySem.W.Frag} {D : Addr} {b : Bool} (h4 : PySem.W.subIn K (.ref D) (.type "ValueError") = some b) : PySem.W.kitOne K (.ref D) (.type "ValueError") = some b := by
  unfold PySem.W.kitOne
  rw [if_neg (by simp)]
  show (if PySem.W.kitMeta "ValueError" = true then PySem.W.subIn K (.ref D) (.type "ValueError") else none) = some b
  rw [if_pos (by decide +kernel)]
  exact h4
theorem kit_ref {K : PySem.W.Frag} {D C : Addr} {b : Bool} (h : PySem.W.kitCls K (.ref D) (.ref C) = some b) (hb : D = C → b = true) : PySem.W.kitOne K (.ref D) (.ref C) = some b := by
  unfold PySem.W.kitOne
  by_cases e : D = C
  · subst e
    rw [if_pos (by simp), hb rfl]
  · rw [if_neg (by simpa using e)]
    exact h
end
end SP
namespace SP
open PySem L2
theorem RelM.same {Γ : Gm} {G H H' : Hp} {cs : List Addr} {μ : Mu} (m : RelM Γ G cs μ H) (s : Same H H') : RelM Γ G cs μ H' := by
  refine ⟨m.sub.trans s, m.len, m.nd, fun n a c' e1 e2 => ?_⟩
  have r := m.cell n a c' e1 e2
  cases c' with
  | lst xs => obtain ⟨g, k, vs, q, r⟩ := r; exact ⟨g, k, vs, s _ _ q, r⟩
  | dk xs => obtain ⟨g, k, vs, q, r⟩ := r; exact ⟨g, k, vs, s _ _ q, r⟩
  | dt xs => obtain ⟨g, k, vs, q, r⟩ := r; exact ⟨g, k, vs, s _ _ q, r⟩
  | fz d => exact r
  | ob fs => obtain ⟨g, dx, vs, q, r⟩ := r; exact ⟨g, dx, vs, s _ _ q, r⟩
  | dv xs => obtain ⟨g, k, vs, q, r⟩ := r; exact ⟨g, k, vs, s _ _ q, r⟩
theorem Grow.same {G G' H H' H2 : Hp} {cs cs' : List Addr} (g : Grow G cs H G' cs' H') (s : Same H' H2) : Grow G cs H G' cs' H2 := ⟨g.ex, g.pre, fun a o q n => s _ _ (g.fr a o q n), g.n1, g.n2⟩
theorem same_upd {H : Hp} {p : Addr} (h : H p = none) (o : HO) : Same H (upd H p o) := fun b u q => by rw [upd_ne (ne_of_none q h)]; exact q
end SP
namespace SP
open PySem L2
theorem kit_no {K : PySem.W.Frag} {D C : Addr} (h : PySem.W.subIn K (.ref D) (.ref C) = some false) (h2 : PySem.W.subIn K (.ref D) (.ref D) = some true) (e : D = C) : false = true := by
  subst e
  rw [h] at h2
  cases h2
end SP

/-! SPv: l.remove(x) of data; sorted of whole numbers, pairs and triples; d.pop(k). -/
namespace SP
open PySem PySem.AutoSeq1 PySem.MeetsSeq PySem.SeqAt
theorem remove_at (l : Addr) (items : Array Value) (n : Nat) (x : Value) (e : Value → Bool) (j : Nat) (hj : j < items.size) (hit : e items[j] = true) (k : Nat) (hs1 : items.size ≤ sizeLine) :
    ∀ i : Nat, j - i = k → i ≤ j → (∀ m (hm : m < items.size), i ≤ m → m < j → e items[m] = false) → Meets (Builtin.«list.remove.loop» ⟨[.ref l, x, rawInt i], []⟩)
      (fun A R s => s.heap.get? l = some { cls := .type "list", dict := none, data := .seq items n, slots := #[] } ∧ (∀ y, y ∈ items → EqAt A.in1 s y x (e y)) ∧ R (.ok (.ret .none)) { s with heap := s.heap.update l (Obj.mapSeq fun xs => xs.eraseIdxIfInBounds j) }) := by
  induction k with
  | zero =>
    intro i hk hij hno prog w A R s h
    obtain ⟨hp, g, d, tk, os⟩ := s; obtain ⟨hl, he, h⟩ := h
    have hij' : i = j := by omega
    subst hij'
    wp_walk using wpAny_loadPart' hl
    have hi : items[((i : Nat) : Int).toNat]? = some items[i] := by simp [hj]
    rw [hi]
    refine wpAny_bind (he _ (Array.getElem_mem hj) prog w _ _ ?_)
    rw [hit]
    have hz' : (items.eraseIdxIfInBounds i).size ≤ sizeLine + 1 := Nat.le_trans (size_erased items _) (Nat.le_succ_of_le hs1)
    wp_walk using (wpAny_updateSeq hl rfl (hz := hs1) (_hz' := hz')), wpAny_loadPart' hl
    simpa using h
  | succ k ih =>
    intro i hk hij hno prog w A R s h
    obtain ⟨hp, g, d, tk, os⟩ := s; obtain ⟨hl, he, h⟩ := h
    have hlt : i < items.size := by omega
    wp_walk using wpAny_loadPart' hl
    have hi : items[((i : Nat) : Int).toNat]? = some items[i] := by simp [hlt]
    have hc : ((i : Int) + 1) = ((i + 1 : Nat) : Int) := by push_cast; rfl
    rw [hi]
    refine wpAny_bind (he _ (Array.getElem_mem hlt) prog w _ _ ?_)
    rw [hno i hlt (Nat.le_refl _) (by omega)]
    wp_walk
    rw [hc]
    exact ⟨plainId_quiet plain_remove_loop _, codeAny_builtin entry_remove_loop (by
      rw [Around.under_plainId plain_remove_loop _]
      exact ih (i + 1) (by omega) (by omega) (fun m hm h1 h2 => hno m hm (by omega) h2) prog w A R _ ⟨hl, he, h⟩)⟩
theorem list_remove_at (l : Addr) (items : Array Value) (n : Nat) (x : Value) (e : Value → Bool) (j : Nat) (hj : j < items.size) (hit : e items[j] = true) (hno : ∀ m (hm : m < items.size), m < j → e items[m] = false) (hs1 : items.size ≤ sizeLine) :
    Meets (Builtin.«list.remove» ⟨[.ref l, x], []⟩)
      (fun A R s => s.heap.get? l = some { cls := .type "list", dict := none, data := .seq items n, slots := #[] } ∧ (∀ y, y ∈ items → EqAt A.in1 s y x (e y)) ∧ R (.ok (.ret .none)) { s with heap := s.heap.update l (Obj.mapSeq fun xs => xs.eraseIdxIfInBounds j) }) := by
  intro prog w A R s h
  obtain ⟨hp, g, d, tk, os⟩ := s; obtain ⟨hl, he, h⟩ := h
  wp_walk using wpAny_loadPart' hl
  exact ⟨plainId_quiet plain_remove_loop _, codeAny_builtin entry_remove_loop (by
    rw [Around.under_plainId plain_remove_loop _]
    exact remove_at l items n x e j hj hit _ hs1 0 rfl (Nat.zero_le _) (fun m hm _ h2 => hno m hm h2) prog w A R _ ⟨hl, he, h⟩)⟩
end SP
namespace SP
open PySem L2
/-! ### triples of whole numbers, by one after the other -/
def lexC (p q : Int × Int × Int) : Bool := if p.1 = q.1 then (if p.2.1 = q.2.1 then decide (p.2.2 < q.2.2) else decide (p.2.1 < q.2.1)) else decide (p.1 < q.1)
theorem lexC_iff {p q : Int × Int × Int} : lexC p q = true ↔ p.1 < q.1 ∨ (p.1 = q.1 ∧ (p.2.1 < q.2.1 ∨ (p.2.1 = q.2.1 ∧ p.2.2 < q.2.2))) := by
  unfold lexC
  by_cases e : p.1 = q.1
  · rw [if_pos e]
    by_cases e2 : p.2.1 = q.2.1
    · rw [if_pos e2, decide_eq_true_eq]; omega
    · rw [if_neg e2, decide_eq_true_eq]; omega
  · rw [if_neg e, decide_eq_true_eq]; omega
theorem lexC_no {p q : Int × Int × Int} : lexC p q = false ↔ ¬ (p.1 < q.1 ∨ (p.1 = q.1 ∧ (p.2.1 < q.2.1 ∨ (p.2.1 = q.2.1 ∧ p.2.2 < q.2.2)))) := by
  rw [← lexC_iff]
  cases lexC p q <;> simp
theorem swo_C {α : Type} (k : α → Int × Int × Int) : SrtO.Swo fun v u => lexC (k v) (k u) := by
  refine ⟨fun x y h => ?_, fun x y z h1 h2 => ?_⟩
  · have a := lexC_iff.mp h
    refine lexC_no.mpr ?_
    omega
  · have a := lexC_no.mp h1
    have b := lexC_no.mp h2
    refine lexC_no.mpr ?_
    omega
def IsTrip (h : Heap) (v : Value) (z : Int × Int × Int) : Prop := ∃ a o t u x n, v = .ref a ∧ h.get? a = some o ∧ o.cls = .type "tuple" ∧ o.data = .seq #[.int z.1 t, .int z.2.1 u, .int z.2.2 x] n
theorem IsTrip.keeps {h h' : Heap} {v : Value} {z : Int × Int × Int} (p : IsTrip h v z) (k : ∀ b o, h.get? b = some o → o.cls = .type "tuple" → h'.get? b = some o) : IsTrip h' v z := by
  obtain ⟨a, o, t, u, x, n, e, ho, hc, hd⟩ := p
  exact ⟨a, o, t, u, x, n, e, k _ _ ho hc, hc, hd⟩
section
open Srt SrtO PyProof.Rows
variable {prog : Program} {w : World} {A : Around} {E : Value → Shared → Prop} {s : Shared}
theorem trip_cmp {vs : List Value} {k : Value → Int × Int × Int} (hp : ∀ v ∈ vs, IsTrip s.heap v (k v)) : Cmp prog w A s (tuples' true) (fun p => p.1 ∈ vs) (lt2 fun v u => lexC (k v) (k u)) := by
  intro p q hm hm'
  have h1 := hp _ hm
  have h2 := hp _ hm'
  show wpAny (model prog w) A (keyLt' (tuples' true) p.1 q.1) (fun r s' => s' = s ∧ r = lexC (k p.1) (k q.1)) (fun _ _ => False) s
  unfold lexC
  generalize k p.1 = x at h1 ⊢
  generalize k q.1 = x' at h2 ⊢
  obtain ⟨x, y, z⟩ := x
  obtain ⟨x', y', z'⟩ := x'
  obtain ⟨a, o, t, u, v, n, e, ho, hc, hd⟩ := h1
  obtain ⟨a', o', t', u', v', n', e', ho', hc', hd'⟩ := h2
  rw [e, e']
  dsimp only at hd hd' ⊢
  refine PySem.W.kat_lt ho hd ho' hd' ?_
  show PySem.W.KatLex prog w A true (decide (3 < 3)) _ [(.int x t, .int x' t'), (.int y u, .int y' u'), (.int z v, .int z' v')] 0 s
  refine PySem.W.kat_cons (SeqAt.EqAt.int_int x t x' t' prog w _ _ ?_)
  refine PySem.W.kat_go (fun e1 => ?_) (fun e1 => ?_)
  · have ex : x = x' := by simpa using e1
    refine PySem.W.kat_yes (PySem.W.kat_cons (SeqAt.EqAt.int_int y u y' u' prog w _ _ ?_))
    refine PySem.W.kat_go (fun e2 => ?_) (fun e2 => ?_)
    · have ey : y = y' := by simpa using e2
      refine PySem.W.kat_yes (PySem.W.kat_cons (SeqAt.EqAt.int_int z v z' v' prog w _ _ ?_))
      refine PySem.W.kat_go (fun e3 => ?_) (fun e3 => ?_)
      · have ez : z = z' := by simpa using e3
        refine PySem.W.kat_yes (PySem.W.kat_nil ⟨rfl, ?_⟩)
        rw [if_pos ex, if_pos ey, ez]
        exact (decide_eq_false (Int.lt_irrefl _)).symm
      · refine PySem.W.kat_no (PySem.W.kat_one _ _ (PyProof.Rows.lt_int ?_))
        have e4 : (if x = x' then (if y = y' then decide (z < z') else decide (y < y')) else decide (x < x')) = decide (z < z') := by rw [if_pos ex, if_pos ey]
        exact (show s = s ∧ decide (z < z') = (if x = x' then (if y = y' then decide (z < z') else decide (y < y')) else decide (x < x')) from ⟨rfl, e4.symm⟩)
    · have ey : ¬ y = y' := by simpa using e2
      have e3 : (if x = x' then (if y = y' then decide (z < z') else decide (y < y')) else decide (x < x')) = decide (y < y') := by rw [if_pos ex, if_neg ey]
      refine PySem.W.kat_no (PySem.W.kat_one _ _ (PyProof.Rows.lt_int ?_))
      exact (show s = s ∧ decide (y < y') = (if x = x' then (if y = y' then decide (z < z') else decide (y < y')) else decide (x < x')) from ⟨rfl, e3.symm⟩)
  · have ex : ¬ x = x' := by simpa using e1
    have e3 : (if x = x' then (if y = y' then decide (z < z') else decide (y < y')) else decide (x < x')) = decide (x < x') := if_neg ex
    exact PySem.W.kat_no (oneLt_int ⟨rfl, e3.symm⟩)
theorem firsts3 {h : Heap} {k : Value → Int × Int × Int} : ∀ {vs : List Value}, (∀ v ∈ vs, IsTrip h v (k v)) → ∃ fs : List Value, PySem.W.KatTups h vs fs ∧ fs.length = vs.length ∧ ∀ f ∈ fs, ∃ x t, f = Value.int x t
  | [], _ => ⟨[], PySem.W.KatTups.nil, rfl, fun _ hm => by simp at hm⟩
  | v :: vs, hp => by
    obtain ⟨fs, h1, h2, h3⟩ := firsts3 (vs := vs) fun v' hm => hp v' (List.mem_cons_of_mem _ hm)
    obtain ⟨a, o, t, u, x, n, e, ho, hc, hd⟩ := hp v List.mem_cons_self
    generalize k v = z at hd
    subst e
    refine ⟨.int z.1 t :: fs, PySem.W.KatTups.cons ho hc hd rfl h1, by rw [List.length_cons, List.length_cons, h2], fun f hm => ?_⟩
    rcases List.mem_cons.mp hm with rfl | hm
    · exact ⟨z.1, t, rfl⟩
    · exact h3 f hm
theorem trips_sortable {a : Addr} {vs : List Value} {k : Value → Int × Int × Int} (h0 : 0 < vs.length) (hp : ∀ v ∈ vs, IsTrip s.heap v (k v)) (ha : ∀ o, s.heap.get? a = some o → o.cls ≠ .type "tuple") : SortableO prog w A s a vs fun v u => lexC (k v) (k u) := by
  intro h' keep
  have hp' : ∀ v ∈ vs, IsTrip h' v (k v) := fun v hm => (hp v hm).keeps fun b o e c => keep b o (fun z => by subst z; exact ha o e c) e
  obtain ⟨fs, h1, h2, h3⟩ := firsts3 hp'
  refine ⟨tuples' true, fun Q E hq => ?_, trip_cmp hp'⟩
  refine PySem.W.kat_kind (T := .type "int") h1 (by omega) (fun f hm => ?_) (by rfl) ?_
  · obtain ⟨x, t, rfl⟩ := h3 f hm
    exact PySem.W.Looks.now
  · have e : (Value.type "int" != Value.type "tuple") = true := by first | decide +kernel | rfl | decide
    rw [e]
    exact hq
theorem sorted_trips {l : Addr} {vs : List Value} {k : Value → Int × Int × Int} {Q : Value → Shared → Prop} (hl : s.heap.IsList l vs.toArray) (hz : vs.length ≤ sizeLine) (hp : ∀ v ∈ vs, IsTrip s.heap v (k v))
    (h : ∀ (h' : Heap) (d : Addr) (out : List Value), Srtd (fun v u => lexC (k v) (k u)) out → Stb (fun v u => lexC (k v) (k u)) out vs → (∀ b o, s.heap.get? b = some o → h'.get? b = some o) → s.heap.objs.size ≤ d → (∃ n, h'.get? d = some (seqObj "list" out.toArray n)) → Q (.ref d) { s with heap := h' }) :
    wpAny (model prog w) A (call (.builtin "sorted") [.ref l]) Q E s := by
  refine sorted_ord (swo_C k) hl hz (fun h2 h₁ a ha kk => ?_) fun out hs hb => ?_
  · refine trips_sortable (s := { s with heap := h₁ }) (by omega) (fun v hm => (hp v hm).keeps fun b o e _ => (kk b o e).2) fun o e => ?_
    have e' : some o = some (seqObj "list" vs.toArray 0) := e.symm.trans ha
    cases e'
    intro c
    exact absurd (Value.type.inj c) (by decide)
  · exact h _ _ out hs hb (fun b o e => PyProof.Rows.sortedAll_old e) (Nat.le_succ _) (PyProof.Rows.sortedAll_at s.heap vs out.toArray)
end
end SP
namespace L2
open PySem PySem.Spec PyProof.Rows
/-- x before y: by the three of their ints -/
abbrev ltC (k : V → Int × Int × Int) (x y : V) : Bool := SP.lexC (k x) (k y)
def rSortedC (K : PySem.W.Frag) : List V → Hp → VK → Prop := fun vs H Q => ∃ (a : Addr) (xs : List V) (k : V → Int × Int × Int), vs = [V.ref a] ∧ SqL K H a xs ∧ (∀ x ∈ xs, ∃ t, x = V.ref t ∧ H t = some (.tup [.int (k x).1, .int (k x).2.1, .int (k x).2.2])) ∧
  ∀ ys p, SrtO.Srtd (ltC k) ys → SrtO.Stb (ltC k) ys xs → H p = none → Q (.ref p) (upd H p (.lst ys))
theorem vals3 : ∀ {x y z : V} {us : List Value}, Vals [x, y, z] us → ∃ a b c, us = [a, b, c] ∧ RelV x a ∧ RelV y b ∧ RelV z c
  | _, _, _, _, .cons r1 (.cons r2 (.cons r3 .nil)) => ⟨_, _, _, rfl, r1, r2, r3⟩
section
variable {X : Cx}
theorem cr_sortedC : CallR X (.builtin "sorted") (rSortedC X.K) := by
  intro pins s σ H vs us Q I r h
  obtain ⟨a, xs, k, rfl, hs, hx, q⟩ := h
  obtain ⟨its, rv, hl, hz⟩ := I.list hs
  obtain ⟨u, rfl, ru⟩ := vals1 r
  obtain rfl : u = Value.ref a := ru
  obtain ⟨e1, e2⟩ := refs_back rv fun x m => by
    obtain ⟨t, e, _⟩ := hx x m
    exact ⟨t, e⟩
  refine SP.sorted_trips (k := fun u => k (backV u)) hl.isList (by rw [← rv.length]; exact hz) (fun v hv => ?_) fun h' d out h1 h2 kp hd hn => ?_
  · obtain ⟨t, rfl⟩ := e2 v hv
    have hm : V.ref t ∈ xs := by rw [e1]; exact List.mem_map.mpr ⟨_, hv, rfl⟩
    obtain ⟨t', e, ht⟩ := hx _ hm
    cases e
    obtain ⟨_, its2, r2, o, ho, hc, n, hd⟩ := I.hok _ _ ht
    obtain ⟨u1, u2, u3, rfl, ri, rj, rk⟩ := vals3 r2
    obtain ⟨t1, rfl⟩ := ri
    obtain ⟨t2, rfl⟩ := rj
    obtain ⟨t3, rfl⟩ := rk
    exact ⟨t, o, t1, t2, t3, n, rfl, ho, hc, hd⟩
  · have h3 : ∀ u ∈ out, ∃ a, u = Value.ref a := fun u hu => e2 u (h2.perm.mem_iff.mp hu)
    obtain ⟨n, hn⟩ := hn
    have hb : SrtO.Stb (ltC k) (out.map backV) xs := by
      rw [e1]
      exact SrtO.Stb.map (SP.swo_C k) backV h2
    refine ⟨.ref d, upd H d (.lst (out.map backV)), I.laid (t' := s.toks) kp hd ⟨?_, out, n, vals_back h3, hn⟩, rfl, q _ d (SrtO.srtd_map h1) hb (I.hok.fresh hd)⟩
    rw [hb.len]
    exact hz
/-- l.remove(y) of data -/
def rRemD (K : PySem.W.Frag) : V → List V → Hp → VK → Prop := fun x xs H Q => ∃ (l : Addr) (vs : List V) (y : V) (d : PyData) (ds : List PyData) (j : Nat) (z : PyData), x = V.ref l ∧ xs = [y] ∧ H l = some (.lst vs) ∧ DpAll K H vs ds ∧ Dp K H y d ∧
  SeqAt.shaped (.list ds) = true ∧ SeqAt.shaped d = true ∧ ds[j]? = some z ∧ PyData.eqv z d = true ∧ (∀ (m : Nat) (z' : PyData), m < j → ds[m]? = some z' → PyData.eqv z' d = false) ∧ Q .non (upd H l (.lst (vs.eraseIdx j)))
theorem mt_remD (hu : X.A.units + 65 < cLine) : MtM X "list.remove" (rRemD X.K) := by
  intro pins s σ H x xs v us Q I rx rxs h
  obtain ⟨l, vs, y, d, ds, j, z, rfl, rfl, hH, ha, hy, sl, sd, hz, hzj, hno, q⟩ := h
  cases rx
  obtain ⟨uy, rfl, ry⟩ := rxs.one
  obtain ⟨bs, r1⟩ := Dp.reads I d y uy hy ry
  have hxs : PyData.canLayAll0 ds = true := SeqAt.canLay_of_shaped sl
  have hroom : X.A.units + 1 + min (PyData.depthAll ds) d.depth < cLine := room_in_shaped sd hu
  obtain ⟨hzl, its, n, r, hl, e⟩ := I.lstM hH
  obtain ⟨as, h4⟩ := Dp.readsAll I ds _ its ha r
  have hn : its.length = ds.length := SeqAt.ReadsAll.length ds its as h4
  have hmap : its.map (SeqAt.readOf s.heap) = ds := SeqAt.readsAll_map ds its as hxs h4
  obtain ⟨hjd, _⟩ := List.getElem?_eq_some_iff.mp hz
  have hjl : j < its.length := by omega
  have hj : j < its.toArray.size := by simpa using hjl
  have at_ : ∀ (m : Nat) (hm : m < its.toArray.size) (z' : PyData), ds[m]? = some z' → SeqAt.readOf s.heap its.toArray[m] = z' := by
    intro m hm z' hz'
    have hml : m < its.length := by simpa using hm
    rw [← hmap, List.getElem?_map, List.getElem?_eq_getElem hml] at hz'
    have e1 : SeqAt.readOf s.heap its[m] = z' := Option.some.inj (show some (SeqAt.readOf s.heap its[m]) = some z' from hz')
    simpa using e1
  have rl := r.length
  refine call_meets PySem.F.slot_list_remove ⟨_, e, rfl⟩ PySem.F.entry_list_remove (PySem.F.args_list_remove_2 _ _)
    (SP.list_remove_at l its.toArray n uy (fun u => PyData.eqv (SeqAt.readOf s.heap u) d) j hj ?_ ?_ (by rw [List.size_toArray]; omega)) ⟨e, SeqAt.items_eqAt (vs := its.toArray) (show ReadsAll s.heap its.toArray.toList ds as from h4) r1 hxs (SeqAt.canLay_of_shaped sd) hroom, ?_⟩
  · show PyData.eqv (SeqAt.readOf s.heap its.toArray[j]) d = true
    rw [at_ j hj z hz]
    exact hzj
  · intro m hm hmj
    have hmd : m < ds.length := by omega
    have hz' : ds[m]? = some ds[m] := List.getElem?_eq_getElem hmd
    show PyData.eqv (SeqAt.readOf s.heap its.toArray[m]) d = false
    rw [at_ m hm _ hz']
    exact hno m _ hmj hz'
  · have rr := r.eraseIdx j
    refine ⟨.non, _, I.lset (its' := its.eraseIdx j) (t' := s.toks) hH e ?_ rr ?_, rfl, q⟩
    · show its.toArray.eraseIdxIfInBounds j = (its.eraseIdx j).toArray
      rw [List.eraseIdxIfInBounds_toArray]
    · have := List.length_eraseIdx_le vs j
      omega
end
end L2
namespace SP
open PySem L2
/-! ### sorted -/
def insB {α : Type} (lt : α → α → Bool) (x : α) : List α → List α
  | [] => [x]
  | y :: r => if lt y x then y :: insB lt x r else x :: y :: r
def isort {α : Type} (lt : α → α → Bool) : List α → List α
  | [] => []
  | x :: r => insB lt x (isort lt r)
structure Tot {α : Type} (lt : α → α → Bool) : Prop where
  irr : ∀ x, lt x x = false
  tr : ∀ x y z, lt x y = true → lt y z = true → lt x z = true
  tri : ∀ x y, lt x y = false → lt y x = false → x = y
section
variable {α : Type} {lt : α → α → Bool}
theorem insB_perm (x : α) : ∀ l : List α, (insB lt x l).Perm (x :: l)
  | [] => List.Perm.refl _
  | y :: r => by
    unfold insB
    split
    · exact ((insB_perm x r).cons y).trans (List.Perm.swap x y r)
    · exact List.Perm.refl _
theorem isort_perm : ∀ l : List α, (isort lt l).Perm l
  | [] => List.Perm.refl _
  | x :: r => (insB_perm x _).trans ((isort_perm r).cons x)
theorem Tot.le_trans (T : Tot lt) {x y z : α} (h1 : lt y x = false) (h2 : lt z y = false) : lt z x = false := by
  cases q : lt z x with
  | false => rfl
  | true =>
    cases q2 : lt x y with
    | true => rw [T.tr z x y q q2] at h2; cases h2
    | false =>
      have := T.tri x y q2 h1
      subst this
      rw [q] at h2; cases h2
theorem Tot.asym (T : Tot lt) {x y : α} (h : lt x y = true) : lt y x = false := by
  cases q : lt y x with
  | false => rfl
  | true => have := T.tr x y x h q; rw [T.irr] at this; cases this
theorem insB_srt (T : Tot lt) (x : α) : ∀ l : List α, l.Pairwise (fun a b => lt b a = false) → (insB lt x l).Pairwise (fun a b => lt b a = false)
  | [], _ => List.pairwise_singleton _ _
  | y :: r, h => by
    rw [List.pairwise_cons] at h
    unfold insB
    split
    · rename_i c
      rw [List.pairwise_cons]
      refine ⟨fun z hz => ?_, insB_srt T x r h.2⟩
      rcases List.mem_cons.mp ((insB_perm x r).mem_iff.mp hz) with rfl | hz
      · exact T.asym c
      · exact h.1 z hz
    · rename_i c
      have c : lt y x = false := by simpa using c
      rw [List.pairwise_cons]
      refine ⟨fun z hz => ?_, List.pairwise_cons.mpr h⟩
      rcases List.mem_cons.mp hz with rfl | hz
      · exact c
      · exact T.le_trans c (h.1 z hz)
theorem isort_srt (T : Tot lt) : ∀ l : List α, (isort lt l).Pairwise (fun a b => lt b a = false)
  | [] => List.Pairwise.nil
  | x :: r => insB_srt T x _ (isort_srt T r)
theorem srt_uniq (T : Tot lt) : ∀ {l m : List α}, l.Pairwise (fun a b => lt b a = false) → m.Pairwise (fun a b => lt b a = false) → l.Perm m → l = m
  | [], m, _, _, p => (List.Perm.eq_nil p.symm).symm
  | x :: l, [], _, _, p => absurd p.length_eq (by simp)
  | x :: l, y :: m, hl, hm, p => by
    rw [List.pairwise_cons] at hl hm
    have e : x = y := by
      rcases List.mem_cons.mp (p.mem_iff.mp (List.mem_cons_self (a := x) (l := l))) with e | hx
      · exact e
      · rcases List.mem_cons.mp (p.mem_iff.mpr (List.mem_cons_self (a := y) (l := m))) with e | hy
        · exact e.symm
        · exact T.tri x y (hm.1 x hx) (hl.1 y hy)
    subst e
    rw [srt_uniq T hl.2 hm.2 p.cons_inv]
theorem isort_of (T : Tot lt) {l m : List α} (h : m.Pairwise (fun a b => lt b a = false)) (p : m.Perm l) : isort lt l = m := srt_uniq T (isort_srt T l) h ((isort_perm l).trans p.symm)
end
def ltI (a b : Int) : Bool := decide (a < b)
theorem tot_I : Tot ltI := by
  refine ⟨fun x => decide_eq_false (Int.lt_irrefl x), fun x y z h1 h2 => ?_, fun x y h1 h2 => ?_⟩
  · have := of_decide_eq_true h1; have := of_decide_eq_true h2; exact decide_eq_true (by omega)
  · have := of_decide_eq_false h1; have := of_decide_eq_false h2; omega
theorem tot_P : Tot SrtO.lexB := by
  refine ⟨fun x => SrtO.lexB_no.mpr (by omega), fun x y z h1 h2 => ?_, fun x y h1 h2 => ?_⟩
  · have := SrtO.lexB_iff.mp h1; have := SrtO.lexB_iff.mp h2; exact SrtO.lexB_iff.mpr (by omega)
  · have := SrtO.lexB_no.mp h1; have := SrtO.lexB_no.mp h2
    obtain ⟨a, b⟩ := x
    obtain ⟨c, d⟩ := y
    simp only [Prod.mk.injEq] at *
    omega
theorem tot_C : Tot lexC := by
  refine ⟨fun x => lexC_no.mpr (by omega), fun x y z h1 h2 => ?_, fun x y h1 h2 => ?_⟩
  · have := lexC_iff.mp h1; have := lexC_iff.mp h2; exact lexC_iff.mpr (by omega)
  · have := lexC_no.mp h1; have := lexC_no.mp h2
    obtain ⟨a, b, e⟩ := x
    obtain ⟨c, d, f⟩ := y
    simp only [Prod.mk.injEq] at *
    omega
def ePr (p : Int × Int) : SP.D := .tup [.int p.1, .int p.2]
def eTr (p : Int × Int × Int) : SP.D := .tup [.int p.1, .int p.2.1, .int p.2.2]
def asPrs : List SP.D → Option (List (Int × Int))
  | [] => some []
  | .tup [.int a, .int b] :: r => (asPrs r).map ((a, b) :: ·)
  | _ => none
def asTrs : List SP.D → Option (List (Int × Int × Int))
  | [] => some []
  | .tup [.int a, .int b, .int c] :: r => (asTrs r).map ((a, b, c) :: ·)
  | _ => none
theorem asPrs_ok : ∀ {ds : List SP.D} {ps : List (Int × Int)}, asPrs ds = some ps → ds = ps.map ePr
  | [], ps, e => by simp only [asPrs] at e; cases e; rfl
  | .tup [.int a, .int b] :: r, ps, e => by
    simp only [asPrs] at e
    cases q : asPrs r with
    | none => rw [q] at e; cases e
    | some l => rw [q] at e; cases e; rw [asPrs_ok q]; rfl
  | .non :: _, _, e => by simp [asPrs] at e
  | .bl _ :: _, _, e => by simp [asPrs] at e
  | .int _ :: _, _, e => by simp [asPrs] at e
  | .str _ :: _, _, e => by simp [asPrs] at e
  | .lst _ :: _, _, e => by simp [asPrs] at e
  | .dk _ :: _, _, e => by simp [asPrs] at e
  | .dt _ :: _, _, e => by simp [asPrs] at e
  | .scr _ :: _, _, e => by simp [asPrs] at e
  | .tup [] :: _, _, e => by simp [asPrs] at e
  | .tup [_] :: _, _, e => by simp [asPrs] at e
  | .tup (_ :: _ :: _ :: _) :: _, _, e => by simp [asPrs] at e
  | .tup [x, y] :: r, ps, e => by
    cases x <;> first | (simp [asPrs] at e; done) | skip
    cases y <;> first | (simp [asPrs] at e; done) | skip
    simp only [asPrs] at e
    cases q : asPrs r with
    | none => rw [q] at e; cases e
    | some l => rw [q] at e; cases e; rw [asPrs_ok q]; rfl
theorem asTrs_ok : ∀ {ds : List SP.D} {ps : List (Int × Int × Int)}, asTrs ds = some ps → ds = ps.map eTr
  | [], ps, e => by simp only [asTrs] at e; cases e; rfl
  | d :: r, ps, e => by
    unfold asTrs at e
    split at e
    · rename_i h; cases h
    · rename_i h
      injection h with h1 h2
      subst h1 h2
      cases q : asTrs r with
      | none => rw [q] at e; cases e
      | some l => rw [q] at e; cases e; rw [asTrs_ok q]; rfl
    · cases e
theorem asPrs_map : ∀ ps : List (Int × Int), asPrs (ps.map ePr) = some ps
  | [] => rfl
  | p :: r => by show (asPrs (r.map ePr)).map _ = _; rw [asPrs_map r]; rfl
theorem asTrs_map : ∀ ps : List (Int × Int × Int), asTrs (ps.map eTr) = some ps
  | [] => rfl
  | p :: r => by show (asTrs (r.map eTr)).map _ = _; rw [asTrs_map r]; rfl
def fSorted : Sv → Mu → R Cell := fun a μ => match look μ a with
  | some (.lst xs) => match asInts xs with
    | some ns => .ok (.lst ((isort ltI ns).map .int)) μ
    | none => match asPrs xs with
      | some ps => .ok (.lst ((isort SrtO.lexB ps).map ePr)) μ
      | none => match asTrs xs with
        | some ts => .ok (.lst ((isort lexC ts).map eTr)) μ
        | none => .no
  | _ => .no
def fSortedR : Sv → Mu → R Cell := fun a μ => match look μ a with
  | some (.lst xs) => match asInts xs with
    | some ns => .ok (.lst ((isort ltI ns).reverse.map .int)) μ
    | none => .no
  | _ => .no
theorem reps_asI {K : PySem.W.Frag} {G : Hp} : ∀ {vs : List V} {ds : List SP.D} {ns : List Int}, Reps K G vs ds → asInts ds = some ns → vs = ns.map V.int ∧ ds = ns.map SP.D.int
  | _, _, ns, .nil, e => by cases e; exact ⟨rfl, rfl⟩
  | _, _, ns, .cons (d := .int i) (ds := r) h t, e => by
    simp only [asInts] at e
    cases q : asInts r with
    | none => rw [q] at e; cases e
    | some l =>
      rw [q] at e
      cases e
      cases h
      obtain ⟨h1, h2⟩ := reps_asI t q
      rw [h1, h2]; exact ⟨rfl, rfl⟩
  | _, _, ns, .cons (d := .non) h t, e => by simp [asInts] at e
  | _, _, ns, .cons (d := .bl _) h t, e => by simp [asInts] at e
  | _, _, ns, .cons (d := .str _) h t, e => by simp [asInts] at e
  | _, _, ns, .cons (d := .tup _) h t, e => by simp [asInts] at e
  | _, _, ns, .cons (d := .lst _) h t, e => by simp [asInts] at e
  | _, _, ns, .cons (d := .dk _) h t, e => by simp [asInts] at e
  | _, _, ns, .cons (d := .dt _) h t, e => by simp [asInts] at e
  | _, _, ns, .cons (d := .scr _) h t, e => by simp [asInts] at e
theorem reps_ints {K : PySem.W.Frag} {G : Hp} : ∀ ns : List Int, Reps K G (ns.map V.int) (ns.map SP.D.int)
  | [] => .nil
  | n :: r => .cons (.int n) (reps_ints r)
/-- what a pair, a triple holds -/
def kPr (G : Hp) : V → Int × Int := fun v => match v with
  | .ref t => match G t with
    | some (.tup [.int a, .int b]) => (a, b)
    | _ => (0, 0)
  | _ => (0, 0)
def kTr (G : Hp) : V → Int × Int × Int := fun v => match v with
  | .ref t => match G t with
    | some (.tup [.int a, .int b, .int c]) => (a, b, c)
    | _ => (0, 0, 0)
  | _ => (0, 0, 0)
theorem rep_pr {K : PySem.W.Frag} {G : Hp} {v : V} {p : Int × Int} (h : Rep K G v (ePr p)) : ∃ t, v = .ref t ∧ G t = some (.tup [.int p.1, .int p.2]) ∧ kPr G v = p := by
  unfold ePr at h
  cases h with
  | @tup a vs _ h n r =>
    cases r with
    | cons r1 r =>
      cases r with
      | cons r2 r =>
        cases r
        cases r1
        cases r2
        exact ⟨a, rfl, h, by unfold kPr; dsimp only; rw [h]⟩
theorem rep_tr {K : PySem.W.Frag} {G : Hp} {v : V} {p : Int × Int × Int} (h : Rep K G v (eTr p)) : ∃ t, v = .ref t ∧ G t = some (.tup [.int p.1, .int p.2.1, .int p.2.2]) ∧ kTr G v = p := by
  unfold eTr at h
  cases h with
  | @tup a vs _ h n r =>
    cases r with
    | cons r1 r =>
      cases r with
      | cons r2 r =>
        cases r with
        | cons r3 r =>
          cases r
          cases r1
          cases r2
          cases r3
          exact ⟨a, rfl, h, by unfold kTr; dsimp only; rw [h]⟩
theorem reps_key {α : Type} {K : PySem.W.Frag} {G : Hp} {enc : α → SP.D} {k : V → α} (hk : ∀ v p, Rep K G v (enc p) → k v = p) : ∀ {vs : List V} {ps : List α}, Reps K G vs (ps.map enc) → vs.map k = ps ∧ ∀ v ∈ vs, Rep K G v (enc (k v))
  | [], [], _ => ⟨rfl, fun v h => by cases h⟩
  | v :: vs, p :: ps, .cons h t => by
    obtain ⟨h1, h2⟩ := reps_key hk t
    have e := hk v p h
    refine ⟨by rw [List.map_cons, e, h1], fun w hw => ?_⟩
    rcases List.mem_cons.mp hw with rfl | hw
    · rw [e]; exact h
    · exact h2 w hw
theorem reps_of {α : Type} {K : PySem.W.Frag} {G : Hp} {enc : α → SP.D} {k : V → α} : ∀ {ys : List V}, (∀ v ∈ ys, Rep K G v (enc (k v))) → Reps K G ys ((ys.map k).map enc)
  | [], _ => .nil
  | y :: r, h => .cons (h y List.mem_cons_self) (reps_of fun v hv => h v (List.mem_cons_of_mem _ hv))
section
variable {Γ : Gm} {X : Cx} {W : WX}
theorem d_b1F {id : String} {r : List V → Hp → VK → Prop} {x : Str} {p : Pos} {e : Expr} {pos : Pos} {f : Ev} {q : Sv → Mu → R Cell} (hc : CallR X (.builtin id) r) (hr : PrF Γ q fun x H Q => r [x] H Q) (hm : X.mg x = none) (hv : bootBuiltins x = some (.builtin id)) (ha : PE X e (wE Γ W f)) (hg : Gl X x := by rfl) (hn : x ≠ "__name__" := by decide) (hdb : (x == ("__debug__" : Str)) = false := by decide)
    (he : starEach (e :: []) X.env = (false, eval e X.env) :: starEach [] X.env := by rfl) (hpl : (backTo pos (starEach [] X.env)).any (·.1) = false := by rfl) : PE X (.Call (.Name x p) [e] [] pos) (wF Γ W (dOpF q f)) := by
  refine pe_imp (pe_callB hc hg hm hv (pa_cons ha pa_nil he) hn hdb he hpl) fun σ H Q h => ?_
  exact wF.of (fun _ _ => rfl) h fun G cs μ v H1 a m ra p => hr _ G cs μ H1 v a Q m ra p
theorem pr_sorted (hK : X.K = Γ.K) : PrF Γ fSorted fun x H Q => rSortedI X.K [x] H Q ∨ (rSortedPO X.K [x] H Q ∨ rSortedC X.K [x] H Q) := by
  intro E G cs μ H x sa Q m ra p
  unfold fSorted at p
  cases e : look μ sa with
  | none => rw [e] at p; exact p.elim
  | some d =>
    rw [e] at p
    have r := look_L m ra e
    cases r with
    | @lst a vs ds h n r =>
      dsimp only at p
      split at p
      · rename_i ns hns
        obtain ⟨e1, e2⟩ := reps_asI r hns
        subst e1
        refine .inl ⟨a, ns, rfl, .of h, fun ns' l hp ho hl => ?_⟩
        have es : isort ltI ns = ns' := isort_of tot_I (ho.imp fun {x y} h => decide_eq_false (by omega)) hp
        rw [es] at p
        exact p.lay m hl _ fun gp _ => ⟨gp, by rw [List.length_map, hp.length_eq]; rw [e2, List.length_map] at n; exact n, _, upd_same, reps_ints ns'⟩
      · split at p
        · rename_i ps hps
          have e2 := asPrs_ok hps
          subst e2
          obtain ⟨k1, k2⟩ := reps_key (k := kPr G) (fun v p h => (rep_pr h).choose_spec.2.2) r
          refine .inr (.inl ⟨a, vs, kPr G, rfl, .of h, fun v hv => ?_, fun ys l hs hb hl => ?_⟩)
          · obtain ⟨t, ht, hg, _⟩ := rep_pr (k2 v hv)
            exact ⟨t, ht, m.sub _ _ hg⟩
          · have hperm := hb.perm
            have es : isort SrtO.lexB ps = ys.map (kPr G) := isort_of tot_P (List.pairwise_map.mpr hs) (by rw [← k1]; exact hperm.map _)
            rw [es] at p
            exact p.lay m hl _ fun gp _ => ⟨gp, by rw [List.length_map, List.length_map, hperm.length_eq, r.length]; exact n, _, upd_same, reps_of fun v hv => k2 v (hperm.mem_iff.mp hv)⟩
        · split at p
          · rename_i ps hps
            have e2 := asTrs_ok hps
            subst e2
            obtain ⟨k1, k2⟩ := reps_key (k := kTr G) (fun v p h => (rep_tr h).choose_spec.2.2) r
            refine .inr (.inr ⟨a, vs, kTr G, rfl, .of h, fun v hv => ?_, fun ys l hs hb hl => ?_⟩)
            · obtain ⟨t, ht, hg, _⟩ := rep_tr (k2 v hv)
              exact ⟨t, ht, m.sub _ _ hg⟩
            · have hperm := hb.perm
              have es : isort lexC ps = ys.map (kTr G) := isort_of tot_C (List.pairwise_map.mpr hs) (by rw [← k1]; exact hperm.map _)
              rw [es] at p
              exact p.lay m hl _ fun gp _ => ⟨gp, by rw [List.length_map, List.length_map, hperm.length_eq, r.length]; exact n, _, upd_same, reps_of fun v hv => k2 v (hperm.mem_iff.mp hv)⟩
          · exact p.elim
    | tup h n r => exact p.elim
    | dk h n r => exact p.elim
    | non => exact p.elim
    | bl b => exact p.elim
    | int i => exact p.elim
    | str s h => exact p.elim
    | dt h n r => exact p.elim
    | scr h n => exact p.elim
theorem d_sorted {p : Pos} {e : Expr} {pos : Pos} {f : Ev} (hm : X.mg "sorted" = none) (ha : PE X e (wE Γ W f)) (hg : Gl X "sorted" := by rfl) (he : starEach (e :: []) X.env = (false, eval e X.env) :: starEach [] X.env := by rfl) (hpl : (backTo pos (starEach [] X.env)).any (·.1) = false := by rfl) (hK : X.K = Γ.K := by rfl) :
    PE X (.Call (.Name "sorted" p) [e] [] pos) (wF Γ W (dOpF fSorted f)) := d_b1F (cr_or cr_sortedI (cr_or cr_sortedPO cr_sortedC)) (pr_sorted hK) hm (by decide +kernel) ha hg (he := he) (hpl := hpl)
/-! ### l.remove(x) -/
def remC (d : SP.D) (n : Nat) (ρ : Rho) (μ : Mu) : Option Cell → O
  | some (.lst xs) => if D.eqoks 8 xs && D.eqok 9 d then (match xs.findIdx? fun y => PyData.eqv y.py d.py with
      | some j => .nx ρ (μ.set n (.lst (xs.eraseIdx j)))
      | none => .no) else .no
  | _ => .no
def sRem (fx fe : Ev) : EvS := sE fx fun v ρ μ => match v with
  | .rf n => match μ[n]? with
    | some (.lst _) => sE fe (fun w ρ μ => match w with
      | .im d => remC d n ρ μ μ[n]?
      | _ => .no) ρ μ
    | _ => .no
  | _ => .no
theorem dpall_mono {K : PySem.W.Frag} {G H : Hp} (e : Same G H) {vs : List V} {ds : List SP.D} {n : Nat} (r : Reps K G vs ds) (h : D.eqoks n ds = true) : DpAll K H vs (D.pys ds) := (eqoks_py n ds h).2 K H vs (r.mono e) |>.2
theorem pys_map (ds : List SP.D) : D.pys ds = ds.map D.py := by
  induction ds with
  | nil => rfl
  | cons a r ih => simp [D.pys, ih]
theorem reps_erase {K : PySem.W.Frag} {G : Hp} : ∀ {vs : List V} {ds : List SP.D} (j : Nat), Reps K G vs ds → Reps K G (vs.eraseIdx j) (ds.eraseIdx j)
  | _, _, _, .nil => .nil
  | _, _, 0, .cons h r => r
  | _, _, j + 1, .cons h r => .cons h (reps_erase j r)
theorem s_rem {o e : Expr} {apos cpos pos : Pos} {fx fe : Ev} (hu : X.A.units + 65 < cLine) (h : PE X (.Call (.Attribute o "remove" apos) [e] [] cpos) (tBM X.K "list" (rRemD X.K) (wE Γ W fx) (tCons (wE Γ W fe) tNil)))
    (hs : swapsWith (.Call (.Attribute o "remove" apos) [e] [] cpos) none pos.line X.env = pure false := by rfl) (hK : X.K = Γ.K := by rfl) : PS X (.Expr (.Call (.Attribute o "remove" apos) [e] [] cpos) pos) (wS Γ W (sRem fx fe)) := by
  refine ps_imp (ps_expr h hs) fun D σ H h => ?_
  show wE Γ W fx σ H _
  refine wE.stm h fun G cs ρ μ v H1 a rl r po => ?_
  split at po
  · rename_i n
    obtain ⟨p, hp, rfl⟩ := id r
    split at po
    · rename_i xs0 hx0
      obtain ⟨_, _, vs0, h0, _⟩ := rl.m.cell n p _ hp hx0
      refine ⟨.inl ⟨rfl, vs0, .of h0⟩, ?_⟩
      show wE Γ W fe σ H1 _
      refine wE.stm' rl po fun G2 cs2 μ2 w H2 b g2 rl2 r2 po => ?_
      split at po
      · rename_i d
        unfold remC at po
        split at po
        · rename_i xs hx
          split at po
          · rename_i hc
            rw [Bool.and_eq_true] at hc
            split at po
            · rename_i j hj
              have hp2 : cs2[n]? = some p := pre_get g2.pre hp
              obtain ⟨g, hxl, vs, h1, rs⟩ := rl2.m.cell n p _ hp2 hx
              obtain ⟨hjl, hj1, hj2⟩ := List.findIdx?_eq_some_iff_getElem.mp hj
              have sd := eqok_shaped hc.2 (by decide) (Rep.mono rl2.m.sub r2)
              have sl : SeqAt.shaped (.list (SP.D.pys xs)) = true := by
                have q := eqoks_py 8 xs hc.1
                have q2 := (q.2 Γ.K H2 vs (rs.mono rl2.m.sub)).1
                have q1 := q.1
                show (PyData.canLay0 (.list (SP.D.pys xs)) && decide (PyData.depth (.list (SP.D.pys xs)) ≤ 64)) = true
                rw [Bool.and_eq_true]
                refine ⟨by simp only [PyData.canLay0]; exact q2, decide_eq_true ?_⟩
                simp only [PyData.depth]
                omega
              refine ⟨p, vs, w, d.py, SP.D.pys xs, j, xs[j].py, rfl, rfl, h1, ?_, ?_, sl, sd.2, ?_, hj1, fun m z' hm hz' => ?_, ?_⟩
              · rw [hK]; exact dpall_mono rl2.m.sub rs hc.1
              · rw [hK]; exact sd.1
              · rw [pys_map, List.getElem?_map, List.getElem?_eq_getElem hjl]; rfl
              · rw [pys_map, List.getElem?_map, List.getElem?_eq_getElem (Nat.lt_trans hm hjl)] at hz'
                cases hz'
                have := hj2 m hm
                simpa using this
              · obtain ⟨g3, m3⟩ := rl2.m.put hp2 (.lst (vs.eraseIdx j)) (.lst (xs.eraseIdx j)) g ⟨g, by have := List.length_eraseIdx_le xs j; omega, _, upd_same, reps_erase j rs⟩
                exact po G2 cs2 _ σ g3 (rl2.grow g3 m3)
            · exact po.elim
          · exact po.elim
        · exact po.elim
      · exact po.elim
    · exact po.elim
  · exact po.elim
/-! ### d.pop(k) -/
def dpopO (n : Nat) (k : SP.D) (μ : Mu) : Option Cell → R Sv
  | some (.dk kvs) => match keyOf k with
    | some k => match valD kvs k with
      | some v => .ok (.im v) (μ.set n (.dk (dropD kvs k)))
      | none => .no
    | none => .no
  | _ => .no
def dDPop (fd fk : Ev) : Ev := fun ρ μ => (fd ρ μ).bind fun x μ1 => match x with
  | .rf n => match μ1[n]? with
    | some (.dk _) => (fk ρ μ1).bind fun y μ2 => match y with
      | .im k => dpopO n k μ2 μ2[n]?
      | _ => .no
    | _ => .no
  | _ => .no
theorem repk_drop {K : PySem.W.Frag} {G : Hp} {k : Key} : ∀ {vs : List (Key × V)} {ds : List (Key × SP.D)}, RepK K G vs ds → RepK K G (dropK vs k) (dropD ds k)
  | _, _, .nil => .nil
  | _, _, .cons (k := k') g h r => by
    have ih := repk_drop (k := k) r
    unfold dropK dropD at ih ⊢
    by_cases e : k' = k
    · rw [List.filter_cons_of_neg (by simp [e]), List.filter_cons_of_neg (by simp [e])]; exact ih
    · rw [List.filter_cons_of_pos (by simp [e]), List.filter_cons_of_pos (by simp [e])]; exact .cons g h ih
theorem d_dpop {o e : Expr} {apos cpos : Pos} {fd fk : Ev} (ho : PE X o (wE Γ W fd)) (he : PE X e (wE Γ W fk)) (m : M1 X o "pop" apos e cpos) : PE X (.Call (.Attribute o "pop" apos) [e] [] cpos) (wE Γ W (dDPop fd fk)) := by
  refine pe_imp (pe_dpop1 ho he m) fun σ H Q h => ?_
  obtain ⟨G, cs, ρ, μ, rl, po⟩ := h
  refine ⟨G, cs, ρ, μ, rl, (Post.bind (rep := RepS Γ.K) po).imp fun x H1 ⟨G1, cs1, a, μ1, g1, m1, q1, p1⟩ => ?_⟩
  split at p1
  · rename_i n
    obtain ⟨q, hq, rfl⟩ := q1
    split at p1
    · rename_i kvs0 hc0
      obtain ⟨_, _, vs0, h0, _⟩ := m1.cell n q _ hq hc0
      refine ⟨q, rfl, .inl ⟨_, .of h0⟩, G1, cs1, ρ, μ1, rl.grow g1 m1, (Post.bind (rep := RepS Γ.K) p1).imp fun y H2 ⟨G2, cs2, b, μ2, g2, m2, q2, p2⟩ => ?_⟩
      split at p2
      · rename_i k
        unfold dpopO at p2
        split at p2
        · rename_i kvs hc
          split at p2
          · rename_i ky hky
            split at p2
            · rename_i v hv
              have hq2 : cs2[n]? = some q := pre_get g2.pre hq
              obtain ⟨g, hl, vs, h1, rs⟩ := m2.cell n q _ hq2 hc
              obtain ⟨ek, gk⟩ := keyOf_rep q2 hky
              obtain ⟨w, hw, rw⟩ := (repk_val (k := ky) rs).1 v hv
              refine ⟨vs, ky, w, h1, ek, hw, ?_⟩
              obtain ⟨g4, m4⟩ := m2.put hq2 (.dK (dropK vs ky)) (.dk (dropD kvs ky)) g ⟨g, Nat.le_trans (List.length_filter_le _ _) hl, _, upd_same, repk_drop rs⟩
              exact p2.at (v := w) g4 m4 rw
            · exact p2.elim
          · exact p2.elim
        · exact p2.elim
      · exact p2.elim
    · exact p1.elim
  · exact p1.elim
end
end SP
namespace SP
open PySem L2
/-! ### for over a list that stays a cell -/
def loopC (n i : Nat) (body : EvS) : Nat → Nat → EvS
  | 0, _, _, _ => .no
  | f + 1, k, ρ, μ => match μ[n]? with
    | some (.lst xs) => (match xs[k]? with
      | none => .nx ρ μ
      | some d => match body (ρ.set i (some (.im d))) μ with
        | .nx ρ1 μ1 => loopC n i body f (k + 1) ρ1 μ1
        | .ct ρ1 μ1 => loopC n i body f (k + 1) ρ1 μ1
        | .bk ρ1 μ1 => .nx ρ1 μ1
        | o => o)
    | _ => .no
def forKO (i : Nat) (body : EvS) (n : Nat) (ρ : Rho) (μ : Mu) : Option Cell → O
  | some (.lst xs) => loopC n i body (xs.length + 1) 0 ρ μ
  | some (.fz (.lst xs)) => loopL i body xs ρ μ
  | _ => .no
def sForK (i : Nat) (f : Ev) (body : EvS) : EvS := sE f fun v ρ μ => match v with
  | .im (.lst xs) => loopL i body xs ρ μ
  | .rf n => forKO i body n ρ μ μ[n]?
  | _ => .no
section
variable {Γ : Gm} {X : Cx} {W : WX}
theorem walk_data {i : Nat} {b : EvS} {D : Ends} {G H : Hp} {cs : List Addr} {ρ : Rho} {μ : Mu} {σ : L2.St} {xs : List SP.D} {v : V} (rl : Rel Γ G cs ρ μ σ H) (r : Rep Γ.K G v (.lst xs)) (po : PostS Γ W D G cs H (loopL i b xs ρ μ)) :
    ∃ a, v = .ref a ∧ (∃ ys, SqL Γ.K H a ys) ∧ ∃ Wn : Nat → Nat → L2.St → Hp → Prop, (∃ m, Wn 0 m σ H) ∧ ∀ k m σ H, Wn k m σ H → ((Itl Γ.K a).stop k H ∧ D.nx σ H) ∨ ((Itl Γ.K a).go k H ∧ ∃ N : L2.St → Hp → Prop, (∀ σ' H', N σ' H' → ∃ m', m' < m ∧ Wn (k + 1) m' σ' H') ∧ ∀ x H', (Itl Γ.K a).yld k H x H' → gName i x σ H' fun σ2 H2 => wS Γ W b { D with nx := N, ct := N, bk := D.nx } σ2 H2) := by
  cases r with
  | lst hl n rs =>
    rename_i a vs
    refine ⟨a, rfl, ⟨vs, .of (rl.m.sub _ _ hl)⟩, for_list (K := Γ.K) (a := a) (xs := vs) (fun k σ H => ∃ G cs ρ μ, Rel Γ G cs ρ μ σ H ∧ G a = some (.lst vs) ∧ Reps Γ.K G vs xs ∧ PostS Γ W D G cs H (loopL i b (xs.drop k) ρ μ)) ⟨G, cs, ρ, μ, rl, hl, rs, by simpa using po⟩
      (fun k σ H _ ⟨G, cs, ρ, μ, rl, hl, _⟩ => .of (rl.m.sub _ _ hl)) (fun k x σ H hx ⟨G, cs, ρ, μ, rl, hl, rs, po⟩ => ?_) (fun σ H ⟨G, cs, ρ, μ, rl, hl, rs, po⟩ => ?_)⟩
    · obtain ⟨d, hd, rd⟩ := rs.get' hx
      have ek : xs.drop k = d :: xs.drop (k + 1) := by
        have hk := (List.getElem?_eq_some_iff.mp hd).1
        rw [List.drop_eq_getElem_cons hk]
        rw [(List.getElem?_eq_some_iff.mp hd).2]
      rw [ek] at po
      exact loop_turn rl rd po fun G' cs' ρ' μ' σ' H' g r p => ⟨G', cs', ρ', μ', r, g.ex _ _ hl, rs.mono g.ex, p⟩
    · rw [rs.length, List.drop_length] at po
      exact po.nowN rl
theorem s_forK {i : Nat} {x : Str} {iter : Expr} {body : List Stmt} {pos xpos : Pos} {f : Ev} {b : EvS} (hp : PassesOwn (model X.prog X.w) X.A X.env X.xe) (hc : X.calm = true) (hN : X.N.Nodup) (hi : X.N[i]? = some x) (hx : Loc X.env.scope x) (he : PE X iter (wE Γ W f)) (hb : PSs X body (wS Γ W b))
    (hs : ∀ x, foldedSetIterable iter X.env x = pure x := by intro _; rfl) (hf : X.fn x = true ∨ X.env.scope.names.lookup x = some .local := by first | exact .inl rfl | exact .inr rfl | assumption) (hK : X.K = Γ.K := by rfl) : PS X (.For (.Name x xpos) iter body [] pos) (wS Γ W (sForK i f b)) := by
  refine ps_imp (ps_for hp hc (pi_list he) (pg_name (i := i) hN hi hx hf) hb hs) fun D σ H h => ?_
  show iList X.K (wE Γ W f) σ H _
  rw [hK]
  refine wE.stm h fun G cs ρ μ v H1 a rl r po => ?_
  cases a with
  | im d =>
    split at po
    · rename_i xs hd
      cases hd
      exact walk_data rl r po
    · rename_i hd; cases hd
    · exact po.elim
  | rf n =>
    obtain ⟨p, hp', rfl⟩ := r
    have po : PostS Γ W D G cs H1 (forKO i b n ρ μ μ[n]?) := po
    unfold forKO at po
    split at po
    · rename_i xs hx
      obtain ⟨_, _, vs0, h0, _⟩ := rl.m.cell n p _ hp' hx
      refine ⟨p, rfl, ⟨vs0, .of h0⟩, fun k m σ H => ∃ G cs ρ μ, Rel Γ G cs ρ μ σ H ∧ cs[n]? = some p ∧ PostS Γ W D G cs H (loopC n i b m k ρ μ), ⟨_, G, cs, ρ, μ, rl, hp', po⟩, ?_⟩
      rintro k m σ H ⟨G, cs, ρ, μ, rl, hp', po⟩
      cases m with
      | zero => exact po.elim
      | succ m =>
        unfold loopC at po
        split at po
        · rename_i ys hy
          obtain ⟨g, hn, vs, h1, rs⟩ := rl.m.cell n p _ hp' hy
          split at po
          · rename_i hk
            refine .inl ⟨⟨vs, .of h1, ?_⟩, po.nowN rl⟩
            rw [rs.length]
            exact List.getElem?_eq_none_iff.mp hk
          · rename_i d hk
            obtain ⟨u, hu, ru⟩ := rs.get hk
            refine .inr ⟨⟨vs, u, .of h1, hu⟩, fun σ' H' => ∃ G cs ρ μ, Rel Γ G cs ρ μ σ' H' ∧ cs[n]? = some p ∧ PostS Γ W D G cs H' (loopC n i b m (k + 1) ρ μ), fun σ' H' w => ⟨m, Nat.lt_succ_self _, w⟩, fun x H' y => ?_⟩
            obtain ⟨e, y⟩ := y
            subst e
            have ex := y vs (.of h1)
            rw [hu] at ex
            cases ex
            show wS Γ W b _ (σ.set i (some u)) _
            refine ⟨G, cs, ρ.set i (some (.im d)), μ, rl.set i ru, ?_⟩
            cases e : b (ρ.set i (some (.im d))) μ with
            | nx ρ1 μ1 => rw [e] at po; exact fun G' cs' H' σ' g r => ⟨G', cs', ρ1, μ1, r, pre_get g.pre hp', PostS.mono po g⟩
            | ct ρ1 μ1 => rw [e] at po; exact fun G' cs' H' σ' g r => ⟨G', cs', ρ1, μ1, r, pre_get g.pre hp', PostS.mono po g⟩
            | bk ρ1 μ1 => rw [e] at po; exact po
            | rt v μ1 => rw [e] at po; exact po
            | ex c ρ1 μ1 => rw [e] at po; exact po
            | no => rw [e] at po; exact po
        · exact po.elim
    · rename_i xs hx
      obtain ⟨rr, _⟩ := rl.m.cell n p _ hp' hx
      exact walk_data rl rr po
    · exact po.elim
end
end SP
namespace SP
open PySem L2
theorem hu2_of {A : Around} {k : Nat} (hr : Room k A) : A.units + 65 < cLine := by
  have := hr.un
  omega
section
variable {Γ : Gm} {X : Cx} {W : WX}
theorem pr_sortedR (hK : X.K = Γ.K) : PrF Γ fSortedR fun x H Q => rSortedKw X.K true [.bl true] [x] [.bl true] H Q := by
  intro E G cs μ H x sa Q m ra p
  unfold fSortedR at p
  cases e : look μ sa with
  | none => rw [e] at p; exact p.elim
  | some d =>
    rw [e] at p
    have r := look_L m ra e
    cases r with
    | @lst a vs ds h n r =>
      dsimp only at p
      split at p
      · rename_i ns hns
        obtain ⟨e1, e2⟩ := reps_asI r hns
        subst e1
        refine ⟨a, ns, rfl, rfl, .of h, fun ns' l hp ho hl => ?_⟩
        have ho : ns'.Pairwise (· ≥ ·) := ho
        have es : (isort ltI ns).reverse = ns' := by
          have : isort ltI ns = ns'.reverse := isort_of tot_I (List.pairwise_reverse.mpr (ho.imp fun {x y} h => decide_eq_false (by omega))) ((List.reverse_perm _).trans hp)
          rw [this, List.reverse_reverse]
        rw [es] at p
        exact p.lay m hl _ fun gp _ => ⟨gp, by rw [List.length_map, hp.length_eq]; rw [e2, List.length_map] at n; exact n, _, upd_same, reps_ints ns'⟩
      · exact p.elim
    | tup h n r => exact p.elim
    | dk h n r => exact p.elim
    | non => exact p.elim
    | bl b => exact p.elim
    | int i => exact p.elim
    | str s h => exact p.elim
    | dt h n r => exact p.elim
    | scr h n => exact p.elim
end
end SP

/-! SPA1: dicts whose values are cells: d.setdefault(k, []); they become data; dict of a list of pairs. -/
namespace SP
open PySem L2
section
variable {X : Cx} {Γ : Gm} {W : WX}
def valS (kvs : List (Key × Sv)) (k : Key) : Option Sv := (kvs.find? fun kv => decide (kv.1 = k)).map (·.2)
theorem repv_val {K : PySem.W.Frag} {G : Hp} {cs : List Addr} {k : Key} : ∀ {vs : List (Key × V)} {ds : List (Key × Sv)}, RepV K G cs vs ds → (∀ d, valS ds k = some d → ∃ v, valV vs k = some v ∧ RepS K G cs v d) ∧ (valS ds k = none → valV vs k = none)
  | _, _, .nil => ⟨fun d e => by simp [valS] at e, fun _ => rfl⟩
  | _, _, .cons (k := k') (v := v) (vs := vs) (d := d) (ds := ds) g h r => by
    obtain ⟨h1, h2⟩ := repv_val (k := k) r
    by_cases e : k' = k
    · refine ⟨fun d' q => ?_, fun q => ?_⟩
      · simp only [valS, List.find?_cons, e, decide_true, Option.map_some] at q
        cases q
        exact ⟨v, by simp [valV, e], h⟩
      · simp [valS, e] at q
    · have e1 : valS ((k', d) :: ds) k = valS ds k := by simp [valS, e]
      have e2 : valV ((k', v) :: vs) k = valV vs k := by simp [valV, e]
      rw [e1, e2]
      exact ⟨h1, h2⟩
theorem repv_len {K : PySem.W.Frag} {G : Hp} {cs : List Addr} : ∀ {vs : List (Key × V)} {ds : List (Key × Sv)}, RepV K G cs vs ds → vs.length = ds.length
  | _, _, .nil => rfl
  | _, _, .cons g h r => by simp [repv_len r]
theorem repv_snoc {K : PySem.W.Frag} {G : Hp} {cs : List Addr} {k : Key} {v : V} {d : Sv} (gk : goodK k) (hd : RepS K G cs v d) : ∀ {vs : List (Key × V)} {ds : List (Key × Sv)}, RepV K G cs vs ds → RepV K G cs (vs ++ [(k, v)]) (ds ++ [(k, d)])
  | _, _, .nil => .cons gk hd .nil
  | _, _, .cons g h r => .cons g h (repv_snoc gk hd r)
theorem putK_new {vs : List (Key × V)} {k : Key} {v : V} (h : valV vs k = none) : putK vs k v = vs ++ [(k, v)] := by
  unfold putK
  rw [if_neg]
  intro z
  rw [List.any_eq_true] at z
  obtain ⟨x, hx, e⟩ := z
  unfold valV at h
  rw [Option.map_eq_none_iff, List.find?_eq_none] at h
  exact h x hx e
/-- what stands under a key, an empty list set there if nothing did -/
def setdO (n : Nat) (k : SP.D) (μ : Mu) : Option Cell → R Sv
  | some (.dv kvs) => match keyOf k with
    | some k => match valS kvs k with
      | some v => .ok v μ
      | none => if kvs.length < maxN then .ok (.rf μ.length) ((μ ++ [Cell.lst []]).set n (Cell.dv (kvs ++ [(k, Sv.rf μ.length)]))) else .no
    | none => .no
  | _ => .no
def dSetd (fd fk : Ev) : Ev := fun ρ μ => (fd ρ μ).bind fun x μ1 => match x with
  | .rf n => match μ1[n]? with
    | some (.dv _) => (fk ρ μ1).bind fun y μ2 => match y with
      | .im k => setdO n k μ2 μ2[n]?
      | _ => .no
    | _ => .no
  | _ => .no
def dDv : EvF := fun _ μ => .ok (.dv []) μ
theorem d_dv {pos : Pos} : PE X (.Dict [] [] pos) (wF Γ W dDv) := pe_imp pe_dnewK fun σ H Q h l hl => by
  obtain ⟨G, cs, ρ, μ, rl, po⟩ := h
  exact PostF.lay po rl.m hl (.dK []) fun gp _ => ⟨gp, Nat.zero_le _, [], upd_same, .nil⟩
theorem d_setd' {o e : Expr} {apos cpos lpos : Pos} {fd fk : Ev} (ho : PE X o (wE Γ W fd)) (he : PE X e (wE Γ W fk)) (m : M2 X o "setdefault" apos e (.List [] lpos) cpos) : PE X (.Call (.Attribute o "setdefault" apos) [e, .List [] lpos] [] cpos) (wE Γ W (dSetd fd fk)) := by
  refine pe_imp (pe_dsetd ho he (pe_lst pa_nil) m) fun σ H Q h => ?_
  obtain ⟨G, cs, ρ, μ, rl, po⟩ := h
  refine ⟨G, cs, ρ, μ, rl, (Post.bind (rep := RepS Γ.K) po).imp fun x H1 ⟨G1, cs1, a, μ1, g1, m1, q1, p1⟩ => ?_⟩
  split at p1
  · rename_i n
    obtain ⟨q, hq, rfl⟩ := q1
    split at p1
    · rename_i kvs0 hc0
      obtain ⟨_, _, vs0, h0, _⟩ := m1.cell n q _ hq hc0
      refine ⟨q, rfl, .inl ⟨_, .inl h0⟩, G1, cs1, ρ, μ1, rl.grow g1 m1, (Post.bind (rep := RepS Γ.K) p1).imp fun y H2 ⟨G2, cs2, b, μ2, g2, m2, q2, p2⟩ => ?_⟩
      split at p2
      · rename_i k
        refine ⟨Nat.zero_le _, fun l hl => ?_⟩
        unfold setdO at p2
        split at p2
        · rename_i kvs hc
          split at p2
          · rename_i ky hky
            have hq2 : cs2[n]? = some q := pre_get g2.pre hq
            obtain ⟨ek, gk⟩ := keyOf_rep q2 hky
            obtain ⟨gq, hlen, vs, h1, rs⟩ := m2.cell n q _ hq2 hc
            have rv := repv_val (k := ky) rs
            have nql : q ≠ l := fun z => by rw [z, hl] at h1; cases h1
            have hkl : vs.length < sizeLine := by
              rw [repv_len rs]
              have : maxN < sizeLine := by decide +kernel
              omega
            refine ⟨vs, ky, by rw [upd_ne nql]; exact h1, ek, hkl, fun w hw => ?_, fun hw => ?_⟩
            · split at p2
              · rename_i sv hsv
                obtain ⟨w', hw', rw'⟩ := rv.1 sv hsv
                rw [hw] at hw'
                cases hw'
                obtain ⟨g3, m3⟩ := m2.imm hl (.lst [])
                exact p2.at (v := w) g3 m3 (rw'.mono g3.ex g3.pre)
              · rename_i hsv
                have := rv.2 hsv
                rw [hw] at this; cases this
            · split at p2
              · rename_i sv hsv
                obtain ⟨w', hw', rw'⟩ := rv.1 sv hsv
                rw [hw] at hw'; cases hw'
              · split at p2
                · rename_i hlt
                  have gl := m2.freshG hl
                  obtain ⟨g3, m3⟩ := m2.push hl (.lst []) (.lst []) ⟨gl, Nat.zero_le _, [], upd_same, .nil⟩
                  have hq3 : (cs2 ++ [l])[n]? = some q := pre_get g3.pre hq2
                  have hrf : RepS Γ.K G2 (cs2 ++ [l]) (V.ref l) (.rf μ2.length) := ⟨l, by rw [← m2.len]; simp, rfl⟩
                  obtain ⟨g4, m4⟩ := m3.put hq3 (.dK (putK vs ky (.ref l))) (.dv (kvs ++ [(ky, .rf μ2.length)])) gq ⟨gq, by rw [List.length_append]; simp; omega, _, upd_same, by
                    rw [putK_new hw]
                    exact repv_snoc gk hrf (rs.mono (.refl _) g3.pre)⟩
                  exact p2.at (v := .ref l) (g3.trans g4) m4 hrf
                · exact p2.elim
          · exact p2.elim
        · exact p2.elim
      · exact p2.elim
    · exact p1.elim
  · exact p1.elim
/-! ### the dict and its lists become data -/
def thaw : List (Key × Sv) → Mu → Option (List (Key × SP.D) × Mu)
  | [], μ => some ([], μ)
  | (k, s) :: r, μ => match frz μ s with
    | some (d, μ1) => match thaw r μ1 with
      | some (ds, μ2) => some ((k, d) :: ds, μ2)
      | none => none
    | none => none
theorem frz_dv {μ μ1 : Mu} {s : Sv} {d : SP.D} {n : Nat} {kvs : List (Key × Sv)} (h : μ[n]? = some (.dv kvs)) (e : frz μ s = some (d, μ1)) : μ1[n]? = some (.dv kvs) := by
  cases s with
  | im d' => simp only [frz] at e; cases e; exact h
  | rf j =>
    simp only [frz] at e
    by_cases hj : j = n
    · subst hj; rw [h] at e; cases e
    · split at e <;> cases e <;> first | exact h | (rw [List.getElem?_set_ne hj]; exact h)
theorem thaw_ok {Γ : Gm} {n : Nat} {all : List (Key × Sv)} : ∀ {kvs : List (Key × Sv)} {vs : List (Key × V)} {ds : List (Key × SP.D)} {G H : Hp} {cs : List Addr} {μ μ1 : Mu}, RelM Γ G cs μ H → RepV Γ.K G cs vs kvs → μ[n]? = some (.dv all) → thaw kvs μ = some (ds, μ1) → ∃ G', Grow G cs H G' cs H ∧ RelM Γ G' cs μ1 H ∧ RepK Γ.K G' vs ds ∧ μ1[n]? = some (.dv all) ∧ ds.length = kvs.length
  | [], _, ds, G, H, cs, μ, μ1, m, .nil, hn, e => by
    simp only [thaw] at e
    cases e
    exact ⟨G, .refl, m, .nil, hn, rfl⟩
  | (k, s) :: r, _, ds, G, H, cs, μ, μ1, m, .cons gk h t, hn, e => by
    simp only [thaw] at e
    split at e
    · rename_i d μ2 ef
      split at e
      · rename_i ds2 μ3 et
        cases e
        obtain ⟨G1, g1, m1, r1⟩ := frz_ok m h ef
        obtain ⟨G2, g2, m2, r2, hn2, hl⟩ := thaw_ok m1 (t.mono g1.ex g1.pre) (frz_dv hn ef) et
        exact ⟨G2, g1.trans g2, m2, .cons gk (r1.mono g2.ex) r2, hn2, by simp [hl]⟩
      · cases e
    · cases e
def thawO (n : Nat) (d : EvS) (ρ : Rho) (μ : Mu) : Option Cell → O
  | some (.dv kvs) => match thaw kvs μ with
    | some (ds, μ1) => d ρ (μ1.set n (.dk ds))
    | none => .no
  | _ => .no
def sThaw (i : Nat) (d : EvS) : EvS := fun ρ μ => match ρ[i]? with
  | some (some (.rf n)) => thawO n d ρ μ μ[n]?
  | _ => .no
theorem upd_self {H : Hp} {a : Addr} {o : HO} (h : H a = some o) : upd H a o = H := by
  funext b
  by_cases hb : b = a
  · subst hb; rw [upd_same, h]
  · rw [upd_ne hb]
theorem ss_thaw {i : Nat} {r : List Stmt} {f : EvS} (h : PSs X r (wS Γ W f)) : PSs X r (wS Γ W (sThaw i f)) := by
  refine pss_imp h fun D σ H h => ?_
  obtain ⟨G, cs, ρ, μ, rl, po⟩ := h
  unfold sThaw at po
  split at po
  · rename_i n hi
    unfold thawO at po
    split at po
    · rename_i kvs hc
      split at po
      · rename_i ds μ1 et
        obtain ⟨v, hv, a, ha, _⟩ := rl.s i _ hi
        obtain ⟨gq, hlen, vs, h1, rs⟩ := rl.m.cell n a _ ha hc
        obtain ⟨G1, g1, m1, r1, hn1, hl⟩ := thaw_ok rl.m rs hc et
        obtain ⟨gq1, _, _, h2, _⟩ := m1.cell n a _ ha hn1
        obtain ⟨g2, m2⟩ := m1.put ha (.dK vs) (.dk ds) gq1 ⟨gq1, by rw [hl]; exact hlen, vs, upd_same, r1⟩
        rw [upd_self h1] at g2 m2
        exact ⟨G1, cs, ρ, _, rl.grow (g1.trans g2) m2, PostS.mono po (g1.trans g2)⟩
      · exact po.elim
    · exact po.elim
  · exact po.elim
/-! ### dict of a list of pairs -/
def pairsOf : List SP.D → Option (List (Key × SP.D))
  | [] => some []
  | .tup [k, d] :: r => match keyOf k, pairsOf r with
    | some k, some l => some ((k, d) :: l)
    | _, _ => none
  | _ => none
def fDictP : Sv → Mu → R Cell := fun a μ => match look μ a with
  | some (.lst xs) => match pairsOf xs with
    | some kvs => if kvs.length ≤ maxN then .ok (.dk (kvs.foldl (fun acc kv => putD acc kv.1 kv.2) [])) μ else .no
    | none => .no
  | _ => .no
theorem pairs_rep {K : PySem.W.Frag} {G : Hp} : ∀ {vs : List V} {xs : List SP.D} {kvs : List (Key × SP.D)}, Reps K G vs xs → pairsOf xs = some kvs → ∃ (ps : List Addr) (kv : List (Key × V)), vs = ps.map V.ref ∧ Paired (fun p kv => G p = some (.tup [kV kv.1, kv.2])) ps kv ∧ RepK K G kv kvs
  | _, _, _, .nil, e => by
    simp only [pairsOf] at e
    cases e
    exact ⟨[], [], rfl, .nil, .nil⟩
  | _, .tup [k, d] :: r, kvs, .cons h t, e => by
    simp only [pairsOf] at e
    cases e1 : keyOf k with
    | none => rw [e1] at e; cases e
    | some ky =>
      cases e2 : pairsOf r with
      | none => rw [e1, e2] at e; cases e
      | some l =>
        rw [e1, e2] at e
        cases e
        obtain ⟨ps, kv, h1, h2, h3⟩ := pairs_rep t e2
        cases h with
        | tup q n z =>
          cases z with
          | cons za zb =>
            cases zb with
            | cons zc zd =>
              cases zd
              obtain ⟨ek, gk⟩ := keyOf_rep za e1
              subst ek
              subst h1
              exact ⟨_ :: ps, (ky, _) :: kv, rfl, .cons q h2, .cons gk zc h3⟩
theorem merge_rep {K : PySem.W.Frag} {G : Hp} : ∀ {more : List (Key × V)} {moreD : List (Key × SP.D)} {acc : List (Key × V)} {accD : List (Key × SP.D)}, RepK K G more moreD → RepK K G acc accD → RepK K G (mergeK acc more) (moreD.foldl (fun acc kv => putD acc kv.1 kv.2) accD)
  | _, _, _, _, .nil, r => r
  | _, _, _, _, .cons g h t, r => by
    have := merge_rep t (repk_put g h r)
    exact this
theorem foldPut_len : ∀ (more acc : List (Key × SP.D)), (more.foldl (fun acc kv => putD acc kv.1 kv.2) acc).length ≤ acc.length + more.length
  | [], acc => by simp
  | p :: r, acc => by
    have h1 := foldPut_len r (putD acc p.1 p.2)
    have h2 := putD_len acc p.1 p.2
    simp only [List.foldl_cons, List.length_cons]
    omega
theorem pr_dictP : PrF Γ fDictP fun x H Q => ∃ (a : Addr) (ps : List Addr) (kvs : List (Key × V)), [x] = [V.ref a] ∧ SqL Γ.K H a (ps.map V.ref) ∧ Paired (fun p kv => SqT Γ.K H p [kV kv.1, kv.2]) ps kvs ∧ ∀ p, H p = none → Q (.ref p) (upd H p (.dK (mergeK [] kvs))) := by
  intro E G cs μ H x sa Q m ra p
  unfold fDictP at p
  cases e : look μ sa with
  | none => rw [e] at p; exact p.elim
  | some d =>
    rw [e] at p
    have r := look_L m ra e
    cases r with
    | lst h n r =>
      dsimp only at p
      split at p
      · rename_i kvs ek
        split at p
        · rename_i hl
          obtain ⟨ps, kv, h1, h2, h3⟩ := pairs_rep r ek
          subst h1
          refine ⟨_, ps, kv, rfl, .of h, ?_, fun l hl2 => p.lay m hl2 _ fun gp _ => ⟨gp, ?_, _, upd_same, merge_rep h3 .nil⟩⟩
          · clear h n r h3 ek e p
            induction h2 with
            | nil => exact .nil
            | cons q t ih => exact .cons (.of (m.sub _ _ q)) ih
          · have := foldPut_len kvs []
            simp only [List.length_nil] at this
            omega
        · exact p.elim
      · exact p.elim
    | dk h n r => exact p.elim
    | dt h n r => exact p.elim
    | tup h n r => exact p.elim
    | non => exact p.elim
    | bl b => exact p.elim
    | int i => exact p.elim
    | str s h => exact p.elim
    | scr h n => exact p.elim
theorem d_dictP {p : Pos} {e : Expr} {pos : Pos} {f : Ev} (hc : X.calm = true) (hk : X.K = Γ.K) (hm : X.mg "dict" = none) (ha : PE X e (wE Γ W f)) (hg : Gl X "dict" := by rfl) (he : starEach (e :: []) X.env = (false, eval e X.env) :: starEach [] X.env := by rfl) (hpl : (backTo pos (starEach [] X.env)).any (·.1) = false := by rfl) :
    PE X (.Call (.Name "dict" p) [e] [] pos) (wF Γ W (dOpF fDictP f)) := d_t1F (call_dictP hc) (by rw [hk]; exact pr_dictP) hm PyProof.Rows.boot_dict ha hg (he := he) (hpl := hpl)
end
end SP

/-! SPA2: list(d.values()). -/
namespace L2
open PySem PySem.Spec PyProof.Rows
section
variable {X : Cx}
def tValsV (td : TE) : TE := fun σ H Q => td σ H fun x H1 => ∃ a kvs, x = V.ref a ∧ H1 a = some (.dK kvs) ∧ ∀ p, H1 p = none → Q (.ref p) (upd H1 p (viewO "dict_values" p a))
theorem pe_valsV {o : Expr} {apos mpos : Pos} {td : TE} (hd : PE X o td) (hbase : attributeBase o "values" X.env (eval o X.env) = eval o X.env := by rfl) (hline : (apos.endLine == mpos.line) = true := by rfl) :
    PE X (.Call (.Attribute o "values" apos) [] [] mpos) (tValsV td) := by
  refine ⟨fun pins s σ H Q I h => ?_⟩
  refine wpAny_Call_method0_late hbase hline (thn (hd.run pins s σ H _ I h) fun v s1 ⟨x, H1, I1, r1, a, kvs, ex, ha, q⟩ => ?_)
  subst ex
  obtain rfl : v = Value.ref a := r1
  obtain ⟨_, hsys, vs, rel, dof⟩ := dk_of I1.hok ha
  obtain ⟨ep, dat⟩ := dof.dictAt
  obtain ⟨ob, es, ho, ex, hdat, hko, hpr, hnd⟩ := dat
  refine ⟨"dict", "dict.values", F.plainAttrs_dict, F.slot_dict_values, F.type_dict_values, ⟨ob, ho, ex.1⟩, fun b e => ?_, Calls.callWith_builtin rfl (PySem.evalArgs_none ?_)⟩
  · cases e
    exact ⟨ob, ho, ex.2.1⟩
  refine call_meetsIn F.slot_dict_values ⟨ob, ho, ex.1⟩ F.entry_dict_values (F.args_dict_values_1 _) (meets_dict_values (mixKind X.prog X.w) a hsys) ⟨⟨vs, dof⟩, ?_⟩
  exact ⟨.ref s1.heap.objs.size, _, I1.laid (t' := s1.toks) (fun b o q => Heap.get?_push_of_some _ q) (Nat.le_refl _) (viewO_ok (Heap.get?_push_size _ rfl)), rfl, q _ (I1.hok.fresh (Nat.le_refl _))⟩
theorem vals_items {α : Type} {kvs : List (α × V)} {vs : List (α × Value)} (rel : KV kvs vs) {acc : Array Value} (hi : ItemsOf (fun i v => ∃ k, vs[i]? = some (k, v)) acc vs.length) : Vals (kvs.map (·.2)) acc.toList := by
  have e : acc.toList = vs.map (·.2) := by
    apply List.ext_getElem?
    intro i
    obtain ⟨h1, h2⟩ := hi
    rw [List.getElem?_map, Array.getElem?_toList]
    cases ea : acc[i]? with
    | none =>
      have : vs.length ≤ i := by
        rw [← h1]
        rcases Nat.lt_or_ge i acc.size with z | z
        · rw [Array.getElem?_eq_getElem z] at ea; cases ea
        · exact z
      rw [List.getElem?_eq_none this]; rfl
    | some v =>
      obtain ⟨k, hk⟩ := h2 i v ea
      rw [hk]; rfl
  rw [e]
  clear e hi
  unfold KV at rel
  induction rel with
  | nil => exact .nil
  | cons h t ih => exact .cons h.2 ih
theorem cr_listV (hc : X.calm = true) : CallR X (.type "list") (fun xs H Q => ∃ (p a : Addr) (kvs : List (Key × V)), xs = [.ref p] ∧ H p = some (viewO "dict_values" p a) ∧ H a = some (.dK kvs) ∧ ∀ q, H q = none → Q (.ref q) (upd H q (.lst (kvs.map (·.2))))) := by
  intro pins s σ H xs us Q I r q
  obtain ⟨p, a, kvs, ex, hp, ha, q⟩ := q
  subst ex
  obtain ⟨u, eu, rx⟩ := vals1 r
  subst eu
  cases rx
  have hv : s.heap.get? p = some (DSub.viewOb "dict_values" a) := (show ObjOk X.prog X.w H s.heap p (viewO "dict_values" p a) from I.hok p _ hp).1
  obtain ⟨hlen, hsys, vs, rel, dof⟩ := dk_of I.hok ha
  obtain ⟨ep, dat⟩ := dof.dictAt
  have hl : vs.length = kvs.length := (Paired.length rel).symm
  refine PySem.W.kdl_call (PySem.W.kdl_values (r := p) (d := a) (kvs := vs) (ep := ep) (knd := mixKind X.prog X.w)) (I.ok.hd hc) ⟨⟨_, hv, rfl, rfl⟩, dat⟩ (by omega) fun h' tk acc c hk ho hi => ?_
  exact ⟨.ref s.heap.objs.size, upd H s.heap.objs.size (.lst (kvs.map (·.2))), I.laid (t' := tk) hk (Nat.le_refl _) (show ObjOk X.prog X.w _ _ _ (.lst (kvs.map (·.2))) from ⟨by rw [List.length_map]; exact hlen, acc.toList, c, vals_items rel hi, by rw [Array.toArray_toList]; exact ho⟩), rfl, q _ (I.hok.fresh (Nat.le_refl _))⟩
end
end L2
namespace SP
open PySem L2
section
variable {X : Cx} {Γ : Gm} {W : WX}
/-- an object that is neither a cell nor data -/
theorem RelM.aside {G H : Hp} {cs : List Addr} {μ : Mu} (m : RelM Γ G cs μ H) {l : Addr} (hl : H l = none) (o : HO) : Grow G cs H G cs (upd H l o) ∧ RelM Γ G cs μ (upd H l o) := by
  have gp := m.freshG hl
  have np := m.fresh hl
  refine ⟨⟨.refl _, List.prefix_refl _, fun a u q _ => by rw [upd_ne (ne_of_none q hl)]; exact q, fun _ _ z => z, fun _ _ _ z => z⟩, ⟨fun b u q => by rw [upd_ne (ne_of_none q gp)]; exact m.sub _ _ q, m.len, m.nd, fun n a c' e1 e2 => ?_⟩⟩
  have na : a ≠ l := fun z => np (by rw [← z]; exact List.mem_of_getElem? e1)
  have r := m.cell n a c' e1 e2
  cases c' with
  | lst xs => obtain ⟨g, k, vs, q, r⟩ := r; exact ⟨g, k, vs, by rw [upd_ne na]; exact q, r⟩
  | dk xs => obtain ⟨g, k, vs, q, r⟩ := r; exact ⟨g, k, vs, by rw [upd_ne na]; exact q, r⟩
  | dt xs => obtain ⟨g, k, vs, q, r⟩ := r; exact ⟨g, k, vs, by rw [upd_ne na]; exact q, r⟩
  | fz d => exact r
  | ob fs => obtain ⟨g, dx, vs, q, r⟩ := r; exact ⟨g, dx, vs, by rw [upd_ne na]; exact q, r⟩
  | dv xs => obtain ⟨g, k, vs, q, r⟩ := r; exact ⟨g, k, vs, by rw [upd_ne na]; exact q, r⟩
def fVals : Sv → Mu → R Cell := fun a μ => match a with
  | .rf n => match μ[n]? with
    | some (.dk kvs) => .ok (.lst (kvs.map (·.2))) μ
    | _ => .no
  | _ => .no
theorem repk_vals {K : PySem.W.Frag} {G : Hp} : ∀ {vs : List (Key × V)} {ds : List (Key × SP.D)}, RepK K G vs ds → Reps K G (vs.map (·.2)) (ds.map (·.2))
  | _, _, .nil => .nil
  | _, _, .cons g h r => .cons h (repk_vals r)
theorem d_listVals {o : Expr} {p pos apos mpos : Pos} {f : Ev} (hc : X.calm = true) (hm : X.mg "list" = none) (ha : PE X o (wE Γ W f)) (hg : Gl X "list" := by rfl) (hbase : attributeBase o "values" X.env (eval o X.env) = eval o X.env := by rfl) (hline : (apos.endLine == mpos.line) = true := by rfl)
    (he : starEach (Expr.Call (.Attribute o "values" apos) [] [] mpos :: []) X.env = (false, eval (Expr.Call (.Attribute o "values" apos) [] [] mpos) X.env) :: starEach [] X.env := by rfl) (hpl : (backTo pos (starEach [] X.env)).any (·.1) = false := by rfl) :
    PE X (.Call (.Name "list" p) [.Call (.Attribute o "values" apos) [] [] mpos] [] pos) (wF Γ W (dOpF fVals f)) := by
  refine pe_imp (pe_callTy (cr_listV hc) hg hm PyProof.Rows.boot_list (pa_cons (pe_valsV ha hbase hline) pa_nil he) (by decide) (by decide) he hpl) fun σ H Q h => ?_
  obtain ⟨G, cs, ρ, μ, rl, po⟩ := h
  refine ⟨G, cs, ρ, μ, rl, (PostF.bind (rep := RepS Γ.K) po).imp fun x H1 ⟨G1, cs1, a, μ1, g1, m1, q1, p1⟩ => ?_⟩
  unfold fVals at p1
  split at p1
  · rename_i n
    obtain ⟨q, hq, rfl⟩ := q1
    split at p1
    · rename_i kvs hc0
      obtain ⟨gq, hlen, vs, h0, rs⟩ := m1.cell n q _ hq hc0
      refine ⟨q, vs, rfl, h0, fun l hl => ?_⟩
      have nql : q ≠ l := fun z => by rw [z, hl] at h0; cases h0
      refine ⟨l, q, vs, rfl, upd_same, by rw [upd_ne nql]; exact h0, fun l2 hl2 => ?_⟩
      obtain ⟨g2, m2⟩ := m1.aside hl (viewO "dict_values" l q)
      exact (PostF.mono p1 g2 m2).lay m2 hl2 (.lst (vs.map (·.2))) fun gp _ => ⟨gp, by rw [List.length_map]; exact hlen, _, upd_same, repk_vals rs⟩
    · exact p1.elim
  · exact p1.elim
/-! ### isinstance of a plan -/
def dIsiC (fa : Ev) : Ev := fun ρ μ => (fa ρ μ).bind fun x μ1 => match x with
  | .rf n => match μ1[n]? with
    | some (.ob _) => .ok (.im (.bl true)) μ1
    | _ => .no
  | _ => .no
theorem d_isiC {p : Pos} {e e2 : Expr} {pos : Pos} {f : Ev} (c : C8.InsC X.K Γ.C) (hm : X.mg "isinstance" = none) (ha : PE X e (wE Γ W f)) (hb : PE X e2 (tC (.ref Γ.C))) (hg : Gl X "isinstance" := by rfl)
    (he : starEach (e :: [e2]) X.env = (false, eval e X.env) :: starEach [e2] X.env := by rfl) (he2 : starEach (e2 :: []) X.env = (false, eval e2 X.env) :: starEach [] X.env := by rfl) (hpl : (backTo pos (starEach [e2] X.env)).any (·.1) = false := by rfl) :
    PE X (.Call (.Name "isinstance" p) [e, e2] [] pos) (wE Γ W (dIsiC f)) := by
  refine pe_imp (pe_callB (C8.call_isC c) hg hm PyProof.Rows.boot_isinstance (pa_cons ha (pa_cons hb pa_nil he2) he) (he := he) (hpl := hpl)) fun σ H Q h => ?_
  refine wE.of (te := wE Γ W f) (fun _ _ => rfl) h fun G cs μ v H1 a m ra p => ?_
  split at p
  · rename_i n
    obtain ⟨q, hq, rfl⟩ := ra
    split at p
    · rename_i fs hc
      obtain ⟨gq, dx, vs, h0, _⟩ := m.cell n q _ hq hc
      exact ⟨q, dx, vs, rfl, h0, p.now m (.bl _)⟩
    · exact p.elim
  · exact p.elim
end
end SP

/-! SPA3: max(l, default=d); sorted(l, reverse=True). -/
namespace L2
open PySem PySem.Spec PyProof.Rows
section
variable {X : Cx}
theorem ints_reads {h : Heap} : ∀ {vs : List Value} {ns : List Int}, IntsAre vs ns → ReadsAll h vs (ns.map PyData.int) []
  | _, _, .nil => .nil
  | _, _, .cons n t r => by
    have := ReadsAll.cons (h := h) (Reads.int n t) (ints_reads r)
    simpa using this
theorem foldl_max_spec : ∀ (ns : List Int) (a : Int), (ns.foldl max a ∈ a :: ns) ∧ ∀ y ∈ a :: ns, y ≤ ns.foldl max a
  | [], a => by simp
  | b :: r, a => by
    have ih := foldl_max_spec r (max a b)
    simp only [List.foldl_cons]
    refine ⟨?_, fun y hy => ?_⟩
    · rcases List.mem_cons.mp ih.1 with e | e
      · rw [e]
        rcases Int.le_total a b with z | z
        · rw [Int.max_eq_right z]; simp
        · rw [Int.max_eq_left z]; simp
      · exact List.mem_cons_of_mem _ (List.mem_cons_of_mem _ e)
    · have hm := ih.2 (max a b) List.mem_cons_self
      rcases List.mem_cons.mp hy with rfl | hy
      · exact Int.le_trans (Int.le_max_left _ _) hm
      · rcases List.mem_cons.mp hy with rfl | hy
        · exact Int.le_trans (Int.le_max_right _ _) hm
        · exact ih.2 y (List.mem_cons_of_mem _ hy)
theorem depth_ints : ∀ ns : List Int, PyData.depthAll (ns.map PyData.int) ≤ 2
  | [] => by simp [PyData.depthAll]
  | n :: r => by
    have := depth_ints r
    simp only [List.map_cons, PyData.depthAll]
    refine Nat.max_le.mpr ⟨?_, this⟩
    simp [PyData.depth]
theorem cr_maxDef (hc : X.calm = true) (hu : X.A.units + 64 < cLine) : CallRK X (.builtin "max") [Str.ofString "default"] (fun vs zs H Q => ∃ (a : Addr) (ns : List Int) (d : Int), vs = [.ref a] ∧ zs = [.int d] ∧ SqL X.K H a (ns.map V.int) ∧ (ns = [] → Q (.int d) H) ∧ ∀ n r, ns = n :: r → Q (.int (r.foldl max n)) H) := by
  intro pins s σ H vs zs us ws Q I r rz h
  obtain ⟨a, ns, d, rfl, rfl, hs, q0, q1⟩ := h
  obtain rfl := Vals.ref1 r
  obtain ⟨w1, rfl, e1⟩ := vals1 rz
  obtain ⟨td, rfl⟩ := e1
  obtain ⟨its, rv, hl, hz⟩ := I.list hs
  have hi := rv.ints
  have hd := depth_ints ns
  refine PySem.W.max_list_default (xs := ns.map PyData.int) (as := []) (I.ok.hd hc) hl.isList (by simpa using ints_reads hi) ⟨fun x hx y hy => ?_, fun x hx => ?_⟩ (by omega) (fun e h' tk hk => ?_) (fun y ys i v h' tk bs e hv hr hk => ?_)
  · obtain ⟨i, _, rfl⟩ := List.mem_map.mp hx
    obtain ⟨j, _, rfl⟩ := List.mem_map.mp hy
    rfl
  · obtain ⟨i, _, rfl⟩ := List.mem_map.mp hx
    exact fun z => nomatch z
  · have : ns = [] := List.map_eq_nil_iff.mp e
    exact ⟨.int d, H, I.kept hk, ⟨td, rfl⟩, q0 this⟩
  · cases ns with
    | nil => cases e
    | cons n r =>
      rw [List.map_cons] at e
      cases e
      rw [PySem.W.maxD_ints] at hr
      cases hr
      exact ⟨.int _, H, I.kept hk, ⟨_, rfl⟩, q1 n r rfl⟩
end
end L2
namespace SP
open PySem L2
section
variable {X : Cx} {Γ : Gm} {W : WX}
def gMaxD : SP.D → SP.D → Option SP.D
  | .lst xs, .int d => match asInts xs with
    | some [] => some (.int d)
    | some (a :: r) => some (.int (r.foldl max a))
    | none => none
  | _, _ => none
theorem d_maxDef {p : Pos} {e e2 : Expr} {pos kpos : Pos} {f f2 : Ev} (hc : X.calm = true) (hu : X.A.units + 64 < cLine) (hm : X.mg "max" = none) (ha : PE X e (wE Γ W f)) (hb : PE X e2 (wE Γ W f2)) (hK : X.K = Γ.K := by rfl) (hg : Gl X "max" := by rfl)
    (he : starEach (e :: []) X.env = (false, eval e X.env) :: starEach [] X.env := by rfl) (he2 : backTo pos (starEach (e :: []) X.env) = (false, eval e X.env) :: backTo pos (starEach [] X.env) := by rfl) (hpl : (backTo pos (starEach (e :: []) X.env)).any (·.1) = false := by rfl)
    (hall : (backToKw pos (keywordEach [⟨some (Str.ofString "default"), e2, kpos⟩] X.env)).all (·.1.isSome) = true := by rfl) (hnone : (backToKw pos (keywordEach [⟨some (Str.ofString "default"), e2, kpos⟩] X.env)).any (·.1.isNone) = false := by rfl) (hks : (backToKw pos (keywordEach [⟨some (Str.ofString "default"), e2, kpos⟩] X.env)).filterMap (·.1) = [Str.ofString "default"] := by rfl) :
    PE X (.Call (.Name "max" p) [e] [⟨some (Str.ofString "default"), e2, kpos⟩] pos) (wE Γ W (dOp2 (p2 gMaxD) f f2)) := by
  refine pe_imp (pe_callBK (cr_maxDef hc hu) hg hm PyProof.Rows.boot_max (pa_cons ha pa_nil he) (pk_cons hb pk_nil) (by decide) (by decide) he2 hpl hall hnone hks) fun σ H Q h => ?_
  refine wE.two (r := fun x y H Q => ∃ (a : Addr) (ns : List Int) (d : Int), [x] = [V.ref a] ∧ [y] = [V.int d] ∧ SqL X.K H a (ns.map V.int) ∧ (ns = [] → Q (.int d) H) ∧ ∀ n r, ns = n :: r → Q (.int (r.foldl max n)) H) (pr2_pure fun G H x y d e q Q s rx ry hq k => ?_) h
  unfold gMaxD at hq
  split at hq
  · rename_i xs i
    cases ry
    cases ei : asInts xs with
    | none => rw [ei] at hq; cases hq
    | some ns =>
      rw [ei] at hq
      cases rx with
      | lst h n rs =>
        have e := asInts_ok ei rs
        subst e
        refine ⟨_, ns, i, rfl, rfl, by rw [hK]; exact .of h, fun e => ?_, fun n r e => ?_⟩
        · subst e
          cases hq
          exact k _ (.int _)
        · subst e
          cases hq
          exact k _ (.int _)
  · cases hq
theorem d_sortedR {p : Pos} {e e2 : Expr} {pos kpos : Pos} {f : Ev} (hm : X.mg "sorted" = none) (ha : PE X e (wE Γ W f)) (hb : PE X e2 (tC (.bl true))) (hK : X.K = Γ.K := by rfl) (hg : Gl X "sorted" := by rfl)
    (he : starEach (e :: []) X.env = (false, eval e X.env) :: starEach [] X.env := by rfl) (he2 : backTo pos (starEach (e :: []) X.env) = (false, eval e X.env) :: backTo pos (starEach [] X.env) := by rfl) (hpl : (backTo pos (starEach (e :: []) X.env)).any (·.1) = false := by rfl)
    (hall : (backToKw pos (keywordEach [⟨some (Str.ofString "reverse"), e2, kpos⟩] X.env)).all (·.1.isSome) = true := by rfl) (hnone : (backToKw pos (keywordEach [⟨some (Str.ofString "reverse"), e2, kpos⟩] X.env)).any (·.1.isNone) = false := by rfl) (hks : (backToKw pos (keywordEach [⟨some (Str.ofString "reverse"), e2, kpos⟩] X.env)).filterMap (·.1) = [Str.ofString "reverse"] := by rfl) :
    PE X (.Call (.Name "sorted" p) [e] [⟨some (Str.ofString "reverse"), e2, kpos⟩] pos) (wF Γ W (dOpF fSortedR f)) := by
  refine pe_imp (pe_callBK (cr_sortedRev (b := true)) hg hm (by decide +kernel) (pa_cons ha pa_nil he) (pk_cons hb pk_nil) (by decide) (by decide) he2 hpl hall hnone hks) fun σ H Q h => ?_
  exact wF.of (fun _ _ => rfl) h fun G cs μ v H1 a m ra p => pr_sortedR hK _ G cs μ H1 v a Q m ra p
/-! ### part of a tuple -/
def gSlT (d : SP.D) (lo hi : Option Int) : Option SP.D := match d with
  | .tup xs => if HT.sIx xs.length 0 lo = 0 ∧ HT.sIx xs.length xs.length hi = xs.length then none else some (.tup ((xs.drop (HT.sIx xs.length 0 lo)).take (HT.sIx xs.length xs.length hi - HT.sIx xs.length 0 lo)))
  | _ => none
def dSlT (fa : Ev) (lo hi : Option Ev) : Ev := fun ρ μ => (fa ρ μ).bind fun a μ1 => (dPart lo ρ μ1).bind fun l μ2 => (dPart hi ρ μ2).bind fun h μ3 => match look μ3 a with
  | some d => match gSlT d l h with
    | some r => .ok (.im r) μ3
    | none => .no
  | none => .no
theorem d_slT {e : Expr} {lo hi : Option Expr} {p2 pos : Pos} {f : Ev} {l h : Option Ev} (he : PE X e (wE Γ W f)) (hl : PO X lo (wO Γ W l)) (hh : PO X hi (wO Γ W h)) (hK : X.K = Γ.K := by rfl) : PE X (.Subscript e (.Slice lo hi none p2) pos) (wE Γ W (dSlT f l h)) := by
  refine pe_imp (pe_slice sl_tup he hl hh) fun σ H Q w => ?_
  obtain ⟨G, cs, ρ, μ, rl, po⟩ := w
  refine ⟨G, cs, ρ, μ, rl, (Post.bind (rep := RepS Γ.K) po).imp fun x H1 ⟨G1, cs1, a, μ1, g1, m1, q1, p1⟩ => ?_⟩
  refine ⟨G1, cs1, ρ, μ1, rl.grow g1 m1, (Post.bind (rep := fun _ _ b c => b = c) p1).imp fun lv H2 ⟨G2, cs2, l2, μ2, g2, m2, q2, p2⟩ => ?_⟩
  subst q2
  have rl2 := (rl.grow g1 m1).grow g2 m2
  refine ⟨G2, cs2, ρ, μ2, rl2, (Post.bind (rep := fun _ _ b c => b = c) p2).imp fun hv H3 ⟨G3, cs3, h3, μ3, g3, m3, q3, p3⟩ => ?_⟩
  subst q3
  have q1' := (q1.mono g2.ex g2.pre).mono g3.ex g3.pre
  split at p3
  · rename_i d hd
    split at p3
    · rename_i r hr
      have rd := look_L m3 q1' hd
      unfold gSlT at hr
      split at hr
      · rename_i xs
        split at hr
        · cases hr
        · rename_i hw
          cases hr
          cases rd with
          | @tup _ vs _ ha na rs =>
            refine ⟨_, _, rfl, by rw [hK]; exact .of ha, by rw [rs.length]; exact hw, fun l hl' => ?_⟩
            have key : Reps Γ.K G3 (cutV vs lv hv) ((xs.drop (HT.sIx xs.length 0 lv)).take (HT.sIx xs.length xs.length hv - HT.sIx xs.length 0 lv)) := by
              unfold cutV
              rw [rs.length]
              exact (rs.drop _).take _
            obtain ⟨g, m'⟩ := m3.imm hl' (.tup (cutV vs lv hv))
            refine p3.at g m' (.tup upd_same ?_ (key.mono g.ex))
            simp only [List.length_take, List.length_drop]; omega
      · cases hr
    · exact p3.elim
  · exact p3.elim
/-! ### [e for x in range(a, b) if t] -/
def dLcR2 (i : Nat) (f g : Ev) (t : EvT) (e : Ev) : EvF := fun ρ μ => (f ρ μ).bind fun v μ1 => match v with
  | .im (.int a) => (g ρ μ1).bind fun w μ2 => match w with
    | .im (.int b) => if in62 a && in62 b && decide ((b - a).toNat ≤ maxN) then lcEnd (lcL i t e (rangeD a (b - a).toNat) (ρ.set i none) μ2) else .no
    | _ => .no
  | _ => .no
theorem wF.rng2 {f g : Ev} {i : Nat} {t : EvT} {el : Ev} {σ : L2.St} {H : Hp} {Q : VK} (h : wF Γ W (dLcR2 i f g t el) σ H Q) : tLc (iRng2 (tCons (wE Γ W f) (tCons (wE Γ W g) tNil))) (gName i) (wT Γ W0 t) (wE Γ W0 el) [i] σ H Q := by
  obtain ⟨G0, cs0, ρ, μ0, rl, po⟩ := h
  show wE Γ W f σ H _
  refine ⟨G0, cs0, ρ, μ0, rl, (PostF.bind (rep := RepS Γ.K) po).imp fun v H1 ⟨G1, cs1, a, μ1, g1, m1, q1, p1⟩ => ?_⟩
  have rl1 := rl.grow g1 m1
  split at p1
  · rename_i n
    have q1 : Rep Γ.K G1 v (.int n) := q1
    cases q1
    show wE Γ W g σ H1 _
    refine ⟨G1, cs1, ρ, μ1, rl1, (PostF.bind (rep := RepS Γ.K) p1).imp fun w H2 ⟨G2, cs2, b, μ2, g2, m2, q2, p2⟩ => ?_⟩
    have rl2 := rl1.grow g2 m2
    split at p2
    · rename_i k
      have q2 : Rep Γ.K G2 w (.int k) := q2
      cases q2
      split at p2
      · rename_i hn
        simp only [Bool.and_eq_true, decide_eq_true_eq] at hn
        obtain ⟨h1, h2⟩ := in62_ok hn.1.1
        obtain ⟨h3, h4⟩ := in62_ok hn.1.2
        refine ⟨n, k, rfl, ⟨h1, h2, h3, h4⟩, fun P hP => ?_⟩
        refine lc_range (lo := n) (n := (k - n).toNat) (fun j H => LcI Γ (wX Γ W σ) P i t el (ρ.set i none) G2 cs2 H2 Q ((rangeD n (k - n).toNat).drop j) j H) (by simpa using LcI.start m2 hP p2) (fun j H hk h => ?_) (fun H h => ?_)
        · rw [range_drop hk] at h
          exact lc_turn hP (Nat.lt_of_lt_of_le hk hn.2) h (rl2.set0 i).s rl2.l fun G e => .int _
        · rw [List.drop_eq_nil_of_le (by simp [rangeD])] at h
          exact h.done hP hn.2
      · exact p2.elim
    · exact p2.elim
  · exact p1.elim
theorem d_lcR2 {elt a a2 : Expr} {ifs : List Expr} {scope : Scope} {i : Nat} {x : Str} {xp pos p rp : Pos} {f g : Ev} {t : EvT} {el : Ev} (hc : X.calm = true) (hN : X.N.Nodup) (hgr : Gl X "range") (hm : X.mg "range" = none) (hi : PE X a (wE Γ W f)) (hi2 : PE X a2 (wE Γ W g)) (ok : BlkOk X.N X.env.scope scope [(x, i)])
    (hg : ∀ (s : Shared) (H : Hp) (C : Addr) (cl : List (Str × Addr)) (fp : List Addr), PG (X.blk s H scope (compEnvC scope cl C X.env) fp) (.Name x xp) (gName i)) (ht : ∀ (s : Shared) (H : Hp) (C : Addr) (cl : List (Str × Addr)) (fp : List Addr), PTs (X.blk s H scope (compEnvC scope cl C X.env) fp) ifs (wT Γ W0 t))
    (he : ∀ (s : Shared) (H : Hp) (C : Addr) (cl : List (Str × Addr)) (fp : List Addr), PE (X.blk s H scope (compEnvC scope cl C X.env) fp) elt (wE Γ W0 el)) (hs1 : starEach [a, a2] X.env = [(false, eval a X.env), (false, eval a2 X.env)] := by rfl) (hs2 : starEach [a2] X.env = [(false, eval a2 X.env)] := by rfl) (hs : ∀ x, foldedSetIterable (.Call (.Name "range" p) [a, a2] [] rp) X.env x = pure x := by intro _; rfl) :
    PE X (.ListComp elt [⟨.Name x xp, .Call (.Name "range" p) [a, a2] [] rp, ifs, 0⟩] scope pos) (wF Γ W (dLcR2 i f g t el)) :=
  pe_imp (pe_lc hc hN (pi_range2 hgr hm (pa_cons hi (pa_cons hi2 pa_nil hs2) (by rw [hs1, hs2])) (hs := hs1) (hs2 := hs2)) ok hg ht he hs) fun σ H Q h => wF.rng2 h
end
end SP

/-! SPz: the end. -/
namespace SP
open PySem L2
def fuel : Nat := 5000
/-- what is known of an own class of errors, without own methods -/
structure Xc (K : PySem.W.Frag) (mg : Str → Option Value) (x : Str) (C : Addr) : Prop where
  g : mg x = some (.ref C)
  q : PySem.W.excIn K C [.type "ValueError", .type "Exception", .type "BaseException", .type "object"] "ValueError.__new__" = true
  k : PySem.W.keepIn K (.ref C) = true
  b : PySem.W.subIn K (.ref C) (.type "BaseException") = some true
  t : PySem.W.typeIn K (.ref C) = some (.type "type")
/-- law's: a list of at most 63 ints is handed in, True comes out -/
def spLaw (K : PySem.W.Frag) : Sp := fun vs H Q _ => ∃ (a : Addr) (ns : List Int), vs = [.ref a] ∧ SqL K H a (ns.map V.int) ∧ ns.length ≤ 63 ∧ ∀ H', Q (.bl true) H'
theorem sp_law {Γ : Gm} {F : List Sv → Mu → R Sv} {vs : List V} {H : Hp} {Q : VK} {E : XK} (h : spLaw Γ.K vs H Q E) (t : ∀ ns : List Int, ns.length ≤ 63 → ∃ μ, F [.im (.scr ns)] [] = .ok (.im (.bl true)) μ) : spOf Γ 1 F vs H Q E := by
  obtain ⟨a, ns, rfl, hS, hl, k⟩ := h
  obtain ⟨μ, e⟩ := t ns hl
  refine ⟨rfl, H, [], [.im (.scr ns)], [], ⟨.refl _, rfl, List.nodup_nil, fun n a c e1 _ => by simp at e1⟩, .cons (Rep.scr hS (Nat.le_trans hl (by decide))) .nil, ?_⟩
  rw [e]
  intro G' cs' H' v _ _ r
  have r : Rep Γ.K G' v (.bl true) := r
  cases r
  exact k _
end SP

/-! SPm: reckoning with the evaluators. -/
namespace SP
open PySem L2
/-! ### the combinators' equations: the first part is reckoned, the rest stands still until it is its turn -/
def O.seq (g : EvS) : O → O
  | .nx ρ μ => g ρ μ
  | .rt v μ => .rt v μ
  | .bk ρ μ => .bk ρ μ
  | .ct ρ μ => .ct ρ μ
  | .ex c ρ μ => .ex c ρ μ
  | .no => .no
@[simp] theorem sSeq_eq (f g : EvS) (ρ : Rho) (μ : Mu) : sSeq f g ρ μ = (f ρ μ).seq g := by unfold sSeq; cases f ρ μ <;> rfl
@[simp] theorem seq_nx (g : EvS) (ρ : Rho) (μ : Mu) : (O.nx ρ μ).seq g = g ρ μ := rfl
@[simp] theorem seq_rt (g : EvS) (v : Sv) (μ : Mu) : (O.rt v μ).seq g = .rt v μ := rfl
@[simp] theorem seq_bk (g : EvS) (ρ : Rho) (μ : Mu) : (O.bk ρ μ).seq g = .bk ρ μ := rfl
@[simp] theorem seq_ct (g : EvS) (ρ : Rho) (μ : Mu) : (O.ct ρ μ).seq g = .ct ρ μ := rfl
@[simp] theorem seq_ex (g : EvS) (c : Xn) (ρ : Rho) (μ : Mu) : (O.ex c ρ μ).seq g = .ex c ρ μ := rfl
@[simp] theorem seq_no (g : EvS) : O.no.seq g = .no := rfl
@[simp] theorem sNext_eq (ρ : Rho) (μ : Mu) : sNext ρ μ = .nx ρ μ := rfl
@[simp] theorem sRaise_eq (c : Xn) (ρ : Rho) (μ : Mu) : sRaise c ρ μ = .ex c ρ μ := rfl
@[simp] theorem dC_eq (d : D) (ρ : Rho) (μ : Mu) : dC d ρ μ = .ok (.im d) μ := rfl
@[simp] theorem dANil_eq (ρ : Rho) (μ : Mu) : dANil ρ μ = .ok [] μ := rfl
@[simp] theorem dYes_eq (ρ : Rho) (μ : Mu) : dYes ρ μ = .ok true μ := rfl
@[simp] theorem dDk_eq (ρ : Rho) (μ : Mu) : dDk ρ μ = .ok (.dk []) μ := rfl
@[simp] theorem dDt_eq (ρ : Rho) (μ : Mu) : dDt ρ μ = .ok (.dt []) μ := rfl
@[simp] theorem bind_ok {α β : Type} (a : α) (μ : Mu) (k : α → Mu → R β) : (R.ok a μ).bind k = k a μ := rfl
@[simp] theorem bind_ex {α β : Type} (c : Xn) (μ : Mu) (k : α → Mu → R β) : (R.ex c μ).bind k = .ex c μ := rfl
@[simp] theorem bind_no {α β : Type} (k : α → Mu → R β) : R.no.bind k = .no := rfl
@[simp] theorem quiet_ok {α : Type} (a : α) (μ : Mu) : (R.ok a μ).quiet = .ok a μ := rfl
def rv (μ : Mu) : Option (Option Sv) → R Sv
  | some (some v) => .ok v μ
  | _ => .no
@[simp] theorem dVar_eq (i : Nat) (ρ : Rho) (μ : Mu) : dVar i ρ μ = rv μ ρ[i]? := rfl
@[simp] theorem rv_ok (μ : Mu) (v : Sv) : rv μ (some (some v)) = .ok v μ := rfl

def R.asg (i : Nat) (ρ : Rho) : R Sv → O
  | .ok v μ => .nx (ρ.set i (some v)) μ
  | .ex c μ => .ex c ρ μ
  | .no => .no
@[simp] theorem sAsg_eq (i : Nat) (f : Ev) (ρ : Rho) (μ : Mu) : sAsg i f ρ μ = (f ρ μ).asg i ρ := by unfold sAsg sE; cases f ρ μ <;> rfl
@[simp] theorem asg_ok (i : Nat) (ρ : Rho) (v : Sv) (μ : Mu) : (R.ok v μ).asg i ρ = .nx (ρ.set i (some v)) μ := rfl
@[simp] theorem asg_ex (i : Nat) (ρ : Rho) (c : Xn) (μ : Mu) : (R.ex c μ).asg i ρ = .ex c ρ μ := rfl
def R.drp (ρ : Rho) : R Sv → O
  | .ok v μ => .nx ρ μ
  | .ex c μ => .ex c ρ μ
  | .no => .no
@[simp] theorem sDrop_eq (f : Ev) (ρ : Rho) (μ : Mu) : sDrop f ρ μ = (f ρ μ).drp ρ := by unfold sDrop sE; cases f ρ μ <;> rfl
@[simp] theorem drp_ok (ρ : Rho) (v : Sv) (μ : Mu) : (R.ok v μ).drp ρ = .nx ρ μ := rfl
@[simp] theorem drp_ex (ρ : Rho) (c : Xn) (μ : Mu) : (R.ex c μ).drp ρ = .ex c ρ μ := rfl
def R.ret (ρ : Rho) : R Sv → O
  | .ok v μ => .rt v μ
  | .ex c μ => .ex c ρ μ
  | .no => .no
@[simp] theorem sRet_eq (f : Ev) (ρ : Rho) (μ : Mu) : sRet f ρ μ = (f ρ μ).ret ρ := by unfold sRet sE; cases f ρ μ <;> rfl
@[simp] theorem ret_ok (ρ : Rho) (v : Sv) (μ : Mu) : (R.ok v μ).ret ρ = .rt v μ := rfl
@[simp] theorem ret_ex (ρ : Rho) (c : Xn) (μ : Mu) : (R.ex c μ).ret ρ = .ex c ρ μ := rfl
@[simp] theorem sRetN_eq (ρ : Rho) (μ : Mu) : sRetN ρ μ = .rt (.im .non) μ := rfl
def R.iff (f g : EvS) (ρ : Rho) : R Bool → O
  | .ok b μ => if b then f ρ μ else g ρ μ
  | .ex c μ => .ex c ρ μ
  | .no => .no
@[simp] theorem sIf_eq (c : EvT) (f g : EvS) (ρ : Rho) (μ : Mu) : sIf c f g ρ μ = (c ρ μ).iff f g ρ := by unfold sIf; cases c ρ μ <;> rfl
@[simp] theorem iff_true (f g : EvS) (ρ : Rho) (μ : Mu) : (R.ok true μ).iff f g ρ = f ρ μ := rfl
@[simp] theorem iff_false (f g : EvS) (ρ : Rho) (μ : Mu) : (R.ok false μ).iff f g ρ = g ρ μ := rfl
@[simp] theorem iff_ok (f g : EvS) (ρ : Rho) (b : Bool) (μ : Mu) : (R.ok b μ).iff f g ρ = if b = true then f ρ μ else g ρ μ := rfl
@[simp] theorem iff_ex (f g : EvS) (ρ : Rho) (c : Xn) (μ : Mu) : (R.ex c μ).iff f g ρ = .ex c ρ μ := rfl
@[simp] theorem dOp1_eq (p : Sv → Mu → R Sv) (f : Ev) (ρ : Rho) (μ : Mu) : dOp1 p f ρ μ = (f ρ μ).bind p := rfl
@[simp] theorem dOpF_eq (p : Sv → Mu → R Cell) (f : Ev) (ρ : Rho) (μ : Mu) : dOpF p f ρ μ = (f ρ μ).bind p := rfl
def R.k2 (p : Sv → Sv → Mu → R Sv) (fb : Ev) (ρ : Rho) : R Sv → R Sv
  | .ok a μ => (fb ρ μ).bind (p a)
  | .ex c μ => .ex c μ
  | .no => .no
@[simp] theorem dOp2_eq (p : Sv → Sv → Mu → R Sv) (fa fb : Ev) (ρ : Rho) (μ : Mu) : dOp2 p fa fb ρ μ = (fa ρ μ).k2 p fb ρ := by unfold dOp2; cases fa ρ μ <;> rfl
@[simp] theorem k2_ok (p : Sv → Sv → Mu → R Sv) (fb : Ev) (ρ : Rho) (a : Sv) (μ : Mu) : (R.ok a μ).k2 p fb ρ = (fb ρ μ).bind (p a) := rfl
@[simp] theorem k2_ex (p : Sv → Sv → Mu → R Sv) (fb : Ev) (ρ : Rho) (c : Xn) (μ : Mu) : (R.ex c μ).k2 p fb ρ = .ex c μ := rfl
def R.tst : R Sv → R Bool
  | .ok (.im (.bl b)) μ => .ok b μ
  | .ex c μ => .ex c μ
  | _ => .no
@[simp] theorem dTest_eq (f : Ev) (ρ : Rho) (μ : Mu) : dTest f ρ μ = (f ρ μ).tst := by
  unfold dTest
  cases f ρ μ with
  | ok v μ1 =>
    cases v with
    | im d => cases d <;> rfl
    | rf n => rfl
  | ex c μ1 => rfl
  | no => rfl
@[simp] theorem tst_ok (b : Bool) (μ : Mu) : (R.ok (.im (.bl b)) μ).tst = .ok b μ := rfl
@[simp] theorem tst_ex (c : Xn) (μ : Mu) : (R.ex c μ : R Sv).tst = .ex c μ := rfl
def R.andT (g : EvT) (ρ : Rho) : R Bool → R Bool
  | .ok b μ => if b then g ρ μ else .ok false μ
  | .ex c μ => .ex c μ
  | .no => .no
@[simp] theorem dAndT_eq (f g : EvT) (ρ : Rho) (μ : Mu) : dAndT f g ρ μ = (f ρ μ).andT g ρ := by unfold dAndT; cases f ρ μ <;> rfl
@[simp] theorem andT_true (g : EvT) (ρ : Rho) (μ : Mu) : (R.ok true μ).andT g ρ = g ρ μ := rfl
@[simp] theorem andT_false (g : EvT) (ρ : Rho) (μ : Mu) : (R.ok false μ).andT g ρ = .ok false μ := rfl
@[simp] theorem andT_ok (g : EvT) (ρ : Rho) (b : Bool) (μ : Mu) : (R.ok b μ).andT g ρ = if b = true then g ρ μ else .ok false μ := rfl
def R.orT (g : EvT) (ρ : Rho) : R Bool → R Bool
  | .ok b μ => if b then .ok true μ else g ρ μ
  | .ex c μ => .ex c μ
  | .no => .no
@[simp] theorem dOrT_eq (f g : EvT) (ρ : Rho) (μ : Mu) : dOrT f g ρ μ = (f ρ μ).orT g ρ := by unfold dOrT; cases f ρ μ <;> rfl
@[simp] theorem orT_true (g : EvT) (ρ : Rho) (μ : Mu) : (R.ok true μ).orT g ρ = .ok true μ := rfl
@[simp] theorem orT_false (g : EvT) (ρ : Rho) (μ : Mu) : (R.ok false μ).orT g ρ = g ρ μ := rfl
@[simp] theorem orT_ok (g : EvT) (ρ : Rho) (b : Bool) (μ : Mu) : (R.ok b μ).orT g ρ = if b = true then .ok true μ else g ρ μ := rfl
def R.notT : R Bool → R Bool
  | .ok b μ => .ok (!b) μ
  | .ex c μ => .ex c μ
  | .no => .no
@[simp] theorem dNotT_eq (f : EvT) (ρ : Rho) (μ : Mu) : dNotT f ρ μ = (f ρ μ).notT := by unfold dNotT; cases f ρ μ <;> rfl
@[simp] theorem notT_ok (b : Bool) (μ : Mu) : (R.ok b μ).notT = .ok (!b) μ := rfl
def R.andV (g : Ev) (ρ : Rho) : R Sv → R Sv
  | .ok (.im (.bl true)) μ => g ρ μ
  | .ok (.im (.bl false)) μ => .ok (.im (.bl false)) μ
  | .ex c μ => .ex c μ
  | _ => .no
@[simp] theorem dAnd_eq (f g : Ev) (ρ : Rho) (μ : Mu) : dAnd f g ρ μ = (f ρ μ).andV g ρ := by
  unfold dAnd
  cases f ρ μ with
  | ok v μ1 =>
    cases v with
    | im d => cases d <;> first | rfl | (rename_i b; cases b <;> rfl)
    | rf n => rfl
  | ex c μ1 => rfl
  | no => rfl
@[simp] theorem andV_true (g : Ev) (ρ : Rho) (μ : Mu) : (R.ok (.im (.bl true)) μ).andV g ρ = g ρ μ := rfl
@[simp] theorem andV_false (g : Ev) (ρ : Rho) (μ : Mu) : (R.ok (.im (.bl false)) μ).andV g ρ = .ok (.im (.bl false)) μ := rfl
@[simp] theorem andV_ok (g : Ev) (ρ : Rho) (b : Bool) (μ : Mu) : (R.ok (.im (.bl b)) μ).andV g ρ = if b = true then g ρ μ else .ok (.im (.bl false)) μ := by cases b <;> rfl
def R.orV (g : Ev) (ρ : Rho) : R Sv → R Sv
  | .ok (.im (.bl false)) μ => g ρ μ
  | .ok (.im (.bl true)) μ => .ok (.im (.bl true)) μ
  | .ex c μ => .ex c μ
  | _ => .no
@[simp] theorem dOr_eq (f g : Ev) (ρ : Rho) (μ : Mu) : dOr f g ρ μ = (f ρ μ).orV g ρ := by
  unfold dOr
  cases f ρ μ with
  | ok v μ1 =>
    cases v with
    | im d => cases d <;> first | rfl | (rename_i b; cases b <;> rfl)
    | rf n => rfl
  | ex c μ1 => rfl
  | no => rfl
@[simp] theorem orV_true (g : Ev) (ρ : Rho) (μ : Mu) : (R.ok (.im (.bl true)) μ).orV g ρ = .ok (.im (.bl true)) μ := rfl
@[simp] theorem orV_false (g : Ev) (ρ : Rho) (μ : Mu) : (R.ok (.im (.bl false)) μ).orV g ρ = g ρ μ := rfl
@[simp] theorem orV_ok (g : Ev) (ρ : Rho) (b : Bool) (μ : Mu) : (R.ok (.im (.bl b)) μ).orV g ρ = if b = true then .ok (.im (.bl true)) μ else g ρ μ := by cases b <;> rfl
def R.ife (f g : Ev) (ρ : Rho) : R Bool → R Sv
  | .ok b μ => if b then f ρ μ else g ρ μ
  | .ex c μ => .ex c μ
  | .no => .no
@[simp] theorem dIfE_eq (c : EvT) (f g : Ev) (ρ : Rho) (μ : Mu) : dIfE c f g ρ μ = (c ρ μ).ife f g ρ := by unfold dIfE; cases c ρ μ <;> rfl
@[simp] theorem ife_true (f g : Ev) (ρ : Rho) (μ : Mu) : (R.ok true μ).ife f g ρ = f ρ μ := rfl
@[simp] theorem ife_false (f g : Ev) (ρ : Rho) (μ : Mu) : (R.ok false μ).ife f g ρ = g ρ μ := rfl
def R.cns (v : Sv) : R (List Sv) → R (List Sv)
  | .ok vs μ => .ok (v :: vs) μ
  | .ex c μ => .ex c μ
  | .no => .no
def R.ac (g : EvA) (ρ : Rho) : R Sv → R (List Sv)
  | .ok v μ => (g ρ μ).cns v
  | .ex c μ => .ex c μ
  | .no => .no
@[simp] theorem dACons_eq (f : Ev) (g : EvA) (ρ : Rho) (μ : Mu) : dACons f g ρ μ = (f ρ μ).ac g ρ := by
  unfold dACons
  cases f ρ μ with
  | ok v μ1 =>
    show ((g ρ μ1).bind fun vs μ2 => .ok (v :: vs) μ2) = (g ρ μ1).cns v
    cases g ρ μ1 <;> rfl
  | ex c μ1 => rfl
  | no => rfl
@[simp] theorem ac_ok (g : EvA) (ρ : Rho) (v : Sv) (μ : Mu) : (R.ok v μ).ac g ρ = (g ρ μ).cns v := rfl
@[simp] theorem ac_ex (g : EvA) (ρ : Rho) (c : Xn) (μ : Mu) : (R.ex c μ).ac g ρ = .ex c μ := rfl
@[simp] theorem cns_ok (v : Sv) (vs : List Sv) (μ : Mu) : (R.ok vs μ).cns v = .ok (v :: vs) μ := rfl
@[simp] theorem cns_ex (v : Sv) (c : Xn) (μ : Mu) : (R.ex c μ).cns v = .ex c μ := rfl
@[simp] theorem dCall_eq (F : List Sv → Mu → R Sv) (g : EvA) (ρ : Rho) (μ : Mu) : dCall F g ρ μ = (g ρ μ).bind F := rfl
@[simp] theorem datas_nil : datas [] = some [] := rfl
@[simp] theorem datas_cons (d : D) (r : List Sv) : datas (.im d :: r) = (datas r).map (d :: ·) := rfl
def tupD (μ : Mu) : Option (List D) → R Sv
  | some ds => if ds.length ≤ maxN then .ok (.im (.tup ds)) μ else .no
  | none => .no
def R.tupl : R (List Sv) → R Sv
  | .ok vs μ => tupD μ (datas vs)
  | .ex c μ => .ex c μ
  | .no => .no
@[simp] theorem dTup_eq (g : EvA) (ρ : Rho) (μ : Mu) : dTup g ρ μ = (g ρ μ).tupl := by
  unfold dTup
  cases g ρ μ with
  | ok vs μ1 => show (match datas vs with | some ds => _ | none => _) = tupD μ1 (datas vs); cases datas vs <;> rfl
  | ex c μ1 => rfl
  | no => rfl
@[simp] theorem tupl_ok (vs : List Sv) (μ : Mu) : (R.ok vs μ).tupl = tupD μ (datas vs) := rfl
@[simp] theorem tupD_ok (ds : List D) (μ : Mu) : tupD μ (some ds) = if ds.length ≤ maxN then .ok (.im (.tup ds)) μ else .no := rfl
def lstD (μ : Mu) : Option (List D) → R Cell
  | some ds => if ds.length ≤ maxN then .ok (.lst ds) μ else .no
  | none => .no
def R.lstl : R (List Sv) → R Cell
  | .ok vs μ => lstD μ (datas vs)
  | .ex c μ => .ex c μ
  | .no => .no
@[simp] theorem dLst_eq (g : EvA) (ρ : Rho) (μ : Mu) : dLst g ρ μ = (g ρ μ).lstl := by
  unfold dLst
  cases g ρ μ with
  | ok vs μ1 => show (match datas vs with | some ds => _ | none => _) = lstD μ1 (datas vs); cases datas vs <;> rfl
  | ex c μ1 => rfl
  | no => rfl
@[simp] theorem lstl_ok (vs : List Sv) (μ : Mu) : (R.ok vs μ).lstl = lstD μ (datas vs) := rfl
@[simp] theorem lstD_ok (ds : List D) (μ : Mu) : lstD μ (some ds) = if ds.length ≤ maxN then .ok (.lst ds) μ else .no := rfl
@[simp] theorem small_nat (n : Nat) (h : n ≤ 1000 := by decide) : n ≤ maxN := Nat.le_trans h (by decide)
@[simp] theorem maxN_0 : (0 ≤ maxN) = True := by simp
@[simp] theorem maxN_1 : (1 ≤ maxN) = True := by simp [maxN]
@[simp] theorem maxN_2 : (2 ≤ maxN) = True := by simp [maxN]
@[simp] theorem maxN_3 : (3 ≤ maxN) = True := by simp [maxN]
@[simp] theorem maxN_4 : (4 ≤ maxN) = True := by simp [maxN]
def immD (μ : Mu) : Option D → R Sv
  | some d => .ok (.im d) μ
  | none => .no
def R.imm : R Cell → R Sv
  | .ok c μ => immD μ c.dat
  | .ex c μ => .ex c μ
  | .no => .no
@[simp] theorem dI_eq (f : EvF) (ρ : Rho) (μ : Mu) : dI f ρ μ = (f ρ μ).imm := by
  unfold dI
  cases f ρ μ with
  | ok c μ1 => show (match c.dat with | some d => _ | none => _) = immD μ1 c.dat; cases c.dat <;> rfl
  | ex c μ1 => rfl
  | no => rfl
@[simp] theorem imm_ok (c : Cell) (μ : Mu) : (R.ok c μ).imm = immD μ c.dat := rfl
@[simp] theorem imm_ex (c : Xn) (μ : Mu) : (R.ex c μ).imm = .ex c μ := rfl
@[simp] theorem immD_ok (d : D) (μ : Mu) : immD μ (some d) = .ok (.im d) μ := rfl
@[simp] theorem dat_lst (xs : List D) : Cell.dat (.lst xs) = some (.lst xs) := rfl
@[simp] theorem dat_dk (xs : List (Key × D)) : Cell.dat (.dk xs) = some (.dk xs) := rfl
@[simp] theorem dat_dt (xs : List (List Key × D)) : Cell.dat (.dt xs) = some (.dt xs) := rfl
def R.new : R Cell → R Sv
  | .ok c μ => .ok (.rf μ.length) (μ ++ [c])
  | .ex c μ => .ex c μ
  | .no => .no
@[simp] theorem dN_eq (f : EvF) (ρ : Rho) (μ : Mu) : dN f ρ μ = (f ρ μ).new := by unfold dN; cases f ρ μ <;> rfl
@[simp] theorem new_ok (c : Cell) (μ : Mu) : (R.ok c μ).new = .ok (.rf μ.length) (μ ++ [c]) := rfl
def fzO : Option (D × Mu) → R Sv
  | some p => .ok (.im p.1) p.2
  | none => .no
def R.fzz : R Sv → R Sv
  | .ok v μ => fzO (frz μ v)
  | .ex c μ => .ex c μ
  | .no => .no
@[simp] theorem dV_eq (f : Ev) (ρ : Rho) (μ : Mu) : dV f ρ μ = (f ρ μ).fzz := by
  unfold dV
  cases f ρ μ with
  | ok v μ1 => show (match frz μ1 v with | some (d, μ2) => _ | none => _) = fzO (frz μ1 v); cases frz μ1 v <;> rfl
  | ex c μ1 => rfl
  | no => rfl
@[simp] theorem fzz_ok (v : Sv) (μ : Mu) : (R.ok v μ).fzz = fzO (frz μ v) := rfl
@[simp] theorem fzz_ex (c : Xn) (μ : Mu) : (R.ex c μ).fzz = .ex c μ := rfl
@[simp] theorem fzO_ok (d : D) (μ : Mu) : fzO (some (d, μ)) = .ok (.im d) μ := rfl
def frzC (μ : Mu) (n : Nat) : Option Cell → Option (D × Mu)
  | some (.lst xs) => some (.lst xs, μ.set n (.fz (.lst xs)))
  | some (.dk k) => some (.dk k, μ.set n (.fz (.dk k)))
  | some (.dt k) => some (.dt k, μ.set n (.fz (.dt k)))
  | some (.fz d) => some (d, μ)
  | _ => none
@[simp] theorem frz_rf (μ : Mu) (n : Nat) : frz μ (.rf n) = frzC μ n μ[n]? := by
  show (match μ[n]? with
    | some (.lst xs) => some (D.lst xs, μ.set n (.fz (.lst xs)))
    | some (.dk k) => some (D.dk k, μ.set n (.fz (.dk k)))
    | some (.dt k) => some (D.dt k, μ.set n (.fz (.dt k)))
    | some (.fz d) => some (d, μ)
    | _ => none) = frzC μ n μ[n]?
  cases h : μ[n]? with
  | none => rfl
  | some c => cases c <;> rfl
@[simp] theorem frzC_lst (μ : Mu) (n : Nat) (xs : List D) : frzC μ n (some (.lst xs)) = some (.lst xs, μ.set n (.fz (.lst xs))) := rfl
@[simp] theorem frzC_dk (μ : Mu) (n : Nat) (xs : List (Key × D)) : frzC μ n (some (.dk xs)) = some (.dk xs, μ.set n (.fz (.dk xs))) := rfl
@[simp] theorem frzC_dt (μ : Mu) (n : Nat) (xs : List (List Key × D)) : frzC μ n (some (.dt xs)) = some (.dt xs, μ.set n (.fz (.dt xs))) := rfl
@[simp] theorem frzC_fz (μ : Mu) (n : Nat) (d : D) : frzC μ n (some (.fz d)) = some (d, μ) := rfl
def lookC : Option Cell → Option D
  | some (.lst xs) => some (.lst xs)
  | some (.dk k) => some (.dk k)
  | some (.dt k) => some (.dt k)
  | some (.fz d) => some d
  | _ => none
@[simp] theorem look_rf (μ : Mu) (n : Nat) : look μ (.rf n) = lookC μ[n]? := by
  show (match μ[n]? with
    | some (.lst xs) => some (D.lst xs)
    | some (.dk k) => some (D.dk k)
    | some (.dt k) => some (D.dt k)
    | some (.fz d) => some d
    | _ => none) = lookC μ[n]?
  cases h : μ[n]? with
  | none => rfl
  | some c => cases c <;> rfl
@[simp] theorem lookC_lst (xs : List D) : lookC (some (.lst xs)) = some (.lst xs) := rfl
@[simp] theorem lookC_dk (xs : List (Key × D)) : lookC (some (.dk xs)) = some (.dk xs) := rfl
@[simp] theorem lookC_dt (xs : List (List Key × D)) : lookC (some (.dt xs)) = some (.dt xs) := rfl
@[simp] theorem lookC_fz (d : D) : lookC (some (.fz d)) = some d := rfl
@[simp] theorem look_im (μ : Mu) (d : D) : look μ (.im d) = some d := rfl
@[simp] theorem frz_im (μ : Mu) (d : D) : frz μ (.im d) = some (d, μ) := rfl
def ofO (μ : Mu) : Option D → R Sv
  | some r => .ok (.im r) μ
  | none => .no
@[simp] theorem ofO_ok (μ : Mu) (d : D) : ofO μ (some d) = .ok (.im d) μ := rfl
def lk1 (g : D → Option D) (μ : Mu) : Option D → R Sv
  | some d => ofO μ (g d)
  | none => .no
@[simp] theorem p1_eq (g : D → Option D) (a : Sv) (μ : Mu) : p1 g a μ = lk1 g μ (look μ a) := by
  unfold p1
  cases look μ a with
  | none => rfl
  | some d => show (match g d with | some r => _ | none => _) = ofO μ (g d); cases g d <;> rfl
@[simp] theorem lk1_ok (g : D → Option D) (μ : Mu) (d : D) : lk1 g μ (some d) = ofO μ (g d) := rfl
def lk2 (g : D → D → Option D) (μ : Mu) : Option D → Option D → R Sv
  | some d, some e => ofO μ (g d e)
  | _, _ => .no
@[simp] theorem p2_eq (g : D → D → Option D) (a b : Sv) (μ : Mu) : p2 g a b μ = lk2 g μ (look μ a) (look μ b) := by
  unfold p2
  cases look μ a with
  | none => rfl
  | some d =>
    cases look μ b with
    | none => rfl
    | some e => show (match g d e with | some r => _ | none => _) = ofO μ (g d e); cases g d e <;> rfl
@[simp] theorem lk2_ok (g : D → D → Option D) (μ : Mu) (d e : D) : lk2 g μ (some d) (some e) = ofO μ (g d e) := rfl
/-! loops -/
def R.forL (i : Nat) (b : EvS) (ρ : Rho) : R Sv → O
  | .ok (.im (.lst xs)) μ => loopL i b xs ρ μ
  | .ex c μ => .ex c ρ μ
  | _ => .no
@[simp] theorem sForL_eq (i : Nat) (f : Ev) (b : EvS) (ρ : Rho) (μ : Mu) : sForL i f b ρ μ = (dV f ρ μ).forL i b ρ := by
  unfold sForL sE
  cases dV f ρ μ with
  | ok v μ1 =>
    cases v with
    | im d => cases d <;> rfl
    | rf n => rfl
  | ex c μ1 => rfl
  | no => rfl
@[simp] theorem forL_ok (i : Nat) (b : EvS) (ρ : Rho) (xs : List D) (μ : Mu) : (R.ok (.im (.lst xs)) μ).forL i b ρ = loopL i b xs ρ μ := rfl
def R.forS (i : Nat) (b : EvS) (ρ : Rho) : R Sv → O
  | .ok (.im (.str s)) μ => loopL i b (s.cps.toList.map fun c => .str ⟨#[c]⟩) ρ μ
  | .ex c μ => .ex c ρ μ
  | _ => .no
@[simp] theorem sForS_eq (i : Nat) (f : Ev) (b : EvS) (ρ : Rho) (μ : Mu) : sForS i f b ρ μ = (f ρ μ).forS i b ρ := by
  unfold sForS sE
  cases f ρ μ with
  | ok v μ1 =>
    cases v with
    | im d => cases d <;> rfl
    | rf n => rfl
  | ex c μ1 => rfl
  | no => rfl
@[simp] theorem forS_ok (i : Nat) (b : EvS) (ρ : Rho) (s : Str) (μ : Mu) : (R.ok (.im (.str s)) μ).forS i b ρ = loopL i b (s.cps.toList.map fun c => .str ⟨#[c]⟩) ρ μ := rfl
def R.forR (i : Nat) (b : EvS) (ρ : Rho) : R Sv → O
  | .ok (.im (.int n)) μ => if in62 n then loopL i b (rangeD 0 n.toNat) ρ μ else .no
  | .ex c μ => .ex c ρ μ
  | _ => .no
@[simp] theorem sForR1_eq (i : Nat) (f : Ev) (b : EvS) (ρ : Rho) (μ : Mu) : sForR1 i f b ρ μ = (f ρ μ).forR i b ρ := by
  unfold sForR1 sE
  cases f ρ μ with
  | ok v μ1 =>
    cases v with
    | im d => cases d <;> rfl
    | rf n => rfl
  | ex c μ1 => rfl
  | no => rfl
@[simp] theorem forR_ok (i : Nat) (b : EvS) (ρ : Rho) (n : Int) (μ : Mu) : (R.ok (.im (.int n)) μ).forR i b ρ = if in62 n = true then loopL i b (rangeD 0 n.toNat) ρ μ else .no := rfl
def R.forR3 (i : Nat) (b : EvS) (ρ : Rho) (a : Int) : R Sv → O
  | .ok (.im (.int n)) μ => if in62 a && in62 n then loopL i b (rangeD a (n - a).toNat) ρ μ else .no
  | .ex c μ => .ex c ρ μ
  | _ => .no
def R.forR2 (i : Nat) (g : Ev) (b : EvS) (ρ : Rho) : R Sv → O
  | .ok (.im (.int a)) μ => (g ρ μ).forR3 i b ρ a
  | .ex c μ => .ex c ρ μ
  | _ => .no
@[simp] theorem sForR2_eq (i : Nat) (f g : Ev) (b : EvS) (ρ : Rho) (μ : Mu) : sForR2 i f g b ρ μ = (f ρ μ).forR2 i g b ρ := by
  unfold sForR2 sE
  cases f ρ μ with
  | ok v μ1 =>
    cases v with
    | im d =>
      cases d <;> first | rfl | skip
      rename_i a
      show _ = (g ρ μ1).forR3 i b ρ a
      dsimp only
      cases g ρ μ1 with
      | ok w μ2 =>
        cases w with
        | im e => cases e <;> rfl
        | rf n => rfl
      | ex c μ2 => rfl
      | no => rfl
    | rf n => rfl
  | ex c μ1 => rfl
  | no => rfl
@[simp] theorem forR2_ok (i : Nat) (g : Ev) (b : EvS) (ρ : Rho) (a : Int) (μ : Mu) : (R.ok (.im (.int a)) μ).forR2 i g b ρ = (g ρ μ).forR3 i b ρ a := rfl
@[simp] theorem forR3_ok (i : Nat) (b : EvS) (ρ : Rho) (a n : Int) (μ : Mu) : (R.ok (.im (.int n)) μ).forR3 i b ρ a = if (in62 a && in62 n) = true then loopL i b (rangeD a (n - a).toNat) ρ μ else .no := rfl
theorem in62_small {i : Int} (h : -1000000 ≤ i) (h2 : i ≤ 1000000) : in62 i = true := by
  exact Nat.ble_eq_true_of_le (by omega)
/-! append -/
def appC (d : D) (n : Nat) (ρ : Rho) (μ : Mu) : Option Cell → O
  | some (.lst xs) => if xs.length < maxN then .nx ρ (μ.set n (.lst (xs ++ [d]))) else .no
  | _ => .no
def R.app2 (n : Nat) (ρ : Rho) : R Sv → O
  | .ok (.im d) μ => appC d n ρ μ μ[n]?
  | .ex c μ => .ex c ρ μ
  | _ => .no
def appD (fe : Ev) (n : Nat) (ρ : Rho) (μ : Mu) : Option Cell → O
  | some (.lst _) => (fe ρ μ).app2 n ρ
  | _ => .no
def R.app (fe : Ev) (ρ : Rho) : R Sv → O
  | .ok (.rf n) μ => appD fe n ρ μ μ[n]?
  | .ex c μ => .ex c ρ μ
  | _ => .no
@[simp] theorem sApp_eq (fx fe : Ev) (ρ : Rho) (μ : Mu) : sApp fx fe ρ μ = (fx ρ μ).app fe ρ := by
  unfold sApp sE
  cases fx ρ μ with
  | ok v μ1 =>
    cases v with
    | im d => rfl
    | rf n =>
      show (match μ1[n]? with | some (.lst _) => _ | _ => _) = appD fe n ρ μ1 μ1[n]?
      cases h : μ1[n]? with
      | none => rfl
      | some c =>
        cases c <;> first | rfl | skip
        show _ = (fe ρ μ1).app2 n ρ
        dsimp only
        cases fe ρ μ1 with
        | ok w μ2 =>
          cases w with
          | im e =>
            show (match μ2[n]? with | some (.lst xs) => _ | _ => _) = appC e n ρ μ2 μ2[n]?
            cases μ2[n]? with
            | none => rfl
            | some c => cases c <;> rfl
          | rf n => rfl
        | ex c μ2 => rfl
        | no => rfl
  | ex c μ1 => rfl
  | no => rfl
@[simp] theorem app_ok (fe : Ev) (ρ : Rho) (n : Nat) (μ : Mu) : (R.ok (.rf n) μ).app fe ρ = appD fe n ρ μ μ[n]? := rfl
@[simp] theorem appD_ok (fe : Ev) (n : Nat) (ρ : Rho) (μ : Mu) (xs : List D) : appD fe n ρ μ (some (.lst xs)) = (fe ρ μ).app2 n ρ := rfl
@[simp] theorem app2_ok (n : Nat) (ρ : Rho) (d : D) (μ : Mu) : (R.ok (.im d) μ).app2 n ρ = appC d n ρ μ μ[n]? := rfl
@[simp] theorem appC_ok (d : D) (n : Nat) (ρ : Rho) (μ : Mu) (xs : List D) : appC d n ρ μ (some (.lst xs)) = if xs.length < maxN then .nx ρ (μ.set n (.lst (xs ++ [d]))) else .no := rfl
/-! comprehensions -/
def R.lc (i : Nat) (t : EvT) (e : Ev) (ρ : Rho) : R Sv → R Cell
  | .ok (.im (.lst xs)) μ => if xs.length ≤ maxN then lcEnd (lcL i t e xs (ρ.set i none) μ) else .no
  | .ex c μ => .ex c μ
  | _ => .no
@[simp] theorem dLcL_eq (i : Nat) (f : Ev) (t : EvT) (e : Ev) (ρ : Rho) (μ : Mu) : dLcL i f t e ρ μ = (dV f ρ μ).lc i t e ρ := by
  unfold dLcL
  cases dV f ρ μ with
  | ok v μ1 =>
    cases v with
    | im d => cases d <;> rfl
    | rf n => rfl
  | ex c μ1 => rfl
  | no => rfl
@[simp] theorem lc_ok (i : Nat) (t : EvT) (e : Ev) (ρ : Rho) (xs : List D) (μ : Mu) : (R.ok (.im (.lst xs)) μ).lc i t e ρ = if xs.length ≤ maxN then lcEnd (lcL i t e xs (ρ.set i none) μ) else .no := rfl
def R.lcr (i : Nat) (t : EvT) (e : Ev) (ρ : Rho) : R Sv → R Cell
  | .ok (.im (.int n)) μ => if in62 n && decide (n.toNat ≤ maxN) then lcEnd (lcL i t e (rangeD 0 n.toNat) (ρ.set i none) μ) else .no
  | .ex c μ => .ex c μ
  | _ => .no
@[simp] theorem dLcR1_eq (i : Nat) (f : Ev) (t : EvT) (e : Ev) (ρ : Rho) (μ : Mu) : dLcR1 i f t e ρ μ = (f ρ μ).lcr i t e ρ := by
  unfold dLcR1
  cases f ρ μ with
  | ok v μ1 =>
    cases v with
    | im d => cases d <;> rfl
    | rf n => rfl
  | ex c μ1 => rfl
  | no => rfl
@[simp] theorem lcr_ok (i : Nat) (t : EvT) (e : Ev) (ρ : Rho) (n : Int) (μ : Mu) : (R.ok (.im (.int n)) μ).lcr i t e ρ = if (in62 n && decide (n.toNat ≤ maxN)) = true then lcEnd (lcL i t e (rangeD 0 n.toNat) (ρ.set i none) μ) else .no := rfl
@[simp] theorem lcEnd_ok (ys : List D) (μ : Mu) : lcEnd (.ok ys μ) = .ok (.lst ys) μ := rfl
/-! chains -/
def R.ch3 (p' : Sv → Sv → Mu → R Sv) (b : Sv) (fc : Ev) (ρ : Rho) : R Sv → R Sv
  | .ok (.im (.bl true)) μ => (fc ρ μ).bind (p' b)
  | .ok (.im (.bl false)) μ => .ok (.im (.bl false)) μ
  | .ex c μ => .ex c μ
  | _ => .no
def R.ch2 (p p' : Sv → Sv → Mu → R Sv) (a : Sv) (fc : Ev) (ρ : Rho) : R Sv → R Sv
  | .ok b μ => (p a b μ).ch3 p' b fc ρ
  | .ex c μ => .ex c μ
  | .no => .no
def R.ch1 (p p' : Sv → Sv → Mu → R Sv) (fb fc : Ev) (ρ : Rho) : R Sv → R Sv
  | .ok a μ => (fb ρ μ).ch2 p p' a fc ρ
  | .ex c μ => .ex c μ
  | .no => .no
@[simp] theorem dChain_eq (p p' : Sv → Sv → Mu → R Sv) (fa fb fc : Ev) (ρ : Rho) (μ : Mu) : dChain p p' fa fb fc ρ μ = (fa ρ μ).ch1 p p' fb fc ρ := by
  unfold dChain
  cases fa ρ μ with
  | ok a μ1 =>
    show (fb ρ μ1).bind _ = (fb ρ μ1).ch2 p p' a fc ρ
    cases fb ρ μ1 with
    | ok b μ2 =>
      show (p a b μ2).bind _ = (p a b μ2).ch3 p' b fc ρ
      cases p a b μ2 with
      | ok k μ3 =>
        cases k with
        | im d => cases d <;> first | rfl | (rename_i x; cases x <;> rfl)
        | rf n => rfl
      | ex c μ3 => rfl
      | no => rfl
    | ex c μ2 => rfl
    | no => rfl
  | ex c μ1 => rfl
  | no => rfl
@[simp] theorem ch1_ok (p p' : Sv → Sv → Mu → R Sv) (fb fc : Ev) (ρ : Rho) (a : Sv) (μ : Mu) : (R.ok a μ).ch1 p p' fb fc ρ = (fb ρ μ).ch2 p p' a fc ρ := rfl
@[simp] theorem ch2_ok (p p' : Sv → Sv → Mu → R Sv) (a : Sv) (fc : Ev) (ρ : Rho) (b : Sv) (μ : Mu) : (R.ok b μ).ch2 p p' a fc ρ = (p a b μ).ch3 p' b fc ρ := rfl
@[simp] theorem ch3_true (p' : Sv → Sv → Mu → R Sv) (b : Sv) (fc : Ev) (ρ : Rho) (μ : Mu) : (R.ok (.im (.bl true)) μ).ch3 p' b fc ρ = (fc ρ μ).bind (p' b) := rfl
@[simp] theorem ch3_false (p' : Sv → Sv → Mu → R Sv) (b : Sv) (fc : Ev) (ρ : Rho) (μ : Mu) : (R.ok (.im (.bl false)) μ).ch3 p' b fc ρ = .ok (.im (.bl false)) μ := rfl
/-! ways that meet again -/
section
variable {c : Prop} [Decidable c]
@[simp] theorem join_nx (ρ1 ρ2 : Rho) (μ : Mu) : (if c then O.nx ρ1 μ else O.nx ρ2 μ) = O.nx (if c then ρ1 else ρ2) μ := by split <;> rfl
@[simp] theorem join_rt (v w : Sv) (μ : Mu) : (if c then O.rt v μ else O.rt w μ) = O.rt (if c then v else w) μ := by split <;> rfl
@[simp] theorem join_ok {α : Type} (v w : α) (μ : Mu) : (if c then R.ok v μ else R.ok w μ) = R.ok (if c then v else w) μ := by split <;> rfl
@[simp] theorem join_cons {α : Type} (a b : α) (r s : List α) : (if c then a :: r else b :: s) = (if c then a else b) :: (if c then r else s) := by split <;> rfl
@[simp] theorem join_some {α : Type} (a b : α) : (if c then some a else some b) = some (if c then a else b) := by split <;> rfl
@[simp] theorem join_im (a b : D) : (if c then Sv.im a else Sv.im b) = Sv.im (if c then a else b) := by split <;> rfl
@[simp] theorem join_int (a b : Int) : (if c then D.int a else D.int b) = D.int (if c then a else b) := by split <;> rfl
@[simp] theorem join_str (a b : Str) : (if c then D.str a else D.str b) = D.str (if c then a else b) := by split <;> rfl
@[simp] theorem join_bl (a b : Bool) : (if c then D.bl a else D.bl b) = D.bl (if c then a else b) := by split <;> rfl
@[simp] theorem join_lst (a b : List D) : (if c then D.lst a else D.lst b) = D.lst (if c then a else b) := by split <;> rfl
@[simp] theorem join_seq (x y : O) (g : EvS) : (if c then x else y).seq g = if c then x.seq g else y.seq g := by split <;> rfl
@[simp] theorem join_bind {α β : Type} (x y : R α) (k : α → Mu → R β) : (if c then x else y).bind k = if c then x.bind k else y.bind k := by split <;> rfl
@[simp] theorem join_tst (x y : R Sv) : (if c then x else y).tst = if c then x.tst else y.tst := by split <;> rfl
@[simp] theorem join_iff (x y : R Bool) (f g : EvS) (ρ : Rho) : (if c then x else y).iff f g ρ = if c then x.iff f g ρ else y.iff f g ρ := by split <;> rfl
end
/-! primitives -/
@[simp] theorem gAdd_int (i j : Int) : gAdd (.int i) (.int j) = some (.int (i + j)) := rfl
@[simp] theorem gAdd_str (a b : Str) : gAdd (.str a) (.str b) = if a.length + b.length ≤ maxN then some (.str (a ++ b)) else none := rfl
@[simp] theorem gAdd_lst (a b : List D) : gAdd (.lst a) (.lst b) = if a.length + b.length ≤ maxN then some (.lst (a ++ b)) else none := rfl
@[simp] theorem gSub_int (i j : Int) : gSub (.int i) (.int j) = some (.int (i - j)) := rfl
@[simp] theorem gMul_int (i j : Int) : gMul (.int i) (.int j) = if (small64 i || small64 j) = true then some (.int (i * j)) else none := rfl
@[simp] theorem gMod_int (i j : Int) : gMod (.int i) (.int j) = if 0 < j then some (.int (i % j)) else none := rfl
@[simp] theorem gDiv_int (i j : Int) : gDiv (.int i) (.int j) = if 0 < j ∧ j < 1073741824 then some (.int (i / j)) else none := rfl
@[simp] theorem gLe_int (i j : Int) : gLe (.int i) (.int j) = some (.bl (decide (i ≤ j))) := rfl
@[simp] theorem gLt_int (i j : Int) : gLt (.int i) (.int j) = some (.bl (decide (i < j))) := rfl
@[simp] theorem gGt_int (i j : Int) : gGt (.int i) (.int j) = some (.bl (decide (j < i))) := rfl
@[simp] theorem gGe_int (i j : Int) : gGe (.int i) (.int j) = some (.bl (decide (j ≤ i))) := rfl
@[simp] theorem gLtT_int (i j : Int) : gLtT (.int i) (.int j) = some (.bl (decide (i < j))) := rfl
@[simp] theorem gIsN_non : gIsN .non .non = some (.bl true) := rfl
@[simp] theorem gIsN_tup (xs : List D) : gIsN (.tup xs) .non = some (.bl false) := rfl
@[simp] theorem gIsN_lst (xs : List D) : gIsN (.lst xs) .non = some (.bl false) := rfl
@[simp] theorem gIsN_str (s : Str) : gIsN (.str s) .non = some (.bl false) := rfl
@[simp] theorem gIsN_dk (xs : List (Key × D)) : gIsN (.dk xs) .non = some (.bl false) := rfl
@[simp] theorem gIsN_int (s : Int) : gIsN (.int s) .non = some (.bl false) := rfl
@[simp] theorem gNotN_non : gNotN .non .non = some (.bl false) := rfl
@[simp] theorem gNotN_tup (xs : List D) : gNotN (.tup xs) .non = some (.bl true) := rfl
@[simp] theorem gIx_lst (xs : List D) (i : Int) : gIx (.lst xs) (.int i) = atI xs i := rfl
@[simp] theorem gIx_tup (xs : List D) (i : Int) : gIx (.tup xs) (.int i) = atI xs i := rfl
@[simp] theorem gIx_scr (xs : List Int) (i : Int) : gIx (.scr xs) (.int i) = (atI xs i).map .int := rfl
@[simp] theorem gIx_str (s : Str) (i : Int) : gIx (.str s) (.int i) = (atI s.cps.toList i).map fun c => .str ⟨#[c]⟩ := rfl
@[simp] theorem gLen_lst (xs : List D) : gLen (.lst xs) = some (.int xs.length) := rfl
@[simp] theorem gLen_tup (xs : List D) : gLen (.tup xs) = some (.int xs.length) := rfl
@[simp] theorem gLen_scr (xs : List Int) : gLen (.scr xs) = some (.int xs.length) := rfl
@[simp] theorem gLen_str (s : Str) : gLen (.str s) = some (.int s.length) := rfl
@[simp] theorem gLen_dk (xs : List (Key × D)) : gLen (.dk xs) = some (.int xs.length) := rfl
@[simp] theorem gLen_dt (xs : List (List Key × D)) : gLen (.dt xs) = some (.int xs.length) := rfl
@[simp] theorem gMax2_int (i j : Int) : gMax2 (.int i) (.int j) = some (.int (if j > i then j else i)) := rfl
@[simp] theorem gMin2_int (i j : Int) : gMin2 (.int i) (.int j) = some (.int (if j < i then j else i)) := rfl
@[simp] theorem gAbs_int (i : Int) : gAbs (.int i) = some (.int (if i < 0 then -i else i)) := rfl
@[simp] theorem gIsi_tup (T : String) (xs : List D) : gIsi T (.tup xs) = some (.bl (isTy T (.tup xs))) := rfl
@[simp] theorem gIsi_lst (T : String) (xs : List D) : gIsi T (.lst xs) = some (.bl (isTy T (.lst xs))) := rfl
@[simp] theorem gIsi_int (T : String) (i : Int) : gIsi T (.int i) = some (.bl (isTy T (.int i))) := rfl
@[simp] theorem gIsi_str (T : String) (i : Str) : gIsi T (.str i) = some (.bl (isTy T (.str i))) := rfl
@[simp] theorem gIsi_non (T : String) : gIsi T .non = some (.bl (isTy T .non)) := rfl
@[simp] theorem gIsi_bl (T : String) (b : Bool) : gIsi T (.bl b) = some (.bl (isTy T (.bl b))) := rfl
@[simp] theorem isTy_tt (xs : List D) : isTy "tuple" (.tup xs) = true := rfl
@[simp] theorem isTy_ll (xs : List D) : isTy "list" (.lst xs) = true := rfl
@[simp] theorem isTy_lt (xs : List D) : isTy "list" (.tup xs) = false := rfl
@[simp] theorem isTy_ls (s : Str) : isTy "list" (.str s) = false := rfl
@[simp] theorem isTy_ln : isTy "list" .non = false := rfl
@[simp] theorem isTy_ss (s : Str) : isTy "str" (.str s) = true := rfl
@[simp] theorem isTy_sl (xs : List D) : isTy "str" (.lst xs) = false := rfl
@[simp] theorem isTy_ii (i : Int) : isTy "int" (.int i) = true := rfl
@[simp] theorem isTy_bi (i : Int) : isTy "bool" (.int i) = false := rfl
@[simp] theorem isTy_bb (i : Bool) : isTy "bool" (.bl i) = true := rfl
@[simp] theorem isTy_tn : isTy "tuple" .non = false := rfl
def fListD (μ : Mu) : Option D → R Cell
  | some (.lst xs) => .ok (.lst xs) μ
  | some (.tup xs) => .ok (.lst xs) μ
  | some (.dk kvs) => .ok (.lst (kvs.map fun kv => match kv.1 with | .inl i => .int i | .inr s => .str s)) μ
  | _ => .no
@[simp] theorem fList_eq (a : Sv) (μ : Mu) : fList a μ = fListD μ (look μ a) := by
  unfold fList
  cases look μ a with
  | none => rfl
  | some d => cases d <;> rfl
@[simp] theorem fListD_lst (μ : Mu) (xs : List D) : fListD μ (some (.lst xs)) = .ok (.lst xs) μ := rfl
@[simp] theorem fListD_tup (μ : Mu) (xs : List D) : fListD μ (some (.tup xs)) = .ok (.lst xs) μ := rfl
theorem atI_int {α : Type} (xs : List α) (k : Nat) : atI xs (k : Int) = xs[k]? := by
  unfold atI ixN
  rw [if_pos (Int.natCast_nonneg k)]
  by_cases h : k < xs.length
  · rw [if_pos (by omega)]; simp
  · rw [if_neg (by omega), List.getElem?_eq_none (by omega)]; rfl
theorem atI_of {α : Type} (xs : List α) (i : Int) (h : 0 ≤ i) : atI xs i = xs[i.toNat]? := by
  obtain ⟨k, rfl⟩ := Int.eq_ofNat_of_zero_le h
  rw [atI_int]; simp
@[simp] theorem atI_0 {α : Type} (a : α) (r : List α) : atI (a :: r) 0 = some a := by
  rw [atI_of _ _ (by decide)]; rfl
@[simp] theorem atI_1 {α : Type} (a b : α) (r : List α) : atI (a :: b :: r) 1 = some b := by
  rw [atI_of _ _ (by decide)]; rfl
@[simp] theorem atI_2 {α : Type} (a b c : α) (r : List α) : atI (a :: b :: c :: r) 2 = some c := by
  rw [atI_of _ _ (by decide)]; rfl
@[simp] theorem atI_3 {α : Type} (a b c d : α) (r : List α) : atI (a :: b :: c :: d :: r) 3 = some d := by
  rw [atI_of _ _ (by decide)]; rfl
/-! ### cells by place -/
@[simp] theorem get_c0 (μ : Mu) (a : Cell) (r : Mu) : (μ ++ a :: r)[μ.length]? = some a := by simp
@[simp] theorem get_c1 (μ : Mu) (a b : Cell) (r : Mu) : (μ ++ a :: b :: r)[μ.length + 1]? = some b := by simp
@[simp] theorem get_c2 (μ : Mu) (a b c : Cell) (r : Mu) : (μ ++ a :: b :: c :: r)[μ.length + 2]? = some c := by simp
@[simp] theorem set_c0 (μ : Mu) (a x : Cell) (r : Mu) : (μ ++ a :: r).set μ.length x = μ ++ x :: r := by simp
@[simp] theorem set_c1 (μ : Mu) (a b x : Cell) (r : Mu) : (μ ++ a :: b :: r).set (μ.length + 1) x = μ ++ a :: x :: r := by simp
@[simp] theorem set_c2 (μ : Mu) (a b c x : Cell) (r : Mu) : (μ ++ a :: b :: c :: r).set (μ.length + 2) x = μ ++ a :: b :: x :: r := by simp
@[simp] theorem take_c (μ r : Mu) : (μ ++ r).take μ.length = μ := by simp
/-! ### defs -/
/-- all cells point at cells -/
def Low (μ : Mu) : Prop := μ.all (Cell.low μ.length) = true
@[simp] theorem low_nil : Low [] := rfl
theorem Low.flat {μ : Mu} (h : ∀ c ∈ μ, ∀ n, Cell.low n c = true) : Low μ := List.all_eq_true.mpr fun c hc => h c hc _
theorem cell_low_mono {m n : Nat} (h : m ≤ n) {c : Cell} (l : c.low m = true) : c.low n = true := by
  cases c with
  | ob fs =>
    unfold Cell.low at l ⊢
    rw [List.all_eq_true] at l ⊢
    intro p hp
    have q := l p hp
    cases hs : p.2 with
    | im d => rfl
    | rf k => rw [hs] at q; simp only [Sv.low, decide_eq_true_eq] at q ⊢; omega
  | dv fs =>
    unfold Cell.low at l ⊢
    rw [List.all_eq_true] at l ⊢
    intro p hp
    have q := l p hp
    cases hs : p.2 with
    | im d => rfl
    | rf k => rw [hs] at q; simp only [Sv.low, decide_eq_true_eq] at q ⊢; omega
  | lst _ => rfl
  | dk _ => rfl
  | dt _ => rfl
  | fz _ => rfl
theorem Low.push {μ : Mu} (h : Low μ) {c : Cell} (hc : c.low (μ.length + 1) = true) : Low (μ ++ [c]) := by
  unfold Low at h ⊢
  rw [List.all_eq_true] at h ⊢
  intro x hx
  rw [List.length_append]
  rcases List.mem_append.mp hx with q | q
  · exact cell_low_mono (Nat.le_add_right _ _) (h x q)
  · have : x = c := by simpa using q
    rw [this]; exact hc
theorem Low.push2 {μ : Mu} (h : Low μ) {c d : Cell} (hc : ∀ n, c.low n = true) (hd : ∀ n, d.low n = true) : Low (μ ++ [c, d]) := by
  have := (h.push (hc _)).push (hd _)
  simpa using this
@[simp] theorem low_lst (n : Nat) (xs : List D) : Cell.low n (.lst xs) = true := rfl
@[simp] theorem low_dk (n : Nat) (xs : List (Key × D)) : Cell.low n (.dk xs) = true := rfl
@[simp] theorem low_dt (n : Nat) (xs : List (List Key × D)) : Cell.low n (.dt xs) = true := rfl
@[simp] theorem low_fz (n : Nat) (d : D) : Cell.low n (.fz d) = true := rfl
theorem dFn_im {m : Nat} {b : EvS} {vs : List Sv} {μ : Mu} {d : D} {r : Mu} (hμ : Low μ) (h : b (vs.map some ++ List.replicate (m - vs.length) none) μ = .rt (.im d) (μ ++ r)) : dFn m b vs μ = .ok (.im d) μ := by
  unfold dFn
  rw [h]
  have h2 : (List.take μ.length (μ ++ r)).all (Cell.low μ.length) = true := by rw [take_c]; exact hμ
  simp only [frz_im]
  rw [h2, take_c]
  simp
theorem dFn_im0 {m : Nat} {b : EvS} {vs : List Sv} {μ : Mu} {d : D} (hμ : Low μ) (h : b (vs.map some ++ List.replicate (m - vs.length) none) μ = .rt (.im d) μ) : dFn m b vs μ = .ok (.im d) μ := dFn_im (r := []) hμ (by simpa using h)
theorem dFn_rf {m : Nat} {b : EvS} {vs : List Sv} {μ : Mu} {d : D} {r r' : Mu} {n : Nat} (hμ : Low μ) (h : b (vs.map some ++ List.replicate (m - vs.length) none) μ = .rt (.rf n) (μ ++ r)) (hf : frz (μ ++ r) (.rf n) = some (d, μ ++ r')) : dFn m b vs μ = .ok (.im d) μ := by
  unfold dFn
  rw [h]
  have h2 : (List.take μ.length (μ ++ r')).all (Cell.low μ.length) = true := by rw [take_c]; exact hμ
  dsimp only
  rw [hf]
  dsimp only
  rw [h2, take_c]
  simp
theorem dFn_lst {m : Nat} {b : EvS} {vs : List Sv} {μ : Mu} {xs : List D} {r : Mu} (hμ : Low μ) (h : b (vs.map some ++ List.replicate (m - vs.length) none) μ = .rt (.rf μ.length) (μ ++ .lst xs :: r)) : dFn m b vs μ = .ok (.im (.lst xs)) μ :=
  dFn_rf hμ h (r' := .fz (.lst xs) :: r) (by simp only [frz, get_c0, set_c0])
theorem dFn_dk {m : Nat} {b : EvS} {vs : List Sv} {μ : Mu} {xs : List (Key × D)} {r : Mu} (hμ : Low μ) (h : b (vs.map some ++ List.replicate (m - vs.length) none) μ = .rt (.rf μ.length) (μ ++ .dk xs :: r)) : dFn m b vs μ = .ok (.im (.dk xs)) μ :=
  dFn_rf hμ h (r' := .fz (.dk xs) :: r) (by simp only [frz, get_c0, set_c0])
theorem dFn_dt {m : Nat} {b : EvS} {vs : List Sv} {μ : Mu} {xs : List (List Key × D)} {r : Mu} (hμ : Low μ) (h : b (vs.map some ++ List.replicate (m - vs.length) none) μ = .rt (.rf μ.length) (μ ++ .dt xs :: r)) : dFn m b vs μ = .ok (.im (.dt xs)) μ :=
  dFn_rf hμ h (r' := .fz (.dt xs) :: r) (by simp only [frz, get_c0, set_c0])
theorem dFn_nx {m : Nat} {b : EvS} {vs : List Sv} {μ : Mu} {ρ : Rho} {r : Mu} (hμ : Low μ) (h : b (vs.map some ++ List.replicate (m - vs.length) none) μ = .nx ρ (μ ++ r)) : dFn m b vs μ = .ok (.im .non) μ := by
  unfold dFn
  rw [h]
  have h2 : (List.take μ.length (μ ++ r)).all (Cell.low μ.length) = true := by rw [take_c]; exact hμ
  dsimp only
  rw [h2, take_c]
  simp
theorem dFn_ex {m : Nat} {b : EvS} {vs : List Sv} {μ : Mu} {ρ : Rho} {r : Mu} {c : Xn} (hμ : Low μ) (h : b (vs.map some ++ List.replicate (m - vs.length) none) μ = .ex c ρ (μ ++ r)) : dFn m b vs μ = .ex c μ := by
  unfold dFn
  rw [h]
  have h2 : (List.take μ.length (μ ++ r)).all (Cell.low μ.length) = true := by rw [take_c]; exact hμ
  dsimp only
  rw [h2, take_c]
  simp
/-! ### loops -/
theorem loop_any {i : Nat} {body : EvS} (S : Nat → Rho → Mu → Prop) (Rz : O → Prop) : ∀ (ds : List D) (k0 : Nat) (ρ : Rho) (μ : Mu), S k0 ρ μ →
    (∀ k d ρ μ, k0 ≤ k → ds[k - k0]? = some d → S k ρ μ → (∃ ρ' μ', (body (ρ.set i (some (.im d))) μ = .nx ρ' μ' ∨ body (ρ.set i (some (.im d))) μ = .ct ρ' μ') ∧ S (k + 1) ρ' μ') ∨ (∃ v μ', body (ρ.set i (some (.im d))) μ = .rt v μ' ∧ Rz (.rt v μ')) ∨ (∃ c ρ' μ', body (ρ.set i (some (.im d))) μ = .ex c ρ' μ' ∧ Rz (.ex c ρ' μ'))) →
    (∀ ρ μ, S (k0 + ds.length) ρ μ → Rz (.nx ρ μ)) → Rz (loopL i body ds ρ μ)
  | [], k0, ρ, μ, h0, _, hd => hd ρ μ (by simpa using h0)
  | d :: r, k0, ρ, μ, h0, hs, hd => by
    unfold loopL
    have rest : ∀ ρ' μ', S (k0 + 1) ρ' μ' → Rz (loopL i body r ρ' μ') := fun ρ' μ' s1 =>
      loop_any S Rz r (k0 + 1) ρ' μ' s1 (fun k d' ρ μ hk e s => hs k d' ρ μ (by omega) (by
        have e2 : k - k0 = (k - (k0 + 1)) + 1 := by omega
        rw [e2, List.getElem?_cons_succ]; exact e) s) fun ρ μ s => hd ρ μ (by rw [List.length_cons, ← Nat.add_assoc, Nat.add_right_comm]; exact s)
    rcases hs k0 d ρ μ (Nat.le_refl _) (by simp) h0 with ⟨ρ', μ', e, s1⟩ | ⟨v, μ', e, q⟩ | ⟨c, ρ', μ', e, q⟩
    · rcases e with e | e <;> rw [e] <;> exact rest ρ' μ' s1
    · rw [e]; exact q
    · rw [e]; exact q
/-- every turn goes on -/
theorem loop_nx {i : Nat} {body : EvS} {ds : List D} {ρ : Rho} {μ : Mu} (S : Nat → Rho → Mu → Prop) (h0 : S 0 ρ μ) (hs : ∀ k d ρ μ, ds[k]? = some d → S k ρ μ → ∃ ρ' μ', body (ρ.set i (some (.im d))) μ = .nx ρ' μ' ∧ S (k + 1) ρ' μ') :
    ∃ ρ' μ', loopL i body ds ρ μ = .nx ρ' μ' ∧ S ds.length ρ' μ' :=
  loop_any S (fun o => ∃ ρ' μ', o = .nx ρ' μ' ∧ S ds.length ρ' μ') ds 0 ρ μ h0 (fun k d ρ μ _ e s => .inl (by
    obtain ⟨ρ', μ', q, s'⟩ := hs k d ρ μ e s
    exact ⟨ρ', μ', .inl q, s'⟩)) fun ρ μ s => ⟨ρ, μ, rfl, by simpa using s⟩
/-- a loop, then the rest -/
theorem loop_then {i : Nat} {body : EvS} {ds : List D} {ρ : Rho} {μ : Mu} {g : EvS} (Rz : O → Prop) (S : Nat → Rho → Mu → Prop) (h0 : S 0 ρ μ)
    (hs : ∀ k d ρ μ, ds[k]? = some d → S k ρ μ → ∃ ρ' μ', body (ρ.set i (some (.im d))) μ = .nx ρ' μ' ∧ S (k + 1) ρ' μ') (hd : ∀ ρ' μ', S ds.length ρ' μ' → Rz (g ρ' μ')) : Rz ((loopL i body ds ρ μ).seq g) := by
  obtain ⟨ρ', μ', e, s⟩ := loop_nx S h0 hs
  rw [e]
  exact hd ρ' μ' s
theorem range_get {lo : Int} {n k : Nat} {d : D} (h : (rangeD lo n)[k]? = some d) : k < n ∧ d = .int (lo + (k : Int)) := by
  unfold rangeD at h
  rw [List.getElem?_map] at h
  by_cases hk : k < n
  · rw [List.getElem?_range hk] at h
    exact ⟨hk, (Option.some.inj h).symm⟩
  · rw [List.getElem?_eq_none (by simp; omega)] at h; cases h
@[simp] theorem range_len (lo : Int) (n : Nat) : (rangeD lo n).length = n := by simp [rangeD]
theorem map_get {α : Type} {f : α → D} {xs : List α} {k : Nat} {d : D} (h : (xs.map f)[k]? = some d) : ∃ a, xs[k]? = some a ∧ d = f a := by
  rw [List.getElem?_map] at h
  cases e : xs[k]? with
  | none => rw [e] at h; cases h
  | some a => rw [e] at h; exact ⟨a, rfl, (Option.some.inj h).symm⟩
/-! ### comprehensions -/
theorem lc_pure {α : Type} {i : Nat} {t : EvT} {e : Ev} {ρ : Rho} {μ : Mu} (enc : α → D) (p : α → Bool) (g : α → D) : ∀ (as : List α),
    (∀ a ∈ as, t (ρ.set i (some (.im (enc a)))) μ = .ok (p a) μ) → (∀ a ∈ as, p a = true → e (ρ.set i (some (.im (enc a)))) μ = .ok (.im (g a)) μ) → lcL i t e (as.map enc) ρ μ = .ok ((as.filter p).map g) μ
  | [], _, _ => rfl
  | a :: r, ht, he => by
    have ih := lc_pure enc p g r (fun x hx => ht x (List.mem_cons_of_mem _ hx)) (fun x hx => he x (List.mem_cons_of_mem _ hx))
    simp only [List.map_cons, lcL]
    rw [ht a List.mem_cons_self]
    simp only [quiet_ok, bind_ok]
    cases q : p a with
    | true =>
      rw [if_pos rfl, he a List.mem_cons_self q]
      simp only [quiet_ok, bind_ok]
      rw [ih]
      simp [q]
    | false =>
      rw [if_neg (by simp)]
      rw [ih]
      simp [q]
theorem lc_map {α : Type} {i : Nat} {e : Ev} {ρ : Rho} {μ : Mu} (enc : α → D) (g : α → D) (as : List α) (he : ∀ a ∈ as, e (ρ.set i (some (.im (enc a)))) μ = .ok (.im (g a)) μ) : lcL i dYes e (as.map enc) ρ μ = .ok (as.map g) μ := by
  rw [lc_pure enc (fun _ => true) g as (fun _ _ => rfl) fun a h _ => he a h]
  rw [List.filter_eq_self.mpr (fun _ _ => rfl)]
/-! ### == -/
mutual
theorem eqv_same : ∀ (n : Nat) (d : D), D.eqok n d = true → PyData.eqv d.py d.py = true
  | _, .non, _ => by simp [D.py, PyData.eqv]
  | _, .bl b, _ => by simp [D.py, PyData.eqv]
  | _, .int i, _ => by simp [D.py, PyData.eqv]
  | _, .str s, _ => by simp [D.py, PyData.eqv]
  | n + 1, .tup xs, h => by simp only [D.py, PyData.eqv]; exact eqvs_same n xs h
  | n + 1, .lst xs, h => by simp only [D.py, PyData.eqv]; exact eqvs_same n xs h
  | 0, .tup _, h => by simp [D.eqok] at h
  | 0, .lst _, h => by simp [D.eqok] at h
  | 0, .dk _, h => by simp [D.eqok] at h
  | 0, .dt _, h => by simp [D.eqok] at h
  | 0, .scr _, h => by simp [D.eqok] at h
  | _ + 1, .dk _, h => by simp [D.eqok] at h
  | _ + 1, .dt _, h => by simp [D.eqok] at h
  | _ + 1, .scr _, h => by simp [D.eqok] at h
theorem eqvs_same : ∀ (n : Nat) (d : List D), D.eqoks n d = true → PyData.eqvAll (D.pys d) (D.pys d) = true
  | _, [], _ => by simp [D.pys, PyData.eqvAll]
  | n, d :: r, h => by
    simp only [D.eqoks, Bool.and_eq_true] at h
    simp only [D.pys, PyData.eqvAll, eqv_same n d h.1, eqvs_same n r h.2]; rfl
end
theorem eqoks_map {α : Type} {n : Nat} {f : α → D} (h : ∀ a, D.eqok n (f a) = true) : ∀ xs : List α, D.eqoks n (xs.map f) = true
  | [] => by simp [D.eqoks]
  | a :: r => by simp only [List.map_cons, D.eqoks, h a, eqoks_map h r]; rfl
theorem eqvs_map {α : Type} [DecidableEq α] {f : α → D} (h : ∀ a b, PyData.eqv (f a).py (f b).py = decide (a = b)) : ∀ xs ys : List α, PyData.eqvAll (D.pys (xs.map f)) (D.pys (ys.map f)) = decide (xs = ys)
  | [], [] => by simp [D.pys, PyData.eqvAll]
  | [], _ :: _ => by simp [D.pys, PyData.eqvAll]
  | _ :: _, [] => by simp [D.pys, PyData.eqvAll]
  | a :: r, b :: s => by
    simp only [List.map_cons, D.pys, PyData.eqvAll, h a b, eqvs_map h r s]
    by_cases e : a = b <;> by_cases e2 : r = s <;> simp [e, e2]
theorem gEq_of {a b : D} (ha : D.eqok 9 a = true) (hb : D.eqok 9 b = true) : gEq a b = some (.bl (PyData.eqv a.py b.py)) := by
  unfold gEq; rw [ha, hb]; rfl
theorem gNe_of {a b : D} (ha : D.eqok 9 a = true) (hb : D.eqok 9 b = true) : gNe a b = some (.bl (!PyData.eqv a.py b.py)) := by
  unfold gNe; rw [ha, hb]; rfl
@[simp] theorem gEq_int (i j : Int) : gEq (.int i) (.int j) = some (.bl (decide (i = j))) := by
  rw [gEq_of rfl rfl]
  simp only [D.py, PyData.eqv]
  by_cases h : i = j <;> simp [h]
@[simp] theorem gNe_int (i j : Int) : gNe (.int i) (.int j) = some (.bl (!decide (i = j))) := by
  rw [gNe_of rfl rfl]
  simp only [D.py, PyData.eqv]
  by_cases h : i = j <;> simp [h]
@[simp] theorem gEq_str (i j : Str) : gEq (.str i) (.str j) = some (.bl (decide (i = j))) := by
  rw [gEq_of rfl rfl]
  simp only [D.py, PyData.eqv]
  by_cases h : i = j <;> simp [h]
@[simp] theorem gNe_str (i j : Str) : gNe (.str i) (.str j) = some (.bl (!decide (i = j))) := by
  rw [gNe_of rfl rfl]
  simp only [D.py, PyData.eqv]
  by_cases h : i = j <;> simp [h]
/-- runs and blocks -/
abbrev Rn := Int × Int × Int
def dRun (r : Rn) : D := .tup [.int r.1, .int r.2.1, .int r.2.2]
def dRuns (rs : List Rn) : D := .lst (rs.map dRun)
theorem run_eqok (n : Nat) (r : Rn) : D.eqok (n + 1) (dRun r) = true := by simp [dRun, D.eqok, D.eqoks]
theorem run_eqv (a b : Rn) : PyData.eqv (dRun a).py (dRun b).py = decide (a = b) := by
  obtain ⟨a1, a2, a3⟩ := a
  obtain ⟨b1, b2, b3⟩ := b
  simp only [dRun, D.py, D.pys, PyData.eqv, PyData.eqvAll, Prod.mk.injEq]
  by_cases h1 : a1 = b1 <;> by_cases h2 : a2 = b2 <;> by_cases h3 : a3 = b3 <;> simp [h1, h2, h3]
theorem runs_eqok (rs : List Rn) : D.eqok 9 (dRuns rs) = true := eqoks_map (run_eqok 7) rs
theorem runs_eqv (a b : List Rn) : PyData.eqv (dRuns a).py (dRuns b).py = decide (a = b) := eqvs_map run_eqv a b
theorem lc_end_pure {α : Type} {i : Nat} {t : EvT} {e : Ev} {ρ : Rho} {μ : Mu} (enc : α → D) (p : α → Bool) (g : α → D) (as : List α) (ht : ∀ a ∈ as, t (ρ.set i (some (.im (enc a)))) μ = .ok (p a) μ) (he : ∀ a ∈ as, p a = true → e (ρ.set i (some (.im (enc a)))) μ = .ok (.im (g a)) μ) :
    lcEnd (lcL i t e (as.map enc) ρ μ) = .ok (.lst ((as.filter p).map g)) μ := by rw [lc_pure enc p g as ht he]; rfl
theorem lc_end_map {α : Type} {i : Nat} {e : Ev} {ρ : Rho} {μ : Mu} (enc : α → D) (g : α → D) (as : List α) (he : ∀ a ∈ as, e (ρ.set i (some (.im (enc a)))) μ = .ok (.im (g a)) μ) :
    lcEnd (lcL i dYes e (as.map enc) ρ μ) = .ok (.lst (as.map g)) μ := by rw [lc_map enc g as he]; rfl
theorem ints_map (ns : List Int) : asInts (ns.map D.int) = some ns := by
  induction ns with
  | nil => rfl
  | cons a r ih => simp [asInts, ih]
theorem gMin1_eq {ns : List Int} {m : Int} (h : m ∈ ns) (hl : ∀ y ∈ ns, m ≤ y) : gMin1 (.lst (ns.map D.int)) = some (.int m) := by
  unfold gMin1
  simp only [ints_map]
  cases ns with
  | nil => cases h
  | cons a r =>
    obtain ⟨h1, h2⟩ := leastI_ok r a
    have : leastI a r = m := Int.le_antisymm (h2 _ h) (hl _ h1)
    simp [this]
theorem gMax1_eq {ns : List Int} {m : Int} (h : m ∈ ns) (hl : ∀ y ∈ ns, y ≤ m) : gMax1 (.lst (ns.map D.int)) = some (.int m) := by
  unfold gMax1
  simp only [ints_map]
  cases ns with
  | nil => cases h
  | cons a r =>
    obtain ⟨h1, h2⟩ := mostI_ok r a
    have : mostI a r = m := Int.le_antisymm (hl _ h1) (h2 _ h)
    simp [this]
theorem gSum_eq (ns : List Int) : gSum (.lst (ns.map D.int)) = some (.int ns.sum) := by
  unfold gSum; simp [ints_map]
end SP

/-! SPn: more equations; rows of signs as lists of truth values. -/
namespace SP
open PySem L2
/-! ### not, parts of texts and lists, methods of texts -/
def R.notE : R Sv → R Sv
  | .ok (.im (.bl b)) μ => .ok (.im (.bl (!b))) μ
  | .ex c μ => .ex c μ
  | _ => .no
@[simp] theorem dNotE_eq (f : Ev) (ρ : Rho) (μ : Mu) : dNotE f ρ μ = (f ρ μ).notE := by
  unfold dNotE
  cases f ρ μ with
  | ok v μ1 =>
    cases v with
    | im d => cases d <;> rfl
    | rf n => rfl
  | ex c μ1 => rfl
  | no => rfl
@[simp] theorem notE_ok (b : Bool) (μ : Mu) : (R.ok (.im (.bl b)) μ).notE = .ok (.im (.bl (!b))) μ := rfl
def R.opM2 (g : D → D → Option D) (z : Str) : R Sv → R Sv
  | .ok (.im (.str w)) μ => ofO μ (g (.str z) (.str w))
  | .ex c μ => .ex c μ
  | _ => .no
def R.opM (g : D → D → Option D) (fb : Ev) (ρ : Rho) : R Sv → R Sv
  | .ok (.im (.str z)) μ => (fb ρ μ).opM2 g z
  | .ex c μ => .ex c μ
  | _ => .no
@[simp] theorem dOpM_eq (g : D → D → Option D) (fa fb : Ev) (ρ : Rho) (μ : Mu) : dOpM g fa fb ρ μ = (fa ρ μ).opM g fb ρ := by
  unfold dOpM
  cases fa ρ μ with
  | ok a μ1 =>
    cases a with
    | im d =>
      cases d with
      | str z =>
        show (fb ρ μ1).bind _ = (fb ρ μ1).opM2 g z
        cases fb ρ μ1 with
        | ok b μ2 =>
          cases b with
          | im e =>
            cases e with
            | str w => show (match g (.str z) (.str w) with | some r => _ | none => _) = ofO μ2 (g (.str z) (.str w)); cases g (.str z) (.str w) <;> rfl
            | _ => rfl
          | rf n => rfl
        | ex c μ2 => rfl
        | no => rfl
      | _ => rfl
    | rf n => rfl
  | ex c μ1 => rfl
  | no => rfl
@[simp] theorem opM_ok (g : D → D → Option D) (fb : Ev) (ρ : Rho) (z : Str) (μ : Mu) : (R.ok (.im (.str z)) μ).opM g fb ρ = (fb ρ μ).opM2 g z := rfl
@[simp] theorem opM2_ok (g : D → D → Option D) (z w : Str) (μ : Mu) : (R.ok (.im (.str w)) μ).opM2 g z = ofO μ (g (.str z) (.str w)) := rfl
def R.part : R Sv → R (Option Int)
  | .ok (.im (.int i)) μ => .ok (some i) μ
  | .ex c μ => .ex c μ
  | _ => .no
@[simp] theorem dPart_none (ρ : Rho) (μ : Mu) : dPart none ρ μ = .ok none μ := rfl
@[simp] theorem dPart_some (f : Ev) (ρ : Rho) (μ : Mu) : dPart (some f) ρ μ = (f ρ μ).part := by
  show (f ρ μ).bind _ = _
  cases f ρ μ with
  | ok v μ1 =>
    cases v with
    | im d => cases d <;> rfl
    | rf n => rfl
  | ex c μ1 => rfl
  | no => rfl
@[simp] theorem part_ok (i : Int) (μ : Mu) : (R.ok (.im (.int i)) μ).part = .ok (some i) μ := rfl
def slO (l h : Option Int) (μ : Mu) : Option D → R Sv
  | some d => ofO μ (gSl d l h)
  | none => .no
@[simp] theorem slO_ok (l h : Option Int) (μ : Mu) (d : D) : slO l h μ (some d) = ofO μ (gSl d l h) := rfl
def R.sl3 (a : Sv) (l : Option Int) : R (Option Int) → R Sv
  | .ok h μ => slO l h μ (look μ a)
  | .ex c μ => .ex c μ
  | .no => .no
def R.sl2 (a : Sv) (hi : Option Ev) (ρ : Rho) : R (Option Int) → R Sv
  | .ok l μ => (dPart hi ρ μ).sl3 a l
  | .ex c μ => .ex c μ
  | .no => .no
def R.sl (lo hi : Option Ev) (ρ : Rho) : R Sv → R Sv
  | .ok a μ => (dPart lo ρ μ).sl2 a hi ρ
  | .ex c μ => .ex c μ
  | .no => .no
@[simp] theorem dSl_eq (fa : Ev) (lo hi : Option Ev) (ρ : Rho) (μ : Mu) : dSl fa lo hi ρ μ = (fa ρ μ).sl lo hi ρ := by
  unfold dSl
  cases fa ρ μ with
  | ok a μ1 =>
    show (dPart lo ρ μ1).bind _ = (dPart lo ρ μ1).sl2 a hi ρ
    cases dPart lo ρ μ1 with
    | ok l μ2 =>
      show (dPart hi ρ μ2).bind _ = (dPart hi ρ μ2).sl3 a l
      cases dPart hi ρ μ2 with
      | ok h μ3 =>
        show (match look μ3 a with | some d => _ | none => _) = slO l h μ3 (look μ3 a)
        cases look μ3 a with
        | none => rfl
        | some d => show (match gSl d l h with | some r => _ | none => _) = ofO μ3 (gSl d l h); cases gSl d l h <;> rfl
      | ex c μ3 => rfl
      | no => rfl
    | ex c μ2 => rfl
    | no => rfl
  | ex c μ1 => rfl
  | no => rfl
@[simp] theorem sl_ok (lo hi : Option Ev) (ρ : Rho) (a : Sv) (μ : Mu) : (R.ok a μ).sl lo hi ρ = (dPart lo ρ μ).sl2 a hi ρ := rfl
@[simp] theorem sl2_ok (a : Sv) (hi : Option Ev) (ρ : Rho) (l : Option Int) (μ : Mu) : (R.ok l μ).sl2 a hi ρ = (dPart hi ρ μ).sl3 a l := rfl
@[simp] theorem sl3_ok (a : Sv) (l h : Option Int) (μ : Mu) : (R.ok h μ).sl3 a l = slO l h μ (look μ a) := rfl
@[simp] theorem gNeg_int (i : Int) : gNeg (.int i) = some (.int (-i)) := rfl
@[simp] theorem dIfE_ok (f g : Ev) (ρ : Rho) (b : Bool) (μ : Mu) : (R.ok b μ).ife f g ρ = if b = true then f ρ μ else g ρ μ := rfl
@[simp] theorem orT_ex (g : EvT) (ρ : Rho) (c : Xn) (μ : Mu) : (R.ex c μ).orT g ρ = .ex c μ := rfl
@[simp] theorem andT_ex (g : EvT) (ρ : Rho) (c : Xn) (μ : Mu) : (R.ex c μ).andT g ρ = .ex c μ := rfl
theorem small64_small {i : Int} (h : -1000000 ≤ i) (h2 : i ≤ 1000000) : SP.small64 i = true := by
  exact Nat.ble_eq_true_of_le (by omega)
theorem atI_two {α : Type} (a b : α) {x : Int} (h : 0 ≤ x) (h2 : x < 2) : atI [a, b] x = some (if x = 0 then a else b) := by
  have : x = 0 ∨ x = 1 := by omega
  rcases this with rfl | rfl <;> simp
@[simp] theorem gPow_10_12 : gPow (.int 10) (.int 12) = some (.int 1000000000000) := by
  show (if (0 : Int) ≤ 12 ∧ (12 : Int) ≤ 1000000 ∧ (10 : Int).natAbs < 2 ^ 64 then some (D.int (10 ^ (12 : Int).toNat)) else none) = _
  rw [if_pos (by decide)]; rfl
@[simp] theorem gEq_bl (i j : Bool) : gEq (.bl i) (.bl j) = some (.bl (i == j)) := by
  rw [gEq_of rfl rfl]
  simp only [D.py, PyData.eqv]
@[simp] theorem gNe_bl (i j : Bool) : gNe (.bl i) (.bl j) = some (.bl (!(i == j))) := by
  rw [gNe_of rfl rfl]
  simp only [D.py, PyData.eqv]
/-! ### signs -/
def sgS (b : Bool) : Str := if b then ⟨#[111]⟩ else ⟨#[46]⟩
def sgN (b : Bool) : Nat := if b then 111 else 46
def rowS (bs : List Bool) : Str := ⟨(bs.map sgN).toArray⟩
abbrev dRow (bs : List Bool) : D := .str (rowS bs)
abbrev dHall (hs : List (List Bool)) : D := .lst (hs.map fun bs => .str (rowS bs))
@[simp] theorem lit_o : Str.ofString "o" = sgS true := by rw [Str.ofString_eq_toList]; rfl
@[simp] theorem lit_dot : Str.ofString "." = sgS false := by rw [Str.ofString_eq_toList]; rfl
@[simp] theorem lit_e : Str.ofString "" = rowS [] := by rw [Str.ofString_eq_toList]; rfl
@[simp] theorem sg_inj (a b : Bool) : (sgS a = sgS b) ↔ a = b := by cases a <;> cases b <;> decide
@[simp] theorem rowS_app (a : List Bool) (b : Bool) : rowS a ++ sgS b = rowS (a ++ [b]) := by
  show Str.append _ _ = _
  unfold Str.append rowS sgS
  cases b <;> simp [sgN]
@[simp] theorem rowS_len (a : List Bool) : (rowS a).length = a.length := by simp [rowS, Str.length]
@[simp] theorem sgS_len (a : Bool) : (sgS a).length = 1 := by cases a <;> rfl
theorem sgN_inj {a b : Bool} (h : sgN a = sgN b) : a = b := by cases a <;> cases b <;> first | rfl | cases h
theorem map_sgN_inj : ∀ {a b : List Bool}, a.map sgN = b.map sgN → a = b
  | [], [], _ => rfl
  | [], _ :: _, h => by cases h
  | _ :: _, [], h => by cases h
  | x :: r, y :: s, h => by
    simp only [List.map_cons, List.cons.injEq] at h
    rw [sgN_inj h.1, map_sgN_inj h.2]
@[simp] theorem row_inj (a b : List Bool) : (rowS a = rowS b) ↔ a = b := by
  constructor
  · intro h
    have : (a.map sgN).toArray = (b.map sgN).toArray := congrArg Str.cps h
    exact map_sgN_inj (by simpa using this)
  · rintro rfl; rfl
theorem sg_one (b : Bool) : (⟨#[sgN b]⟩ : Str) = sgS b := by cases b <;> rfl
@[simp] theorem row_signs (bs : List Bool) : (rowS bs).cps.toList = bs.map sgN := by simp [rowS]
@[simp] theorem row_walk (bs : List Bool) : (bs.map sgN).map (fun c => D.str ⟨#[c]⟩) = bs.map fun b => D.str (sgS b) := by
  rw [List.map_map]
  exact List.map_congr_left fun b _ => by simp [sg_one]
@[simp] theorem row_walk2 (bs : List Bool) : bs.map ((fun c => D.str ⟨#[c]⟩) ∘ sgN) = bs.map fun b => D.str (sgS b) := List.map_congr_left fun b _ => by simp [sg_one]
theorem atI_map {α β : Type} (f : α → β) (xs : List α) (i : Int) : atI (xs.map f) i = (atI xs i).map f := by
  unfold atI
  rw [List.length_map]
  cases ixN xs.length i with
  | none => rfl
  | some n => simp
@[simp] theorem row_ix (bs : List Bool) (i : Int) : (atI (bs.map sgN) i).map (fun c => D.str ⟨#[c]⟩) = (atI bs i).map fun b => D.str (sgS b) := by
  rw [atI_map, Option.map_map]
  congr 1
  funext b
  simp [sg_one]
theorem row_get {bs : List Bool} {i : Int} (h0 : 0 ≤ i) (h : i < bs.length) : atI bs i = some (bs.getD i.toNat false) := by
  rw [atI_of _ _ h0, List.getD_eq_getElem?_getD]
  have : i.toNat < bs.length := by omega
  rw [List.getElem?_eq_getElem this]; rfl
@[simp] theorem row_part (bs : List Bool) (k : Nat) : gSl (.str (rowS bs)) none (some (k : Int)) = some (.str (rowS (bs.take k))) := by
  unfold gSl cutS
  simp only [HT.sIx_none, HT.sIx_nat, rowS_len, row_signs, List.drop_zero, Nat.sub_zero]
  unfold rowS
  rw [← List.map_take]
  congr 4
  simp [List.take_eq_take_iff]
@[simp] theorem row_part11 (bs : List Bool) : gSl (.str (rowS bs)) none (some 11) = some (.str (rowS (bs.take 11))) := row_part bs 11
theorem count_cs (c : Nat) : ∀ cs : List Nat, Spec.countIn (.str ⟨#[c]⟩) (cs.map fun n => PyData.str ⟨#[n]⟩) = (cs.count c : Nat)
  | [] => rfl
  | a :: r => by
    simp only [List.map_cons, Spec.countIn]
    rw [count_cs c r, List.count_cons]
    by_cases h : a = c
    · subst h; simp [Spec.same]; omega
    · simp [Spec.same, h]
@[simp] theorem row_count (bs : List Bool) : gCount (.str (rowS bs)) (.str (sgS true)) = some (.int (bs.count true)) := by
  rw [← sg_one]
  show some (D.int (Txt.count (rowS bs) ⟨#[sgN true]⟩)) = _
  rw [PyProof.Rows.count_is, count_cs]
  congr 3
  rw [row_signs]
  induction bs with
  | nil => rfl
  | cons b r ih => rw [List.map_cons, List.count_cons, List.count_cons, ih]; cases b <;> rfl
theorem hall_eqok (hs : List (List Bool)) : D.eqok 9 (dHall hs) = true := eqoks_map (fun a => by simp [D.eqok]) hs
theorem hall_ne (hs : List (List Bool)) : gNe (.lst (hs.map fun bs => .str (rowS bs))) (.lst (hs.map fun bs => .str (rowS bs))) = some (.bl false) := by
  rw [gNe_of (hall_eqok hs) (hall_eqok hs), eqv_same 9 _ (hall_eqok hs)]; rfl
end SP

/-! SPo: the blocks of a hall, in plain Lean. -/
namespace SP
open PySem L2
/-- a seat stands at place i of the row -/
def st (bs : List Bool) (i : Int) : Bool := decide (0 ≤ i) && bs.getD i.toNat false
def seatB (hs : List (List Bool)) (r i : Int) : Bool := decide (0 ≤ r) && st (hs.getD r.toNat []) i
theorem st_nat (bs : List Bool) (k : Nat) : st bs (k : Int) = bs.getD k false := by simp [st]
/-- the blocks of a row from place p on, m seats standing just ahead -/
def gob (r : Int) : List Bool → Nat → Nat → List Rn
  | [], p, m => if 0 < m then [(r, (p : Int) - m, (m : Int))] else []
  | true :: t, p, m => gob r t (p + 1) (m + 1)
  | false :: t, p, m => (if 0 < m then [(r, (p : Int) - m, (m : Int))] else []) ++ gob r t (p + 1) 0
def blks (r : Int) : List (List Bool) → List Rn
  | [] => []
  | b :: t => gob r b 0 0 ++ blks (r + 1) t
theorem gob_len (r : Int) : ∀ (t : List Bool) (p m : Nat), (gob r t p m).length ≤ t.length + 1
  | [], p, m => by unfold gob; split <;> simp
  | true :: t, p, m => by unfold gob; have := gob_len r t (p + 1) (m + 1); simp; omega
  | false :: t, p, m => by
    unfold gob
    have := gob_len r t (p + 1) 0
    rw [List.length_append, List.length_cons]
    split <;> simp <;> omega
theorem blks_len : ∀ (hs : List (List Bool)) (r : Int), (∀ b ∈ hs, b.length ≤ 60) → (blks r hs).length ≤ 61 * hs.length
  | [], r, _ => by simp [blks]
  | b :: t, r, h => by
    have h1 := gob_len r b 0 0
    have h2 := blks_len t (r + 1) fun x hx => h x (List.mem_cons_of_mem _ hx)
    have h3 := h b List.mem_cons_self
    simp only [blks, List.length_append, List.length_cons]
    omega
def lexP (a b : Rn) : Prop := a.1 < b.1 ∨ a.1 = b.1 ∧ a.2.1 < b.2.1
structure GB (bs : List Bool) (s m : Int) : Prop where
  m1 : 1 ≤ m
  s0 : 0 ≤ s
  hi : s + m ≤ bs.length
  all : ∀ i, s ≤ i → i < s + m → st bs i = true
  lo : st bs (s - 1) = false
  up : st bs (s + m) = false
theorem st_rep {pre rest : List Bool} {m : Nat} {i : Int} (h : (pre.length : Int) ≤ i) (h2 : i < pre.length + m) : st (pre ++ (List.replicate m true ++ rest)) i = true := by
  obtain ⟨k, rfl⟩ := Int.eq_ofNat_of_zero_le (show 0 ≤ i by omega)
  rw [st_nat, List.getD_eq_getElem?_getD, List.getElem?_append_right (by omega), List.getElem?_append_left (by simp; omega), List.getElem?_replicate, if_pos (by omega)]
  rfl
theorem st_pre {pre rest : List Bool} (h : pre = [] ∨ ∃ q, pre = q ++ [false]) : st (pre ++ rest) ((pre.length : Int) - 1) = false := by
  rcases h with rfl | ⟨q, rfl⟩
  · simp [st]
  · have : ((q ++ [false]).length : Int) - 1 = (q.length : Nat) := by simp
    rw [this, st_nat]
    simp [List.getD_eq_getElem?_getD, List.append_assoc]
theorem gob_good (r : Int) : ∀ (t pre : List Bool) (m : Nat), (pre = [] ∨ ∃ q, pre = q ++ [false]) → ∀ x ∈ gob r t (pre.length + m) m, x.1 = r ∧ (pre.length : Int) ≤ x.2.1 ∧ GB (pre ++ (List.replicate m true ++ t)) x.2.1 x.2.2
  | [], pre, m, h, x, hx => by
    unfold gob at hx
    split at hx
    · rename_i hm
      have : x = (r, ((pre.length + m : Nat) : Int) - m, (m : Int)) := by simpa using hx
      subst this
      have e : ((pre.length + m : Nat) : Int) - m = pre.length := by omega
      refine ⟨rfl, by simp only [e]; omega, ?_⟩
      simp only [e]
      refine ⟨by omega, by omega, by simp, fun i h1 h2 => st_rep h1 h2, st_pre h, ?_⟩
      have : (pre.length : Int) + m = ((pre.length + m : Nat) : Int) := by omega
      rw [this, st_nat, List.getD_eq_getElem?_getD, List.getElem?_eq_none (by simp)]; rfl
    · cases hx
  | true :: t, pre, m, h, x, hx => by
    unfold gob at hx
    have := gob_good r t pre (m + 1) h x hx
    rwa [List.replicate_succ', List.append_assoc] at this
  | false :: t, pre, m, h, x, hx => by
    unfold gob at hx
    rcases List.mem_append.mp hx with q | q
    · split at q
      · rename_i hm
        have : x = (r, ((pre.length + m : Nat) : Int) - m, (m : Int)) := by simpa using q
        subst this
        have e : ((pre.length + m : Nat) : Int) - m = pre.length := by omega
        refine ⟨rfl, by simp only [e]; omega, ?_⟩
        simp only [e]
        refine ⟨by omega, by omega, by simp; omega, fun i h1 h2 => st_rep h1 h2, st_pre h, ?_⟩
        have : (pre.length : Int) + m = ((pre.length + m : Nat) : Int) := by omega
        rw [this, st_nat, List.getD_eq_getElem?_getD, List.getElem?_append_right (by omega), List.getElem?_append_right (by simp)]
        simp
      · cases q
    · have e : pre.length + m + 1 = (pre ++ (List.replicate m true ++ [false])).length + 0 := by simp; omega
      rw [e] at q
      have := gob_good r t (pre ++ (List.replicate m true ++ [false])) 0 (.inr ⟨pre ++ List.replicate m true, by simp⟩) x q
      refine ⟨this.1, by have := this.2.1; simp at this; omega, ?_⟩
      have := this.2.2
      simpa using this
theorem gob_rise (r : Int) : ∀ (t : List Bool) (p m : Nat), m ≤ p → (gob r t p m).Pairwise lexP ∧ ∀ x ∈ gob r t p m, x.1 = r ∧ (p : Int) - m ≤ x.2.1
  | [], p, m, h => by
    unfold gob
    split
    · simp
    · simp
  | true :: t, p, m, h => by
    unfold gob
    have ih := gob_rise r t (p + 1) (m + 1) (by omega)
    refine ⟨ih.1, fun x hx => ?_⟩
    have := ih.2 x hx
    exact ⟨this.1, by have := this.2; omega⟩
  | false :: t, p, m, h => by
    unfold gob
    have ih := gob_rise r t (p + 1) 0 (by omega)
    split
    · rename_i hm
      refine ⟨?_, fun x hx => ?_⟩
      · rw [List.singleton_append, List.pairwise_cons]
        refine ⟨fun x hx => ?_, ih.1⟩
        have := ih.2 x hx
        refine .inr ⟨this.1.symm, ?_⟩
        have := this.2
        show (p : Int) - m < x.2.1
        omega
      · rcases List.mem_append.mp hx with q | q
        · have : x = (r, (p : Int) - m, (m : Int)) := by simpa using q
          subst this
          exact ⟨rfl, Int.le_refl _⟩
        · have := ih.2 x q
          exact ⟨this.1, by have := this.2; omega⟩
    · refine ⟨by simpa using ih.1, fun x hx => ?_⟩
      have := ih.2 x (by simpa using hx)
      exact ⟨this.1, by have := this.2; omega⟩
theorem blks_rise : ∀ (hs : List (List Bool)) (r : Int), (blks r hs).Pairwise lexP ∧ ∀ x ∈ blks r hs, r ≤ x.1
  | [], r => by simp [blks]
  | b :: t, r => by
    have h1 := gob_rise r b 0 0 (Nat.le_refl _)
    have h2 := blks_rise t (r + 1)
    refine ⟨?_, fun x hx => ?_⟩
    · unfold blks
      rw [List.pairwise_append]
      refine ⟨h1.1, h2.1, fun x hx y hy => .inl ?_⟩
      have := (h1.2 x hx).1
      have := h2.2 y hy
      omega
    · unfold blks at hx
      rcases List.mem_append.mp hx with q | q
      · rw [(h1.2 x q).1]; exact Int.le_refl _
      · have := h2.2 x q; omega
theorem blks_good : ∀ (hs pre : List (List Bool)), ∀ x ∈ blks (pre.length : Nat) hs, 0 ≤ x.1 ∧ x.1.toNat < (pre ++ hs).length ∧ GB ((pre ++ hs).getD x.1.toNat []) x.2.1 x.2.2
  | [], pre, x, hx => by simp [blks] at hx
  | b :: t, pre, x, hx => by
    unfold blks at hx
    rcases List.mem_append.mp hx with q | q
    · have := gob_good (pre.length : Nat) b [] 0 (.inl rfl) x (by simpa using q)
      have e : x.1.toNat = pre.length := by rw [this.1]; simp
      refine ⟨by rw [this.1]; omega, by rw [e]; simp, ?_⟩
      rw [e]
      have g := this.2.2
      simpa [List.getD_eq_getElem?_getD] using g
    · have e : ((pre.length : Nat) : Int) + 1 = ((pre ++ [b]).length : Nat) := by simp
      rw [e] at q
      have := blks_good t (pre ++ [b]) x q
      simpa using this
/-- what blocks hold -/
def heldI : List Rn → Int
  | [] => 0
  | b :: t => b.2.2 + heldI t
theorem heldI_app (a b : List Rn) : heldI (a ++ b) = heldI a + heldI b := by
  induction a with
  | nil => simp [heldI]
  | cons x t ih => simp only [List.cons_append, heldI, ih]; omega
theorem gob_held (r : Int) : ∀ (t : List Bool) (p m : Nat), heldI (gob r t p m) = m + (t.count true : Nat)
  | [], p, m => by
    unfold gob
    split
    · simp [heldI]
    · simp [heldI]; omega
  | true :: t, p, m => by
    unfold gob
    rw [gob_held r t, List.count_cons]; simp; omega
  | false :: t, p, m => by
    unfold gob
    rw [heldI_app, gob_held r t, List.count_cons]
    split
    · simp [heldI]
    · simp [heldI]; omega
theorem blks_held : ∀ (hs : List (List Bool)) (r : Int), heldI (blks r hs) = (hs.map fun b => ((b.count true : Nat) : Int)).sum
  | [], r => rfl
  | b :: t, r => by
    simp only [blks, heldI_app, gob_held, blks_held t, List.map_cons, List.sum_cons]
    simp
theorem hall_get {hs : List (List Bool)} {i : Int} (h0 : 0 ≤ i) (h : i < hs.length) : atI (hs.map fun bs => D.str (rowS bs)) i = some (.str (rowS (hs.getD i.toNat []))) := by
  rw [atI_map, atI_of _ _ h0, List.getD_eq_getElem?_getD]
  have : i.toNat < hs.length := by omega
  rw [List.getElem?_eq_getElem this]; rfl
theorem seat_neg {hs : List (List Bool)} {r i : Int} (h : r < 0) : seatB hs r i = false := by
  unfold seatB; rw [decide_eq_false (by omega)]; rfl
theorem seat_over {hs : List (List Bool)} {r i : Int} (h : hs.length ≤ r) : seatB hs r i = false := by
  unfold seatB st
  rw [List.getD_eq_getElem?_getD (l := hs), List.getElem?_eq_none (by omega)]; simp
theorem seat_left {hs : List (List Bool)} {r i : Int} (h : i < 0) : seatB hs r i = false := by
  unfold seatB st; rw [decide_eq_false (show ¬ 0 ≤ i by omega)]; simp
theorem seat_right {hs : List (List Bool)} {r i : Int} (h : (hs.getD r.toNat []).length ≤ i) : seatB hs r i = false := by
  unfold seatB st
  rw [List.getD_eq_getElem?_getD (l := hs.getD r.toNat []), List.getElem?_eq_none (by omega)]; simp
theorem seat_in {hs : List (List Bool)} {r i : Int} (h : 0 ≤ r) (h2 : 0 ≤ i) : (hs.getD r.toNat []).getD i.toNat false = seatB hs r i := by
  unfold seatB st; rw [decide_eq_true h, decide_eq_true h2]; rfl
@[simp] theorem gLtT_2 (a b c d : Int) : gLtT (.tup [.int a, .int b]) (.tup [.int c, .int d]) = some (.bl (decide (a < c ∨ a = c ∧ b < d))) := by
  show some (D.bl (HT.lexLt [a, b] [c, d])) = _
  simp only [HT.lexLt]
  by_cases h : a = c
  · subst h
    by_cases h2 : b = d
    · subst h2; simp
    · simp [h2]
  · simp [h]
end SP

/-! SPp: while; dicts of taken seats. -/
namespace SP
open PySem L2
theorem while_then {c : EvT} {body g : EvS} (Rz : O → Prop) (S : Nat → Rho → Mu → Prop) (hs : ∀ m ρ μ, S m ρ μ → (c ρ μ = .ok false μ ∧ Rz (g ρ μ)) ∨ (c ρ μ = .ok true μ ∧ ∃ ρ' μ' m', m' < m ∧ body ρ μ = .nx ρ' μ' ∧ S m' ρ' μ')) :
    ∀ (n m : Nat) (ρ : Rho) (μ : Mu), m < n → S m ρ μ → Rz ((sWhile c body n ρ μ).seq g)
  | 0, _, _, _, h, _ => absurd h (Nat.not_lt_zero _)
  | n + 1, m, ρ, μ, h, s => by
    unfold sWhile
    rcases hs m ρ μ s with ⟨e, z⟩ | ⟨e, ρ', μ', m', hm, eb, s'⟩
    · rw [e]; exact z
    · rw [e]
      dsimp only
      rw [eb]
      exact while_then Rz S hs n m' ρ' μ' (by omega) s'
/-! ### d[k] = v -/
def R.put3 (n : Nat) (dv : D) (ρ : Rho) : R Sv → O
  | .ok y μ => match look μ y with
    | some k => putCell n k dv ρ μ
    | none => .no
  | .ex c μ => .ex c ρ μ
  | .no => .no
def R.put2 (fk : Ev) (dv : D) (ρ : Rho) : R Sv → O
  | .ok (.rf n) μ => (fk ρ μ).put3 n dv ρ
  | .ex c μ => .ex c ρ μ
  | _ => .no
def R.put1 (fd fk : Ev) (ρ : Rho) : R Sv → O
  | .ok (.im dv) μ => (fd ρ μ).put2 fk dv ρ
  | .ex c μ => .ex c ρ μ
  | _ => .no
@[simp] theorem sDPut_eq (fd fk fv : Ev) (ρ : Rho) (μ : Mu) : sDPut fd fk fv ρ μ = (fv ρ μ).put1 fd fk ρ := by
  unfold sDPut sE
  cases fv ρ μ with
  | ok v μ1 =>
    cases v with
    | im dv =>
      show (match fd ρ μ1 with | .ok v μ1 => _ | .ex c μ1 => _ | .no => _) = (fd ρ μ1).put2 fk dv ρ
      cases fd ρ μ1 with
      | ok x μ2 =>
        cases x with
        | im d => rfl
        | rf n =>
          show (match fk ρ μ2 with | .ok v μ1 => _ | .ex c μ1 => _ | .no => _) = (fk ρ μ2).put3 n dv ρ
          cases fk ρ μ2 <;> rfl
      | ex c μ2 => rfl
      | no => rfl
    | rf n => rfl
  | ex c μ1 => rfl
  | no => rfl
@[simp] theorem put1_ok (fd fk : Ev) (ρ : Rho) (dv : D) (μ : Mu) : (R.ok (.im dv) μ).put1 fd fk ρ = (fd ρ μ).put2 fk dv ρ := rfl
@[simp] theorem put2_ok (fk : Ev) (ρ : Rho) (n : Nat) (dv : D) (μ : Mu) : (R.ok (.rf n) μ).put2 fk dv ρ = (fk ρ μ).put3 n dv ρ := rfl
@[simp] theorem put3_im (ρ : Rho) (n : Nat) (dv k : D) (μ : Mu) : (R.ok (.im k) μ).put3 n dv ρ = putCell n k dv ρ μ := rfl
/-! ### seats taken -/
abbrev Pl := Int × Int
abbrev Tk := List (Pl × Str)
def kT (p : Pl × Str) : List Key × D := ([.inl p.1.1, .inl p.1.2], .str p.2)
def cTak (t : Tk) : Cell := .dt (t.map kT)
def dTak (t : Tk) : D := .dt (t.map kT)
def inT (t : Tk) (p : Pl) : Bool := t.any fun q => decide (q.1 = p)
def putT (t : Tk) (k : Pl) (v : Str) : Tk := if inT t k then t.map (fun q => if q.1 = k then (q.1, v) else q) else t ++ [(k, v)]
theorem key2 {a b c d : Int} : (([.inl a, .inl b] : List Key) = [.inl c, .inl d]) ↔ (a, b) = (c, d) := by simp
theorem any_kT (t : Tk) (a b : Int) : ((t.map kT).any fun kv => decide (kv.1 = [.inl a, .inl b])) = inT t (a, b) := by
  unfold inT
  induction t with
  | nil => rfl
  | cons q r ih =>
    rw [List.map_cons, List.any_cons, List.any_cons, ih]
    congr 1
    unfold kT
    simp only [key2]
theorem valD_some {t : Tk} {a b : Int} : (valD (t.map kT) [.inl a, .inl b]).isSome = inT t (a, b) := by
  rw [← any_kT]
  unfold valD
  rw [Option.isSome_map, Bool.eq_iff_iff, List.find?_isSome, List.any_eq_true]
@[simp] theorem gIn_tak (t : Tk) (a b : Int) : gIn (.tup [.int a, .int b]) (.dt (t.map kT)) = some (.bl (inT t (a, b))) := by
  show some (D.bl (valD (t.map kT) [.inl a, .inl b]).isSome) = _
  rw [valD_some]
@[simp] theorem gNotIn_tak (t : Tk) (a b : Int) : gNotIn (.tup [.int a, .int b]) (.dt (t.map kT)) = some (.bl (!inT t (a, b))) := by
  show some (D.bl (!(valD (t.map kT) [.inl a, .inl b]).isSome)) = _
  rw [valD_some]
theorem putD_tak (t : Tk) (a b : Int) (v : Str) : putD (t.map kT) [.inl a, .inl b] (.str v) = (putT t (a, b) v).map kT := by
  unfold putD putT
  rw [any_kT]
  split
  · rw [List.map_map, List.map_map]
    refine List.map_congr_left fun q _ => ?_
    simp only [Function.comp]
    unfold kT
    simp only [key2]
    split
    · rfl
    · rfl
  · rw [List.map_append]; rfl
def putO (t : Tk) (a b : Int) (v : Str) (n : Nat) (ρ : Rho) (μ : Mu) : O := if t.length < maxN then .nx ρ (μ.set n (cTak (putT t (a, b) v))) else .no
theorem putCell_tak {t : Tk} {n : Nat} {a b : Int} {v : Str} {ρ : Rho} {μ : Mu} (h : μ[n]? = some (cTak t)) (hl : t.length < maxN) : putCell n (.tup [.int a, .int b]) (.str v) ρ μ = .nx ρ (μ.set n (cTak (putT t (a, b) v))) := by
  have e : putCell n (.tup [.int a, .int b]) (.str v) ρ μ = if (t.map kT).length < maxN then O.nx ρ (μ.set n (.dt (putD (t.map kT) [.inl a, .inl b] (.str v)))) else .no := by
    unfold putCell
    rw [h]
    rfl
  rw [e, List.length_map, if_pos hl, putD_tak]
  rfl
@[simp] theorem inT_put (t : Tk) (k p : Pl) (v : Str) : inT (putT t k v) p = (inT t p || decide (k = p)) := by
  unfold putT
  split
  · rename_i h
    have e : inT (t.map fun q => if q.1 = k then (q.1, v) else q) p = inT t p := by
      unfold inT
      rw [List.any_map]
      congr 1
      funext q
      simp only [Function.comp]
      split <;> rfl
    rw [e]
    by_cases hk : k = p
    · subst hk; rw [h]; simp
    · simp [hk]
  · unfold inT
    rw [List.any_append]
    simp
theorem putT_len (t : Tk) (k : Pl) (v : Str) : (putT t k v).length ≤ t.length + 1 := by
  unfold putT
  split
  · rw [List.length_map]; omega
  · simp
theorem putT_new {t : Tk} {k : Pl} (v : Str) (h : inT t k = false) : putT t k v = t ++ [(k, v)] := by unfold putT; rw [h]; rfl
theorem putT_keys (t : Tk) (k : Pl) (v : Str) : ∀ q ∈ putT t k v, q.1 = k ∨ ∃ q' ∈ t, q'.1 = q.1 := by
  intro q hq
  unfold putT at hq
  split at hq
  · obtain ⟨a, ha, e⟩ := List.mem_map.mp hq
    split at e
    · rename_i h
      subst e
      exact .inl h
    · subst e
      exact .inr ⟨_, ha, rfl⟩
  · rcases List.mem_append.mp hq with h | h
    · exact .inr ⟨_, h, rfl⟩
    · have : q = (k, v) := by simpa using h
      rw [this]; exact .inl rfl
def okT (t : Tk) : Prop := ∀ q ∈ t, 0 ≤ q.1.1 ∧ q.1.1 < 64 ∧ 0 ≤ q.1.2 ∧ q.1.2 < 128
theorem okT.put {t : Tk} {k : Pl} {v : Str} (h : okT t) (hk : 0 ≤ k.1 ∧ k.1 < 64 ∧ 0 ≤ k.2 ∧ k.2 < 128) : okT (putT t k v) := by
  intro q hq
  rcases putT_keys t k v q hq with e | ⟨q', hq', e⟩
  · rw [e]; exact hk
  · rw [← e]; exact h q' hq'
def fDictD (μ : Mu) : Option D → R Cell
  | some (.dk kvs) => .ok (.dk kvs) μ
  | some (.dt kvs) => if kvs.all (fun p => pairK p.1) then .ok (.dt kvs) μ else .no
  | _ => .no
@[simp] theorem fDict_eq (a : Sv) (μ : Mu) : fDict a μ = fDictD μ (look μ a) := by
  unfold fDict
  cases look μ a with
  | none => rfl
  | some d => cases d <;> rfl
@[simp] theorem fDictD_dk (μ : Mu) (kvs : List (Key × D)) : fDictD μ (some (.dk kvs)) = .ok (.dk kvs) μ := rfl
theorem fDictD_tak {t : Tk} (μ : Mu) (h : okT t) : fDictD μ (some (.dt (t.map kT))) = .ok (.dt (t.map kT)) μ := by
  show (if (t.map kT).all (fun p => pairK p.1) = true then R.ok (Cell.dt (t.map kT)) μ else .no) = _
  rw [if_pos]
  rw [List.all_eq_true]
  intro p hp
  obtain ⟨q, hq, rfl⟩ := List.mem_map.mp hp
  have := h q hq
  simp [kT, pairK, this]
theorem strsT_tak : ∀ t : Tk, strsT (t.map kT) = some (t.map fun p => ([.inl p.1.1, .inl p.1.2], p.2))
  | [] => rfl
  | p :: r => by
    show (strsT (r.map kT)).map _ = _
    rw [strsT_tak r]; rfl
@[simp] theorem gNeT_tak (t : Tk) : gNeT (.dt (t.map kT)) (.dt (t.map kT)) = some (.bl false) := by
  show (match strsT (t.map kT), strsT (t.map kT) with
    | some x, some y => if x = y then some (D.bl false) else none
    | _, _ => none) = _
  rw [strsT_tak]
  dsimp only
  rw [if_pos rfl]
theorem small_mul {i j : Int} (h : SP.small64 j = true) : gMul (.int i) (.int j) = some (.int (i * j)) := by
  rw [gMul_int, h, Bool.or_true, if_pos rfl]
end SP

/-! SPq: free runs, in plain Lean. -/
namespace SP
open PySem L2
/-- the row's free seats, from place i on -/
def frR (t : Tk) (r : Int) : Nat → List Bool → List Bool
  | _, [] => []
  | i, b :: s => (b && !inT t (r, (i : Int))) :: frR t r (i + 1) s
def frH (t : Tk) : Nat → List (List Bool) → List (List Bool)
  | _, [] => []
  | k, b :: s => frR t (k : Int) 0 b :: frH t (k + 1) s
/-- what is free of m places from s on -/
def fl (t : Tk) (r : Int) (s m : Nat) : List Bool := (List.range m).map fun k => !inT t (r, ((s + k : Nat) : Int))
@[simp] theorem frR_len (t : Tk) (r : Int) : ∀ (bs : List Bool) (i : Nat), (frR t r i bs).length = bs.length
  | [], _ => rfl
  | _ :: s, i => by simp [frR, frR_len t r s]
@[simp] theorem frH_len (t : Tk) : ∀ (hs : List (List Bool)) (k : Nat), (frH t k hs).length = hs.length
  | [], _ => rfl
  | _ :: s, k => by simp [frH, frH_len t s]
@[simp] theorem fl_len (t : Tk) (r : Int) (s m : Nat) : (fl t r s m).length = m := by simp [fl]
theorem fl_zero (t : Tk) (r : Int) (s : Nat) : fl t r s 0 = [] := rfl
theorem fl_succ (t : Tk) (r : Int) (s m : Nat) : fl t r s (m + 1) = fl t r s m ++ [!inT t (r, ((s + m : Nat) : Int))] := by
  unfold fl; rw [List.range_succ, List.map_append]; rfl
theorem fl_get (t : Tk) (r : Int) (s m k : Nat) (h : k < m) : (fl t r s m).drop k = (!inT t (r, ((s + k : Nat) : Int))) :: (fl t r s m).drop (k + 1) := by
  rw [List.drop_eq_getElem_cons (by simpa using h)]
  congr 1
  simp [fl]
theorem frR_get (t : Tk) (r : Int) : ∀ (bs : List Bool) (i k : Nat), (frR t r i bs).getD k false = (bs.getD k false && !inT t (r, ((i + k : Nat) : Int)))
  | [], i, k => by simp [frR]
  | b :: s, i, 0 => by simp [frR]
  | b :: s, i, k + 1 => by
    have := frR_get t r s (i + 1) k
    rw [show i + 1 + k = i + (k + 1) by omega] at this
    simpa [frR] using this
theorem frH_get (t : Tk) : ∀ (hs : List (List Bool)) (k j : Nat), j < hs.length → (frH t k hs).getD j [] = frR t ((k + j : Nat) : Int) 0 (hs.getD j [])
  | [], k, j, h => by simp at h
  | b :: s, k, 0, h => by simp [frH]
  | b :: s, k, j + 1, h => by
    have := frH_get t s (k + 1) j (by simpa using h)
    rw [show k + 1 + j = k + (j + 1) by omega] at this
    simpa [frH] using this
theorem frH_mem (t : Tk) : ∀ (hs : List (List Bool)) (k : Nat), (∀ b ∈ hs, b.length ≤ 60) → ∀ b ∈ frH t k hs, b.length ≤ 60
  | [], _, _, b, hb => by simp [frH] at hb
  | a :: s, k, h, b, hb => by
    simp only [frH, List.mem_cons] at hb
    rcases hb with rfl | hb
    · rw [frR_len]; exact h a List.mem_cons_self
    · exact frH_mem t s (k + 1) (fun x hx => h x (List.mem_cons_of_mem _ hx)) b hb
theorem gob_split (r : Int) (s : List Bool) : ∀ (f : List Bool) (q k : Nat), gob r (f ++ false :: s) q k = gob r f q k ++ gob r s (q + f.length + 1) 0
  | [], q, k => by simp [gob]
  | true :: f, q, k => by
    have := gob_split r s f (q + 1) (k + 1)
    rw [show q + 1 + f.length + 1 = q + (true :: f).length + 1 by simp; omega] at this
    simpa [gob] using this
  | false :: f, q, k => by
    have := gob_split r s f (q + 1) 0
    rw [show q + 1 + f.length + 1 = q + (false :: f).length + 1 by simp; omega] at this
    simp only [List.cons_append, gob, this, List.append_assoc]
/-- the free runs of a block -/
def rIn (t : Tk) (b : Rn) : List Rn := gob b.1 (fl t b.1 b.2.1.toNat b.2.2.toNat) b.2.1.toNat 0
theorem runs_row (t : Tk) (r : Int) : ∀ (bs : List Bool) (p m : Nat), m ≤ p → (gob r bs p m).flatMap (rIn t) = gob r (fl t r (p - m) m ++ frR t r p bs) (p - m) 0
  | [], p, m, h => by
    by_cases h0 : 0 < m
    · have e : ((p : Int) - (m : Int)).toNat = p - m := by omega
      simp [gob, h0, rIn, e, frR]
    · have : m = 0 := by omega
      subst this
      simp [gob, fl_zero, frR]
  | true :: s, p, m, h => by
    have ih := runs_row t r s (p + 1) (m + 1) (by omega)
    rw [show p + 1 - (m + 1) = p - m by omega, fl_succ, show p - m + m = p by omega] at ih
    simpa [gob, frR] using ih
  | false :: s, p, m, h => by
    have ih := runs_row t r s (p + 1) 0 (by omega)
    simp only [fl_zero, List.nil_append, Nat.sub_zero] at ih
    simp only [gob, frR, Bool.false_and, List.flatMap_append, ih]
    rw [gob_split, fl_len, show p - m + m + 1 = p + 1 by omega]
    congr 1
    by_cases h0 : 0 < m
    · have e : ((p : Int) - (m : Int)).toNat = p - m := by omega
      simp [h0, rIn, e]
    · have : m = 0 := by omega
      subst this
      simp [fl_zero, gob]
theorem runs_hall (t : Tk) : ∀ (hs : List (List Bool)) (k : Nat), (blks (k : Int) hs).flatMap (rIn t) = blks (k : Int) (frH t k hs)
  | [], _ => rfl
  | b :: s, k => by
    have h1 := runs_row t (k : Int) b 0 0 (Nat.le_refl _)
    have h2 := runs_hall t s (k + 1)
    simp only [fl_zero, List.nil_append, Nat.sub_zero] at h1
    simp only [blks, frH, List.flatMap_append, h1]
    have e : ((k + 1 : Nat) : Int) = (k : Int) + 1 := by omega
    rw [e] at h2
    rw [h2]
/-! ### counting -/
def seatsR (r : Int) : Nat → List Bool → List Pl
  | _, [] => []
  | i, true :: s => (r, (i : Int)) :: seatsR r (i + 1) s
  | i, false :: s => seatsR r (i + 1) s
def seatsH : Nat → List (List Bool) → List Pl
  | _, [] => []
  | k, b :: s => seatsR (k : Int) 0 b ++ seatsH (k + 1) s
def lexQ (a b : Pl) : Prop := a.1 < b.1 ∨ a.1 = b.1 ∧ a.2 < b.2
theorem seatsR_rise (r : Int) : ∀ (bs : List Bool) (i : Nat), (seatsR r i bs).Pairwise lexQ ∧ ∀ x ∈ seatsR r i bs, x.1 = r ∧ (i : Int) ≤ x.2
  | [], i => by simp [seatsR]
  | true :: s, i => by
    have ih := seatsR_rise r s (i + 1)
    unfold seatsR
    rw [List.pairwise_cons]
    refine ⟨⟨fun x hx => .inr ⟨(ih.2 x hx).1.symm, ?_⟩, ih.1⟩, fun x hx => ?_⟩
    · have := (ih.2 x hx).2
      show (i : Int) < x.2
      omega
    · rcases List.mem_cons.mp hx with rfl | hx
      · exact ⟨rfl, Int.le_refl _⟩
      · have := ih.2 x hx
        exact ⟨this.1, by have := this.2; omega⟩
  | false :: s, i => by
    have ih := seatsR_rise r s (i + 1)
    unfold seatsR
    exact ⟨ih.1, fun x hx => ⟨(ih.2 x hx).1, by have := (ih.2 x hx).2; omega⟩⟩
theorem seatsH_rise : ∀ (hs : List (List Bool)) (k : Nat), (seatsH k hs).Pairwise lexQ ∧ ∀ x ∈ seatsH k hs, (k : Int) ≤ x.1
  | [], k => by simp [seatsH]
  | b :: s, k => by
    have h1 := seatsR_rise (k : Int) b 0
    have h2 := seatsH_rise s (k + 1)
    unfold seatsH
    rw [List.pairwise_append]
    refine ⟨⟨h1.1, h2.1, fun x hx y hy => .inl ?_⟩, fun x hx => ?_⟩
    · have := (h1.2 x hx).1
      have := h2.2 y hy
      omega
    · rcases List.mem_append.mp hx with q | q
      · rw [(h1.2 x q).1]; exact Int.le_refl _
      · have := h2.2 x q; omega
theorem seatsH_nodup (hs : List (List Bool)) (k : Nat) : (seatsH k hs).Nodup := by
  have := (seatsH_rise hs k).1
  refine this.imp fun {a b} h e => ?_
  subst e
  rcases h with h | ⟨_, h⟩ <;> exact absurd h (Int.lt_irrefl _)
theorem seatsR_free (t : Tk) (r : Int) : ∀ (bs : List Bool) (i : Nat), (frR t r i bs).count true = ((seatsR r i bs).filter fun p => !inT t p).length
  | [], i => rfl
  | true :: s, i => by
    have ih := seatsR_free t r s (i + 1)
    unfold frR seatsR
    rw [List.count_cons, ih, List.filter_cons]
    cases h : inT t (r, (i : Int)) <;> simp
  | false :: s, i => by
    have ih := seatsR_free t r s (i + 1)
    unfold frR seatsR
    rw [List.count_cons, ih]
    simp
theorem seatsR_len (r : Int) : ∀ (bs : List Bool) (i : Nat), (seatsR r i bs).length = bs.count true
  | [], i => rfl
  | true :: s, i => by
    unfold seatsR
    rw [List.length_cons, seatsR_len r s, List.count_cons]; simp
  | false :: s, i => by
    unfold seatsR
    rw [seatsR_len r s, List.count_cons]; simp
theorem seatsH_free (t : Tk) : ∀ (hs : List (List Bool)) (k : Nat), ((frH t k hs).map fun b => ((b.count true : Nat) : Int)).sum = (((seatsH k hs).filter fun p => !inT t p).length : Nat)
  | [], _ => rfl
  | b :: s, k => by
    unfold frH seatsH
    rw [List.map_cons, List.sum_cons, seatsH_free t s, seatsR_free, List.filter_append, List.length_append]
    omega
theorem seatsH_len : ∀ (hs : List (List Bool)) (k : Nat), ((seatsH k hs).length : Int) = (hs.map fun b => ((b.count true : Nat) : Int)).sum
  | [], _ => rfl
  | b :: s, k => by
    have := seatsH_len s (k + 1)
    unfold seatsH
    rw [List.map_cons, List.sum_cons, ← this, List.length_append, seatsR_len]
    omega
theorem sub_count {α : Type} {p : α → Bool} : ∀ {ks l : List α}, ks.Sublist l → l.Nodup → (∀ x ∈ l, p x = true ↔ x ∈ ks) → (l.filter fun x => !p x).length + ks.length = l.length
  | _, _, .slnil, _, _ => rfl
  | ks, _, .cons (l₂ := l) a h, hn, hp => by
    rw [List.nodup_cons] at hn
    have ha : a ∉ ks := fun z => hn.1 (h.subset z)
    have pa : p a = false := by
      cases e : p a with
      | false => rfl
      | true => exact absurd ((hp a List.mem_cons_self).mp e) ha
    have ih := sub_count h hn.2 fun x hx => hp x (List.mem_cons_of_mem _ hx)
    rw [List.filter_cons, pa]
    simp
    omega
  | _, _, .cons₂ (l₁ := ks) (l₂ := l) a h, hn, hp => by
    rw [List.nodup_cons] at hn
    have pa : p a = true := (hp a List.mem_cons_self).mpr List.mem_cons_self
    have ih := sub_count h hn.2 fun x hx => by
      rw [hp x (List.mem_cons_of_mem _ hx), List.mem_cons]
      constructor
      · rintro (rfl | q)
        · exact absurd hx hn.1
        · exact q
      · exact .inr
    rw [List.filter_cons, pa]
    simp
    omega
theorem inT_mem (t : Tk) (p : Pl) : inT t p = true ↔ p ∈ t.map (·.1) := by
  unfold inT
  rw [List.any_eq_true, List.mem_map]
  constructor
  · rintro ⟨q, hq, e⟩; exact ⟨q, hq, by simpa using e⟩
  · rintro ⟨q, hq, e⟩; exact ⟨q, hq, by simpa using e⟩
theorem free_held {t : Tk} {hs : List (List Bool)} (h : (t.map (·.1)).Sublist (seatsH 0 hs)) : heldI (blks 0 (frH t 0 hs)) = heldI (blks 0 hs) - t.length := by
  rw [blks_held, blks_held, seatsH_free, ← seatsH_len hs 0]
  have := sub_count (p := inT t) h (seatsH_nodup hs 0) fun x _ => inT_mem t x
  rw [List.length_map] at this
  omega
theorem seatsR_snoc (r : Int) (b : Bool) : ∀ (bs : List Bool) (i : Nat), seatsR r i (bs ++ [b]) = seatsR r i bs ++ if b then [(r, ((i + bs.length : Nat) : Int))] else []
  | [], i => by cases b <;> simp [seatsR]
  | true :: s, i => by
    have := seatsR_snoc r b s (i + 1)
    rw [show i + 1 + s.length = i + (true :: s).length by simp; omega] at this
    simp only [List.cons_append, seatsR, this]
  | false :: s, i => by
    have := seatsR_snoc r b s (i + 1)
    rw [show i + 1 + s.length = i + (false :: s).length by simp; omega] at this
    simp only [List.cons_append, seatsR, this]
theorem seatsH_snoc (b : List Bool) : ∀ (hs : List (List Bool)) (k : Nat), seatsH k (hs ++ [b]) = seatsH k hs ++ seatsR ((k + hs.length : Nat) : Int) 0 b
  | [], k => by simp [seatsH]
  | a :: s, k => by
    have := seatsH_snoc b s (k + 1)
    rw [show k + 1 + s.length = k + (a :: s).length by simp; omega] at this
    simp only [List.cons_append, seatsH, this, List.append_assoc]
end SP

/-! SPr: reckoning with objects, try, texts. -/
namespace SP
open PySem L2
/-! ### attributes -/
def R.fld (x : Str) : R Sv → R Sv
  | .ok (.rf n) μ => fldO x μ μ[n]?
  | .ex c μ => .ex c μ
  | _ => .no
@[simp] theorem dFld_eq (f : Ev) (x : Str) (ρ : Rho) (μ : Mu) : dFld f x ρ μ = (f ρ μ).fld x := by
  unfold dFld
  cases f ρ μ with
  | ok v μ1 => cases v <;> rfl
  | ex c μ1 => rfl
  | no => rfl
@[simp] theorem fld_ok (x : Str) (n : Nat) (μ : Mu) : (R.ok (.rf n) μ).fld x = fldO x μ μ[n]? := rfl
def fldW (μ : Mu) : Option Sv → R Sv
  | some w => .ok w μ
  | none => .no
@[simp] theorem fldO_ob (x : Str) (μ : Mu) (fs : List (Str × Sv)) : fldO x μ (some (.ob fs)) = fldW μ (fs.lookup x) := by
  unfold fldO
  dsimp only
  cases fs.lookup x <;> rfl
@[simp] theorem fldW_ok (μ : Mu) (w : Sv) : fldW μ (some w) = .ok w μ := rfl
def R.fp2 (x : Str) (v : Sv) (ρ : Rho) : R Sv → O
  | .ok (.rf n) μ => fldP x v n ρ μ μ[n]?
  | .ex c μ => .ex c ρ μ
  | _ => .no
def R.fp (fo : Ev) (x : Str) (ρ : Rho) : R Sv → O
  | .ok v μ => (fo ρ μ).fp2 x v ρ
  | .ex c μ => .ex c ρ μ
  | .no => .no
@[simp] theorem sFld_eq (fo : Ev) (x : Str) (fv : Ev) (ρ : Rho) (μ : Mu) : SP.sFld fo x fv ρ μ = (fv ρ μ).fp fo x ρ := by
  unfold SP.sFld sE
  cases fv ρ μ with
  | ok v μ1 =>
    show (match fo ρ μ1 with | .ok v μ1 => _ | .ex c μ1 => _ | .no => _) = (fo ρ μ1).fp2 x v ρ
    cases fo ρ μ1 with
    | ok w μ2 => cases w <;> rfl
    | ex c μ2 => rfl
    | no => rfl
  | ex c μ1 => rfl
  | no => rfl
@[simp] theorem fp_ok (fo : Ev) (x : Str) (ρ : Rho) (v : Sv) (μ : Mu) : (R.ok v μ).fp fo x ρ = (fo ρ μ).fp2 x v ρ := rfl
@[simp] theorem fp_ex (fo : Ev) (x : Str) (ρ : Rho) (c : Xn) (μ : Mu) : (R.ex c μ).fp fo x ρ = .ex c ρ μ := rfl
@[simp] theorem fp2_ok (x : Str) (v : Sv) (ρ : Rho) (n : Nat) (μ : Mu) : (R.ok (.rf n) μ).fp2 x v ρ = fldP x v n ρ μ μ[n]? := rfl
@[simp] theorem fldP_ob (x : Str) (v : Sv) (n : Nat) (ρ : Rho) (μ : Mu) (fs : List (Str × Sv)) : fldP x v n ρ μ (some (.ob fs)) = if fs.length < 100 then .nx ρ (μ.set n (.ob (putFd x v fs))) else .no := rfl
/-! ### methods -/
def R.mth (m : Str) (F : List Sv → Mu → R Sv) (g : EvA) (ρ : Rho) : R Sv → R Sv
  | .ok (.rf n) μ => methO m (fun μ => (g ρ μ).bind fun vs μ2 => F (.rf n :: vs) μ2) μ μ[n]?
  | .ex c μ => .ex c μ
  | _ => .no
@[simp] theorem dMeth_eq (m : Str) (F : List Sv → Mu → R Sv) (fo : Ev) (g : EvA) (ρ : Rho) (μ : Mu) : dMeth m F fo g ρ μ = (fo ρ μ).mth m F g ρ := by
  unfold dMeth
  cases fo ρ μ with
  | ok v μ1 => cases v <;> rfl
  | ex c μ1 => rfl
  | no => rfl
@[simp] theorem mth_ok (m : Str) (F : List Sv → Mu → R Sv) (g : EvA) (ρ : Rho) (n : Nat) (μ : Mu) : (R.ok (.rf n) μ).mth m F g ρ = methO m (fun μ => (g ρ μ).bind fun vs μ2 => F (.rf n :: vs) μ2) μ μ[n]? := rfl
@[simp] theorem methO_ob (m : Str) (k : Mu → R Sv) (μ : Mu) (fs : List (Str × Sv)) : methO m k μ (some (.ob fs)) = if (fs.lookup m).isNone then k μ else .no := rfl
def R.mk2 (n : Nat) : R Sv → R Sv
  | .ok (.im .non) μ => .ok (.rf n) μ
  | .ex c μ => .ex c μ
  | _ => .no
def R.mk (F : List Sv → Mu → R Sv) : R (List Sv) → R Sv
  | .ok vs μ => (F (.rf μ.length :: vs) (μ ++ [.ob []])).mk2 μ.length
  | .ex c μ => .ex c μ
  | .no => .no
@[simp] theorem dMake_eq (F : List Sv → Mu → R Sv) (g : EvA) (ρ : Rho) (μ : Mu) : dMake F g ρ μ = (g ρ μ).mk F := by
  unfold dMake
  cases g ρ μ with
  | ok vs μ1 =>
    show (F (.rf μ1.length :: vs) (μ1 ++ [.ob []])).bind _ = (F (.rf μ1.length :: vs) (μ1 ++ [.ob []])).mk2 μ1.length
    cases F (.rf μ1.length :: vs) (μ1 ++ [.ob []]) with
    | ok v μ2 =>
      cases v with
      | im d => cases d <;> rfl
      | rf n => rfl
    | ex c μ2 => rfl
    | no => rfl
  | ex c μ1 => rfl
  | no => rfl
@[simp] theorem mk_ok (F : List Sv → Mu → R Sv) (vs : List Sv) (μ : Mu) : (R.ok vs μ).mk F = (F (.rf μ.length :: vs) (μ ++ [.ob []])).mk2 μ.length := rfl
@[simp] theorem mk2_ok (n : Nat) (μ : Mu) : (R.ok (.im .non) μ).mk2 n = .ok (.rf n) μ := rfl
@[simp] theorem mk2_ex (n : Nat) (c : Xn) (μ : Mu) : (R.ex c μ).mk2 n = .ex c μ := rfl
/-! ### try -/
def O.tr (U : List Xn) (hs : List (List Xn × EvS)) : O → O
  | .ex c ρ μ => if c ∈ U then catchO U c ρ μ hs else .no
  | o => o
@[simp] theorem sTry_eq (U : List Xn) (b : EvS) (hs : List (List Xn × EvS)) (ρ : Rho) (μ : Mu) : sTry U b hs ρ μ = (b ρ μ).tr U hs := by unfold sTry; cases b ρ μ <;> rfl
@[simp] theorem tr_ex (U : List Xn) (hs : List (List Xn × EvS)) (c : Xn) (ρ : Rho) (μ : Mu) : (O.ex c ρ μ).tr U hs = if c ∈ U then catchO U c ρ μ hs else .no := rfl
@[simp] theorem tr_nx (U : List Xn) (hs : List (List Xn × EvS)) (ρ : Rho) (μ : Mu) : (O.nx ρ μ).tr U hs = .nx ρ μ := rfl
@[simp] theorem tr_rt (U : List Xn) (hs : List (List Xn × EvS)) (v : Sv) (μ : Mu) : (O.rt v μ).tr U hs = .rt v μ := rfl
@[simp] theorem catch_cons (U : List Xn) (c : Xn) (ρ : Rho) (μ : Mu) (S : List Xn) (h : EvS) (r : List (List Xn × EvS)) : catchO U c ρ μ ((S, h) :: r) = if c ∈ S then h ρ μ else catchO U c ρ μ r := rfl
/-! ### texts -/
def jnO (z : Str) (μ : Mu) : Option D → R Sv
  | some d => ofO μ (gJoin z d)
  | none => .no
def R.jn2 (z : Str) : R Sv → R Sv
  | .ok b μ => jnO z μ (look μ b)
  | .ex c μ => .ex c μ
  | .no => .no
def R.jn (fb : Ev) (ρ : Rho) : R Sv → R Sv
  | .ok (.im (.str z)) μ => (fb ρ μ).jn2 z
  | .ex c μ => .ex c μ
  | _ => .no
@[simp] theorem dJoin_eq (fa fb : Ev) (ρ : Rho) (μ : Mu) : dJoin fa fb ρ μ = (fa ρ μ).jn fb ρ := by
  unfold dJoin
  cases fa ρ μ with
  | ok a μ1 =>
    cases a with
    | im d =>
      cases d with
      | str z =>
        show (fb ρ μ1).bind _ = (fb ρ μ1).jn2 z
        cases fb ρ μ1 with
        | ok b μ2 =>
          show (match look μ2 b with | some d => _ | none => _) = jnO z μ2 (look μ2 b)
          cases look μ2 b with
          | none => rfl
          | some d => show (match gJoin z d with | some r => _ | none => _) = ofO μ2 (gJoin z d); cases gJoin z d <;> rfl
        | ex c μ2 => rfl
        | no => rfl
      | _ => rfl
    | rf n => rfl
  | ex c μ1 => rfl
  | no => rfl
@[simp] theorem jn_ok (fb : Ev) (ρ : Rho) (z : Str) (μ : Mu) : (R.ok (.im (.str z)) μ).jn fb ρ = (fb ρ μ).jn2 z := rfl
@[simp] theorem jn2_ok (z : Str) (b : Sv) (μ : Mu) : (R.ok b μ).jn2 z = jnO z μ (look μ b) := rfl
@[simp] theorem jnO_ok (z : Str) (μ : Mu) (d : D) : jnO z μ (some d) = ofO μ (gJoin z d) := rfl
@[simp] theorem gIntE_int (i : Int) : gIntE (.int i) = some (.int i) := rfl
@[simp] theorem gIntE_bl (b : Bool) : gIntE (.bl b) = some (.int (if b then 1 else 0)) := rfl
end SP

/-! SPs: texts cut and joined, numbers as texts, names. -/
namespace SP
open PySem L2
/-! ### texts as lists of numbers -/
def tx (l : List Nat) : Str := ⟨l.toArray⟩
@[simp] theorem tx_list (l : List Nat) : (tx l).cps.toList = l := rfl
@[simp] theorem tx_len (l : List Nat) : (tx l).length = l.length := by simp [tx, Str.length]
theorem tx_of (s : Str) : tx s.cps.toList = s := by cases s; rfl
@[simp] theorem tx_app (a b : List Nat) : tx a ++ tx b = tx (a ++ b) := by
  show Str.append _ _ = _
  unfold Str.append tx
  simp
theorem tx_inj {a b : List Nat} (h : tx a = tx b) : a = b := congrArg (fun s : Str => s.cps.toList) h
@[simp] theorem tx_eq (a b : List Nat) : (tx a = tx b) ↔ a = b := ⟨tx_inj, fun h => by rw [h]⟩
theorem app_list (a b : Str) : (a ++ b).cps.toList = a.cps.toList ++ b.cps.toList := by
  show (Str.append a b).cps.toList = _
  unfold Str.append
  simp
/-! ### cut -/
def hdL (p : List Nat) : List (List Nat) → List (List Nat)
  | [] => [p]
  | x :: t => (p ++ x) :: t
def cutK (y : List Nat) : Nat → List Nat → List (List Nat)
  | _, [] => [[]]
  | 0, c :: r => if y.isPrefixOf (c :: r) then [] :: cutK y (y.length - 1) r else hdL [c] (cutK y 0 r)
  | k + 1, _ :: r => cutK y k r
theorem cutK_drop (y : List Nat) : ∀ (k : Nat) (l : List Nat), cutK y k l = cutK y 0 (l.drop k)
  | 0, l => by simp
  | k + 1, [] => by simp [cutK]
  | k + 1, c :: r => by simp only [cutK, List.drop_succ_cons]; exact cutK_drop y k r
theorem cutK_ne (y : List Nat) : ∀ (l : List Nat) (k : Nat), cutK y k l ≠ []
  | [], k => by cases k <;> simp [cutK]
  | c :: r, 0 => by
    unfold cutK
    split
    · simp
    · cases h : cutK y 0 r <;> simp [hdL]
  | c :: r, k + 1 => by unfold cutK; exact cutK_ne y r k
theorem cutK_at {y l : List Nat} (hy : y ≠ []) (h : y <+: l) : cutK y 0 l = [] :: cutK y 0 (l.drop y.length) := by
  cases l with
  | nil => exact absurd (List.prefix_nil.mp h) hy
  | cons c r =>
    have e : y.isPrefixOf (c :: r) = true := List.isPrefixOf_iff_prefix.mpr h
    conv => lhs; unfold cutK
    rw [e, if_pos rfl, cutK_drop]
    cases y with
    | nil => exact absurd rfl hy
    | cons a t => simp only [List.length_cons, Nat.add_sub_cancel, List.drop_succ_cons]
theorem hdL_hdL (a b : List Nat) (t : List (List Nat)) : hdL a (hdL b t) = hdL (a ++ b) t := by
  cases t <;> simp [hdL]
theorem cutK_till {y : List Nat} : ∀ (n : Nat) (l : List Nat), n ≤ l.length → (∀ k, k < n → ¬ y <+: l.drop k) → cutK y 0 l = hdL (l.take n) (cutK y 0 (l.drop n))
  | 0, l, _, _ => by
    have := cutK_ne y l 0
    cases h : cutK y 0 l with
    | nil => exact absurd h this
    | cons x t => simp [h, hdL]
  | n + 1, [], h, _ => by simp at h
  | n + 1, c :: r, h, hn => by
    have h0 := hn 0 (Nat.succ_pos _)
    have e : y.isPrefixOf (c :: r) = false := by
      cases q : y.isPrefixOf (c :: r) with
      | false => rfl
      | true => exact absurd (List.isPrefixOf_iff_prefix.mp q) (by simpa using h0)
    have ih := cutK_till n r (by simpa using h) fun k hk => by simpa using hn (k + 1) (by omega)
    conv => lhs; unfold cutK
    rw [e, if_neg (by simp), ih, hdL_hdL]
    simp
/-- up to a first sign -/
theorem cutK_skip {y0 : Nat} {ys p r : List Nat} (h : ∀ c ∈ p, c ≠ y0) : cutK (y0 :: ys) 0 (p ++ r) = hdL p (cutK (y0 :: ys) 0 r) := by
  have := cutK_till (y := y0 :: ys) p.length (p ++ r) (by simp) fun k hk hp => by
    rw [List.drop_append_of_le_length (by omega), List.drop_eq_getElem_cons hk] at hp
    rw [List.cons_append] at hp
    exact h _ (List.getElem_mem hk) (List.cons_prefix_cons.mp hp).1.symm
  simpa using this
theorem cutK_none {y0 : Nat} {ys p : List Nat} (h : ∀ c ∈ p, c ≠ y0) : cutK (y0 :: ys) 0 p = [p] := by
  have := cutK_skip (ys := ys) (r := []) h
  simpa [cutK, hdL] using this
theorem cutK_sep {y r : List Nat} (hy : y ≠ []) : cutK y 0 (y ++ r) = [] :: cutK y 0 r := by
  rw [cutK_at hy (List.prefix_append _ _), List.drop_left]
theorem cutK_part {y0 : Nat} {ys p r : List Nat} (h : ∀ c ∈ p, c ≠ y0) : cutK (y0 :: ys) 0 (p ++ ((y0 :: ys) ++ r)) = p :: cutK (y0 :: ys) 0 r := by
  rw [cutK_skip h, cutK_sep (by simp)]
  simp [hdL]
theorem at_iff {x y : Str} (hy : 1 ≤ y.length) (k : Nat) : StrLaws.At x y x.length k ↔ y.cps.toList <+: x.cps.toList.drop k := by
  have hx : x.cps.toList.length = x.length := by simp [Str.length]
  have hyl : y.cps.toList.length = y.length := by simp [Str.length]
  unfold StrLaws.At
  rw [StrLaws.subAt_eq, beq_iff_eq, List.prefix_iff_eq_take, hyl]
  constructor
  · rintro ⟨_, h⟩; exact h.symm
  · intro h
    refine ⟨?_, h.symm⟩
    have e := congrArg List.length h
    rw [List.length_take, List.length_drop, hx, hyl] at e
    omega
theorem cut_parts {x y : Str} (hy : 1 ≤ y.length) : ∀ (cuts : List Nat) (a f : Nat), a ≤ x.length → StrLaws.ChainG x y x.length a cuts f → (∀ k, f ≤ k → ¬ StrLaws.At x y x.length k) → (StrLaws.partsFrom x y.length a cuts).map (fun s => s.cps.toList) = cutK y.cps.toList 0 (x.cps.toList.drop a)
  | [], a, f, ha, h, hn => by
    have hx : x.cps.toList.length = x.length := by simp [Str.length]
    have e : f = a := h
    subst e
    have t := cutK_till (y := y.cps.toList) (x.length - f) (x.cps.toList.drop f) (by simp [hx]) fun k hk hp => by
      rw [List.drop_drop] at hp
      exact hn (f + k) (by omega) ((at_iff hy _).mpr hp)
    rw [t, List.drop_drop, show f + (x.length - f) = x.length by omega, (show x.cps.toList.drop x.length = [] from List.drop_eq_nil_of_le (by omega))]
    simp [StrLaws.partsFrom, StrLaws.strSub_toList, cutK, hdL]
  | c :: r, a, f, ha, h, hn => by
    have hx : x.cps.toList.length = x.length := by simp [Str.length]
    have hyl : y.cps.toList.length = y.length := by simp [Str.length]
    obtain ⟨h1, h2, h3, h4⟩ := h
    have hc := h2.1
    have ih := cut_parts hy r (c + y.length) f hc h4 hn
    have t := cutK_till (y := y.cps.toList) (c - a) (x.cps.toList.drop a) (by simp [hx]; omega) fun k hk hp => by
      rw [List.drop_drop] at hp
      exact h3 (a + k) (by omega) (by omega) ((at_iff hy _).mpr hp)
    rw [t, List.drop_drop, show a + (c - a) = c by omega, cutK_at (by intro z; rw [z] at hyl; simp at hyl; omega) ((at_iff hy _).mp h2), hyl, List.drop_drop, ← ih]
    simp [StrLaws.partsFrom, StrLaws.strSub_toList, hdL]
theorem kind_ge (x : Str) : ¬ Builtin.Str.strKind x < 1 := by
  unfold Builtin.Str.strKind
  split
  · omega
  · split <;> omega
theorem split_lists (x y : Str) (hy : 1 ≤ y.length) (hk : Builtin.Str.strKind y = 1) : (Txt.split x y).map (fun s => s.cps.toList) = cutK y.cps.toList 0 x.cps.toList := by
  have hx : x.cps.toList.length = x.length := by simp [Str.length]
  obtain ⟨f, hG, hn⟩ := StrLaws.occ_tight x y hy
  have key := cut_parts hy _ 0 f (Nat.zero_le _) hG hn
  rw [List.drop_zero] at key
  have hyl : y.cps.toList.length = y.length := by simp [Str.length]
  unfold Txt.split
  rw [hk]
  split
  · rename_i h
    have hl : x.length < y.length := by
      have := kind_ge x
      simpa [this] using h
    have t := cutK_till (y := y.cps.toList) x.length x.cps.toList (by omega) fun k hk hp => by
      have := hp.length_le
      rw [List.length_drop] at this
      omega
    rw [t, List.drop_eq_nil_of_le (by omega), List.take_of_length_le (by omega)]
    simp [cutK, hdL]
  · split
    · rename_i h
      rw [List.isEmpty_iff.mp h] at key
      rw [← key]
      simp [StrLaws.partsFrom, StrLaws.sub_whole]
    · rw [StrLaws.partsBetween_eq]; exact key
theorem split_tx (x y : Str) (hy : 1 ≤ y.length) (hk : Builtin.Str.strKind y = 1) : Txt.split x y = (cutK y.cps.toList 0 x.cps.toList).map tx := by
  rw [← split_lists x y hy hk, List.map_map]
  have : (tx ∘ fun s : Str => s.cps.toList) = id := by funext s; exact tx_of s
  rw [this, List.map_id]
/-! ### joined -/
def joinL (s : List Nat) : List (List Nat) → List Nat
  | [] => []
  | [x] => x
  | x :: y :: r => x ++ (s ++ joinL s (y :: r))
theorem join_tx (s : List Nat) : ∀ ls : List (List Nat), Str.join (tx s) (ls.map tx) = tx (joinL s ls)
  | [] => rfl
  | [x] => rfl
  | x :: y :: r => by
    have ih := join_tx s (y :: r)
    rw [List.map_cons] at ih
    show tx x ++ tx s ++ Str.join (tx s) (tx y :: r.map tx) = _
    rw [ih]
    simp [joinL]
theorem strs_tx : ∀ ls : List (List Nat), strsOf (ls.map fun l => SP.D.str (tx l)) = some (ls.map tx)
  | [] => rfl
  | x :: r => by
    show (strsOf (r.map fun l => SP.D.str (tx l))).map _ = _
    rw [strs_tx r]; rfl
theorem joinL_len (s : List Nat) : ∀ ls : List (List Nat), (joinL s ls).length ≤ (ls.map List.length).sum + ls.length * s.length
  | [] => by simp [joinL]
  | [x] => by simp [joinL]
  | x :: y :: r => by
    have ih := joinL_len s (y :: r)
    have e : (y :: r).length = r.length + 1 := rfl
    simp only [joinL, List.length_append, List.map_cons, List.sum_cons, List.length_cons, Nat.add_mul] at ih ⊢
    omega
def okC (l : List Nat) : Prop := ∀ c ∈ l, c < 0x110000
theorem joinL_ok {s : List Nat} (hs : okC s) : ∀ ls : List (List Nat), (∀ l ∈ ls, okC l) → okC (joinL s ls)
  | [], _ => by intro c hc; cases hc
  | [x], h => h x (by simp)
  | x :: y :: r, h => by
    have ih := joinL_ok hs (y :: r) fun l hl => h l (List.mem_cons_of_mem _ hl)
    intro c hc
    simp only [joinL, List.mem_append] at hc
    rcases hc with hc | hc | hc
    · exact h x (by simp) c hc
    · exact hs c hc
    · exact ih c hc
theorem goodSb_tx {l : List Nat} (h : okC l) (hl : l.length ≤ maxN) : goodSb (tx l) = true := by
  unfold goodSb
  rw [tx_len, decide_eq_true hl, Bool.true_and, ← Array.all_toList, tx_list, List.all_eq_true]
  intro c hc
  exact decide_eq_true (h c hc)
theorem gJoin_tx {s : List Nat} {ls : List (List Nat)} (hs : okC s) (hl : ∀ l ∈ ls, okC l) (hn : (ls.map List.length).sum + ls.length * s.length ≤ maxN) : gJoin (tx s) (.lst (ls.map fun l => .str (tx l))) = some (.str (tx (joinL s ls))) := by
  unfold gJoin
  dsimp only
  rw [strs_tx]
  have e : Txt.join (tx s) (ls.map tx) = tx (joinL s ls) := (StrLaws.glued_eq_join _ _).trans (join_tx s ls)
  have e2 : ((ls.map tx).map (fun x => x.length)) = ls.map List.length := by
    rw [List.map_map]
    exact List.map_congr_left fun l _ => tx_len l
  dsimp only
  rw [e, e2, List.length_map, tx_len, if_pos ⟨hn, goodSb_tx (joinL_ok hs ls hl) (Nat.le_trans (joinL_len s ls) hn)⟩]
theorem joinL_ones : ∀ cs : List Nat, joinL [] (cs.map fun c => [c]) = cs
  | [] => rfl
  | [x] => rfl
  | x :: y :: r => by
    have ih := joinL_ones (y :: r)
    rw [List.map_cons] at ih
    simp only [List.map_cons, joinL, List.nil_append]
    rw [ih]; rfl
theorem gJoin_ones {cs : List Nat} (hc : okC cs) (hn : cs.length ≤ maxN) : gJoin (tx []) (.lst (cs.map fun c => .str (tx [c]))) = some (.str (tx cs)) := by
  have := gJoin_tx (s := []) (ls := cs.map fun c => [c]) (by intro c hc; cases hc) (by
    intro l hl
    obtain ⟨c, hc2, rfl⟩ := List.mem_map.mp hl
    intro d hd
    have : d = c := by simpa using hd
    rw [this]; exact hc c hc2) (by
    have e : ((cs.map fun c => [c]).map List.length).sum = cs.length := by
      rw [List.map_map]
      induction cs with
      | nil => rfl
      | cons a r ih =>
        rw [List.map_cons, List.sum_cons, ih (fun c h => hc c (List.mem_cons_of_mem _ h)) (by simp at hn; omega)]
        simp; omega
    rw [e]
    simpa using hn)
  rw [joinL_ones, List.map_map] at this
  exact this
/-! ### split's equations -/
def R.sp2 (z : Str) : R Sv → R Cell
  | .ok (.im (.str w)) μ => fSplit z w μ
  | .ex c μ => .ex c μ
  | _ => .no
def R.sp1 (fb : Ev) (ρ : Rho) : R Sv → R Cell
  | .ok (.im (.str z)) μ => (fb ρ μ).sp2 z
  | .ex c μ => .ex c μ
  | _ => .no
@[simp] theorem dSplit_eq (fa fb : Ev) (ρ : Rho) (μ : Mu) : dSplit fa fb ρ μ = (fa ρ μ).sp1 fb ρ := by
  unfold dSplit
  cases fa ρ μ with
  | ok a μ1 =>
    cases a with
    | im d =>
      cases d with
      | str z =>
        show (fb ρ μ1).bind _ = (fb ρ μ1).sp2 z
        cases fb ρ μ1 with
        | ok b μ2 =>
          cases b with
          | im e => cases e <;> rfl
          | rf n => rfl
        | ex c μ2 => rfl
        | no => rfl
      | _ => rfl
    | rf n => rfl
  | ex c μ1 => rfl
  | no => rfl
@[simp] theorem sp1_ok (fb : Ev) (ρ : Rho) (z : Str) (μ : Mu) : (R.ok (.im (.str z)) μ).sp1 fb ρ = (fb ρ μ).sp2 z := rfl
@[simp] theorem sp2_ok (z w : Str) (μ : Mu) : (R.ok (.im (.str w)) μ).sp2 z = fSplit z w μ := rfl
theorem cutK_sub {y : List Nat} : ∀ (l : List Nat) (k : Nat), ∀ p ∈ cutK y k l, ∀ c ∈ p, c ∈ l
  | [], k, p, hp, c, hc => by
    have : p = [] := by cases k <;> simpa [cutK] using hp
    rw [this] at hc; exact hc
  | a :: r, 0, p, hp, c, hc => by
    unfold cutK at hp
    split at hp
    · rcases List.mem_cons.mp hp with rfl | hp
      · cases hc
      · exact List.mem_cons_of_mem _ (cutK_sub r _ p hp c hc)
    · have ih := cutK_sub (y := y) r 0
      cases h : cutK y 0 r with
      | nil => exact absurd h (cutK_ne _ _ _)
      | cons x t =>
        rw [h] at hp ih
        simp only [hdL, List.mem_cons] at hp
        rcases hp with rfl | hp
        · rcases List.mem_append.mp hc with hc | hc
          · have : c = a := by simpa using hc
            rw [this]; exact List.mem_cons_self
          · exact List.mem_cons_of_mem _ (ih x List.mem_cons_self c hc)
        · exact List.mem_cons_of_mem _ (ih p (List.mem_cons_of_mem _ hp) c hc)
  | a :: r, k + 1, p, hp, c, hc => by
    unfold cutK at hp
    exact List.mem_cons_of_mem _ (cutK_sub r k p hp c hc)
theorem cutK_short {y : List Nat} : ∀ (l : List Nat) (k : Nat), (cutK y k l).length ≤ l.length + 1 ∧ ∀ p ∈ cutK y k l, p.length ≤ l.length
  | [], k => by cases k <;> simp [cutK]
  | a :: r, 0 => by
    have i0 := cutK_short (y := y) r (y.length - 1)
    have i1 := cutK_short (y := y) r 0
    unfold cutK
    split
    · refine ⟨by simp; omega, fun p hp => ?_⟩
      rcases List.mem_cons.mp hp with rfl | hp
      · simp
      · have := i0.2 p hp; simp; omega
    · cases h : cutK y 0 r with
      | nil => exact absurd h (cutK_ne _ _ _)
      | cons x t =>
        rw [h] at i1
        refine ⟨by have := i1.1; simp [hdL] at this ⊢; omega, fun p hp => ?_⟩
        simp only [hdL, List.mem_cons] at hp
        rcases hp with rfl | hp
        · have := i1.2 x List.mem_cons_self
          simp; omega
        · have := i1.2 p (List.mem_cons_of_mem _ hp); simp; omega
  | a :: r, k + 1 => by
    have ih := cutK_short (y := y) r k
    unfold cutK
    exact ⟨by have := ih.1; simp; omega, fun p hp => by have := ih.2 p hp; simp; omega⟩
theorem fSplit_tx {x y : Str} (μ : Mu) (hy : 1 ≤ y.length) (hk : Builtin.Str.strKind y = 1) (hx : x.length < maxN) (hc : okC x.cps.toList) : fSplit x y μ = .ok (.lst ((cutK y.cps.toList 0 x.cps.toList).map fun l => .str (tx l))) μ := by
  have hxl : x.cps.toList.length = x.length := by simp [Str.length]
  have sh := cutK_short (y := y.cps.toList) x.cps.toList 0
  have ha : ((cutK y.cps.toList 0 x.cps.toList).map tx).all goodSb = true := by
    rw [List.all_eq_true]
    intro s hs
    obtain ⟨l, hl, rfl⟩ := List.mem_map.mp hs
    exact goodSb_tx (fun c h => hc c (cutK_sub _ _ l hl c h)) (by have := sh.2 l hl; omega)
  unfold fSplit
  rw [split_tx x y hy hk, if_pos ⟨by omega, by rw [List.length_map]; omega, ha⟩, List.map_map]
  rfl
/-! ### numbers as texts -/
def numL (i : Nat) : List Nat := if i < 10 then [48 + i] else [48 + i / 10, 48 + i % 10]
theorem num_str : ∀ i : Fin 100, (((toString ((i.val : Nat) : Int) : String) : Str)) = tx (numL i.val) := by decide +kernel
theorem num_val : ∀ i : Fin 100, PySem.intText? (tx (numL i.val)) = some ((i.val : Nat) : Int) := by decide +kernel
theorem numL_sign : ∀ i : Fin 100, ∀ c ∈ numL i.val, 48 ≤ c ∧ c ≤ 57 := by decide +kernel
theorem numL_len : ∀ i : Fin 100, 1 ≤ (numL i.val).length ∧ (numL i.val).length ≤ 2 ∧ ((numL i.val).length = 2 → (numL i.val).head? ≠ some 48) := by decide +kernel
theorem gStrE_num {i : Int} (h0 : 0 ≤ i) (h : i < 100) : gStrE (.int i) = some (.str (tx (numL i.toNat))) := by
  obtain ⟨k, rfl⟩ := Int.eq_ofNat_of_zero_le h0
  have hk : k < 100 := by omega
  have e := num_str ⟨k, hk⟩
  dsimp only at e
  unfold gStrE
  dsimp only
  rw [e, Int.toNat_natCast, if_pos]
  refine ⟨?_, goodSb_tx (fun c hc => by have := numL_sign ⟨k, hk⟩ c hc; omega) (by have := numL_len ⟨k, hk⟩; dsimp only at this; simp only [maxN]; omega)⟩
  have := Nat.log2_le_self (k : Int).natAbs
  omega
/-! ### names -/
def signs : List Nat := [97, 98, 99, 100, 101, 102, 103, 104, 105, 106, 107, 108, 109, 110, 111, 112, 113, 114, 115, 116, 117, 118, 119, 120, 121, 122, 48, 49, 50, 51, 52, 53, 54, 55, 56, 57, 45]
@[simp] theorem lit_signs : Str.ofString "abcdefghijklmnopqrstuvwxyz0123456789-" = tx signs := by rw [Str.ofString_eq_toList]; rfl
@[simp] theorem lit_digits : Str.ofString "0123456789" = tx [48, 49, 50, 51, 52, 53, 54, 55, 56, 57] := by rw [Str.ofString_eq_toList]; rfl
@[simp] theorem lit_colon : Str.ofString ": " = tx [58, 32] := by rw [Str.ofString_eq_toList]; rfl
@[simp] theorem lit_blank : Str.ofString " " = tx [32] := by rw [Str.ofString_eq_toList]; rfl
theorem lit_e2 : rowS [] = tx [] := rfl
theorem sg_dot : sgS false = tx [46] := rfl
def goodN (s : Str) : Prop := 1 ≤ s.length ∧ s.length ≤ 12 ∧ ∀ c ∈ s.cps.toList, c ∈ signs
def sg (i : Int) : Nat := signs.getD (i % 37).toNat 0
theorem signs_ok : ∀ c ∈ signs, c < 128 ∧ c ≠ 58 ∧ c ≠ 32 ∧ c ≠ 46 := by decide
theorem sg_mem (i : Int) : sg i ∈ signs := by
  have h : (i % 37).toNat < signs.length := by show _ < 37; omega
  unfold sg
  rw [List.getD_eq_getElem?_getD, List.getElem?_eq_getElem h]
  exact List.getElem_mem h
theorem sgn_inj {i j : Int} (h : sg i = sg j) : i % 37 = j % 37 := by
  have hi : (i % 37).toNat < signs.length := by show _ < 37; omega
  have hj : (j % 37).toNat < signs.length := by show _ < 37; omega
  unfold sg at h
  rw [List.getD_eq_getElem?_getD, List.getElem?_eq_getElem hi, List.getD_eq_getElem?_getD, List.getElem?_eq_getElem hj] at h
  have := (List.getElem_inj (show signs.Nodup by decide)).mp (show signs[(i % 37).toNat] = signs[(j % 37).toNat] from h)
  omega
theorem sign_ix (i : Int) : gIx (.str (tx signs)) (.int (i % 37)) = some (.str (tx [sg i])) := by
  have h : (i % 37).toNat < signs.length := by show _ < 37; omega
  rw [gIx_str, atI_of _ _ (by omega), tx_list, List.getElem?_eq_getElem h]
  unfold sg
  rw [List.getD_eq_getElem?_getD, List.getElem?_eq_getElem h]
  rfl
def wd (z : Int) : List Nat := (List.range 12).map fun (j : Nat) => sg (z + 5 * (j : Int))
theorem wd_len (z : Int) : (wd z).length = 12 := by simp [wd]
theorem wd_mem (z : Int) : ∀ c ∈ wd z, c ∈ signs := by
  intro c hc
  obtain ⟨j, _, rfl⟩ := List.mem_map.mp hc
  exact sg_mem _
def nameK (n k : Int) : List Nat :=
  if n % 3 = 0 then (wd (n / 36)).take (1 + (n / 3 + k) % 12).toNat
  else if n % 3 = 1 then (wd (n / 36)).take (n / 36 % (1 + n / 3 % 12)).toNat ++ [sg (n / 444 + k)] ++ ((wd (n / 36)).take (1 + n / 3 % 12).toNat).drop (n / 36 % (1 + n / 3 % 12) + 1).toNat
  else (wd (n / 36)).drop k.toNat ++ (wd (n / 36)).take k.toNat
theorem nameK_good (n k : Int) (h0 : 0 ≤ k) (h : k < 12) : goodN (tx (nameK n k)) := by
  have hw := wd_len (n / 36)
  have wm := wd_mem (n / 36)
  unfold goodN
  rw [tx_len, tx_list]
  unfold nameK
  split
  · refine ⟨by rw [List.length_take]; omega, by rw [List.length_take]; omega, fun c hc => wm c (List.mem_of_mem_take hc)⟩
  · split
    · have hp : 0 < 1 + n / 3 % 12 := by omega
      have m1 := Int.emod_nonneg (n / 36) (show (1 + n / 3 % 12) ≠ 0 by omega)
      have m2 := Int.emod_lt_of_pos (n / 36) hp
      refine ⟨by simp only [List.length_append, List.length_cons, List.length_nil]; omega, ?_, fun c hc => ?_⟩
      · simp only [List.length_append, List.length_take, List.length_drop, List.length_cons, List.length_nil, hw]
        omega
      · simp only [List.mem_append, List.mem_singleton] at hc
        rcases hc with (hc | rfl) | hc
        · exact wm c (List.mem_of_mem_take hc)
        · exact sg_mem _
        · exact wm c (List.mem_of_mem_take (List.mem_of_mem_drop hc))
    · refine ⟨by simp only [List.length_append, List.length_take, List.length_drop, hw]; omega, by simp only [List.length_append, List.length_take, List.length_drop, hw]; omega, fun c hc => ?_⟩
      rcases List.mem_append.mp hc with hc | hc
      · exact wm c (List.mem_of_mem_drop hc)
      · exact wm c (List.mem_of_mem_take hc)
theorem nameK_inj {n j k : Int} (j0 : 0 ≤ j) (j1 : j < 12) (k0 : 0 ≤ k) (k1 : k < 12) (h : nameK n j = nameK n k) : j = k := by
  have hw := wd_len (n / 36)
  unfold nameK at h
  split at h
  · have e := congrArg List.length h
    simp only [List.length_take, hw] at e
    omega
  · split at h
    · rw [List.append_assoc, List.append_assoc] at h
      have e := List.append_cancel_left h
      simp only [List.cons_append, List.nil_append, List.cons.injEq] at e
      have := sgn_inj e.1
      omega
    · have e := congrArg List.head? h
      have hd : ∀ m : Int, 0 ≤ m → m < 12 → ((wd (n / 36)).drop m.toNat ++ (wd (n / 36)).take m.toNat).head? = some (sg (n / 36 + 5 * m)) := by
        intro m m0 m1
        obtain ⟨q, rfl⟩ := Int.eq_ofNat_of_zero_le m0
        have hq : q < (wd (n / 36)).length := by rw [hw]; omega
        rw [Int.toNat_natCast, List.drop_eq_getElem_cons hq]
        simp [wd]
      rw [hd j j0 j1, hd k k0 k1] at e
      have := sgn_inj (Option.some.inj e)
      omega
def namesL (n : Int) (many : Nat) : List Str := (List.range many).map fun (k : Nat) => tx (nameK n (k : Int))
theorem namesL_len (n : Int) (many : Nat) : (namesL n many).length = many := by simp [namesL]
theorem namesL_good {n : Int} {many : Nat} (h : many ≤ 12) : ∀ s ∈ namesL n many, goodN s := by
  intro s hs
  obtain ⟨k, hk, rfl⟩ := List.mem_map.mp hs
  rw [List.mem_range] at hk
  exact nameK_good n k (by omega) (by omega)
theorem namesL_nodup {n : Int} {many : Nat} (h : many ≤ 12) : (namesL n many).Nodup := by
  unfold namesL
  rw [List.Nodup, List.pairwise_map]
  refine List.Pairwise.imp_of_mem ?_ (List.nodup_range (n := many))
  intro a b ha hb hab e
  rw [List.mem_range] at ha hb
  have := nameK_inj (j0 := by omega) (j1 := by omega) (k0 := by omega) (k1 := by omega) (tx_inj e)
  omega
/-! ### slices of lists -/
theorem sl_to {xs : List D} {b : Int} (h : 0 ≤ b) : gSl (.lst xs) none (some b) = some (.lst (xs.take b.toNat)) := by
  obtain ⟨k, rfl⟩ := Int.eq_ofNat_of_zero_le h
  unfold gSl
  simp only [HT.sIx_none, HT.sIx_nat, List.drop_zero, Nat.sub_zero, Int.toNat_natCast]
  congr 2
  simp [List.take_eq_take_iff]
theorem sl_from {xs : List D} {a : Int} (h : 0 ≤ a) : gSl (.lst xs) (some a) none = some (.lst (xs.drop a.toNat)) := by
  obtain ⟨k, rfl⟩ := Int.eq_ofNat_of_zero_le h
  unfold gSl
  simp only [HT.sIx_none, HT.sIx_nat, Int.toNat_natCast]
  congr 2
  rw [List.take_of_length_le (by simp)]
  by_cases hk : k ≤ xs.length
  · rw [Nat.min_eq_left hk]
  · rw [Nat.min_eq_right (by omega), List.drop_length, List.drop_eq_nil_of_le (by omega)]
theorem sl_lst {xs : List D} {a b : Int} (h : 0 ≤ a) (h2 : 0 ≤ b) : gSl (.lst xs) (some a) (some b) = some (.lst ((xs.take b.toNat).drop a.toNat)) := by
  obtain ⟨k, rfl⟩ := Int.eq_ofNat_of_zero_le h
  obtain ⟨m, rfl⟩ := Int.eq_ofNat_of_zero_le h2
  unfold gSl
  simp only [HT.sIx_nat, Int.toNat_natCast]
  congr 2
  rw [List.drop_take]
  by_cases hk : k ≤ xs.length
  · rw [Nat.min_eq_left hk]
    by_cases hm : m ≤ xs.length
    · rw [Nat.min_eq_left hm]
    · rw [Nat.min_eq_right (by omega), List.take_of_length_le (by simp), List.take_of_length_le (by simp; omega)]
  · rw [Nat.min_eq_right (show xs.length ≤ k by omega), List.drop_length, List.drop_eq_nil_of_le (show xs.length ≤ k by omega)]
    simp
/-! ### loops that stand last; comprehensions over ranges -/
theorem loop_end {i : Nat} {body : EvS} {ds : List D} {ρ : Rho} {μ : Mu} (Rz : O → Prop) (S : Nat → Rho → Mu → Prop) (h0 : S 0 ρ μ)
    (hs : ∀ k d ρ μ, ds[k]? = some d → S k ρ μ → ∃ ρ' μ', body (ρ.set i (some (.im d))) μ = .nx ρ' μ' ∧ S (k + 1) ρ' μ') (hd : ∀ ρ' μ', S ds.length ρ' μ' → Rz (.nx ρ' μ')) : Rz (loopL i body ds ρ μ) := by
  obtain ⟨ρ', μ', e, s⟩ := loop_nx S h0 hs
  rw [e]
  exact hd ρ' μ' s
theorem lc_end_range {i : Nat} {e : Ev} {ρ : Rho} {μ : Mu} {lo : Int} {n : Nat} (g : Nat → D) (he : ∀ k, k < n → e (ρ.set i (some (.im (.int (lo + (k : Int)))))) μ = .ok (.im (g k)) μ) : lcEnd (lcL i dYes e (rangeD lo n) ρ μ) = .ok (.lst ((List.range n).map g)) μ := by
  unfold rangeD
  exact lc_end_map (fun (k : Nat) => D.int (lo + (k : Int))) g (List.range n) fun k hk => he k (List.mem_range.mp hk)
@[simp] theorem notInS_one (c : Nat) (l : List Nat) : gNotInS (.str ⟨#[c]⟩) (.str (tx l)) = some (.bl (!decide (c ∈ l))) := rfl
@[simp] theorem inS_one (c : Nat) (l : List Nat) : gInS (.str ⟨#[c]⟩) (.str (tx l)) = some (.bl (decide (c ∈ l))) := rfl
theorem gAdd_tx {a b : List Nat} (h : a.length + b.length ≤ 1000) : gAdd (.str (tx a)) (.str (tx b)) = some (.str (tx (a ++ b))) := by
  rw [gAdd_str, tx_len, tx_len, if_pos (Nat.le_trans h (by decide)), tx_app]
end SP

/-! SPt: plans: groups and their seats; the cells of a plan. -/
namespace SP
open PySem L2
abbrev Held := List (Str × List Pl)
def dPl (p : Pl) : D := .tup [.int p.1, .int p.2]
def dSp (ps : List Pl) : D := .lst (ps.map dPl)
def kH (g : Str × List Pl) : Key × D := (.inr g.1, dSp g.2)
def dHeld (h : Held) : D := .dk (h.map kH)
def obP (hs : List (List Bool)) (h : Held) (m : Nat) : Cell := .ob [("hall", .im (dHall hs)), ("held", .im (dHeld h)), ("past", .rf m)]
theorem ne_hall_held : (("held" : Str) == ("hall" : Str)) = false := by decide +kernel
theorem ne_hall_past : (("past" : Str) == ("hall" : Str)) = false := by decide +kernel
theorem ne_held_past : (("past" : Str) == ("held" : Str)) = false := by decide +kernel
@[simp] theorem fld_hall (a b c : Sv) (m : Mu) : fldW m (List.lookup ("hall" : Str) [("hall", a), ("held", b), ("past", c)]) = .ok a m := by
  rw [List.lookup_cons, beq_self_eq_true]; rfl
@[simp] theorem fld_held (a b c : Sv) (m : Mu) : fldW m (List.lookup ("held" : Str) [("hall", a), ("held", b), ("past", c)]) = .ok b m := by
  rw [List.lookup_cons, ne_hall_held, List.lookup_cons, beq_self_eq_true]; rfl
@[simp] theorem fld_past (a b c : Sv) (m : Mu) : fldW m (List.lookup ("past" : Str) [("hall", a), ("held", b), ("past", c)]) = .ok c m := by
  rw [List.lookup_cons, ne_hall_past, List.lookup_cons, ne_held_past, List.lookup_cons, beq_self_eq_true]; rfl
@[simp] theorem put_held (a b c v : Sv) : putFd ("held" : Str) v [("hall", a), ("held", b), ("past", c)] = [(("hall" : Str), a), (("held" : Str), v), (("past" : Str), c)] := by
  have e : ¬ (("hall" : Str) = ("held" : Str)) := by decide +kernel
  unfold putFd; rw [if_neg e]
  unfold putFd; rw [if_pos rfl]
@[simp] theorem put_f1 (v : Sv) : putFd ("hall" : Str) v [] = [(("hall" : Str), v)] := rfl
@[simp] theorem put_f2 (a v : Sv) : putFd ("held" : Str) v [("hall", a)] = [(("hall" : Str), a), (("held" : Str), v)] := by
  have e : ¬ (("hall" : Str) = ("held" : Str)) := by decide +kernel
  unfold putFd; rw [if_neg e]; rfl
@[simp] theorem put_f3 (a b v : Sv) : putFd ("past" : Str) v [("hall", a), ("held", b)] = [(("hall" : Str), a), (("held" : Str), b), (("past" : Str), v)] := by
  have e : ¬ (("hall" : Str) = ("past" : Str)) := by decide +kernel
  have e2 : ¬ (("held" : Str) = ("past" : Str)) := by decide +kernel
  unfold putFd; rw [if_neg e]
  unfold putFd; rw [if_neg e2]; rfl
/-- the plan whose object is cell n, its deeds done in cell m -/
structure PL (μ : Mu) (n m : Nat) (hs : List (List Bool)) (h : Held) (past : List Held) : Prop where
  ob : μ[n]? = some (obP hs h m)
  pa : μ[m]? = some (.lst (past.map dHeld))
  ne : n ≠ m
  lo : Low μ
/-- the names of the methods are no attribute's -/
theorem no_meth {m : Str} {a b c : Sv} (h1 : (m == ("hall" : Str)) = false) (h2 : (m == ("held" : Str)) = false) (h3 : (m == ("past" : Str)) = false) : (List.lookup m [(("hall" : Str), a), (("held" : Str), b), (("past" : Str), c)]).isNone = true := by
  rw [List.lookup_cons, h1, List.lookup_cons, h2, List.lookup_cons, h3]; rfl
@[simp] theorem nm_taken (a b c : Sv) : List.lookup ("taken" : Str) [(("hall" : Str), a), (("held" : Str), b), (("past" : Str), c)] = none := Option.isNone_iff_eq_none.mp (no_meth (by decide +kernel) (by decide +kernel) (by decide +kernel))
@[simp] theorem nm_keep (a b c : Sv) : List.lookup ("keep" : Str) [(("hall" : Str), a), (("held" : Str), b), (("past" : Str), c)] = none := Option.isNone_iff_eq_none.mp (no_meth (by decide +kernel) (by decide +kernel) (by decide +kernel))
@[simp] theorem nm_need_new (a b c : Sv) : List.lookup ("need_new" : Str) [(("hall" : Str), a), (("held" : Str), b), (("past" : Str), c)] = none := Option.isNone_iff_eq_none.mp (no_meth (by decide +kernel) (by decide +kernel) (by decide +kernel))
@[simp] theorem nm_need_group (a b c : Sv) : List.lookup ("need_group" : Str) [(("hall" : Str), a), (("held" : Str), b), (("past" : Str), c)] = none := Option.isNone_iff_eq_none.mp (no_meth (by decide +kernel) (by decide +kernel) (by decide +kernel))
@[simp] theorem nm_given (a b c : Sv) : List.lookup ("given" : Str) [(("hall" : Str), a), (("held" : Str), b), (("past" : Str), c)] = none := Option.isNone_iff_eq_none.mp (no_meth (by decide +kernel) (by decide +kernel) (by decide +kernel))
@[simp] theorem nm_sit (a b c : Sv) : List.lookup ("sit" : Str) [(("hall" : Str), a), (("held" : Str), b), (("past" : Str), c)] = none := Option.isNone_iff_eq_none.mp (no_meth (by decide +kernel) (by decide +kernel) (by decide +kernel))
@[simp] theorem nm_apart (a b c : Sv) : List.lookup ("apart" : Str) [(("hall" : Str), a), (("held" : Str), b), (("past" : Str), c)] = none := Option.isNone_iff_eq_none.mp (no_meth (by decide +kernel) (by decide +kernel) (by decide +kernel))
@[simp] theorem nm_need_party (a b c : Sv) : List.lookup ("need_party" : Str) [(("hall" : Str), a), (("held" : Str), b), (("past" : Str), c)] = none := Option.isNone_iff_eq_none.mp (no_meth (by decide +kernel) (by decide +kernel) (by decide +kernel))
@[simp] theorem nm_party (a b c : Sv) : List.lookup ("party" : Str) [(("hall" : Str), a), (("held" : Str), b), (("past" : Str), c)] = none := Option.isNone_iff_eq_none.mp (no_meth (by decide +kernel) (by decide +kernel) (by decide +kernel))
@[simp] theorem nm_leave (a b c : Sv) : List.lookup ("leave" : Str) [(("hall" : Str), a), (("held" : Str), b), (("past" : Str), c)] = none := Option.isNone_iff_eq_none.mp (no_meth (by decide +kernel) (by decide +kernel) (by decide +kernel))
@[simp] theorem nm_shift (a b c : Sv) : List.lookup ("shift" : Str) [(("hall" : Str), a), (("held" : Str), b), (("past" : Str), c)] = none := Option.isNone_iff_eq_none.mp (no_meth (by decide +kernel) (by decide +kernel) (by decide +kernel))
@[simp] theorem nm_back (a b c : Sv) : List.lookup ("back" : Str) [(("hall" : Str), a), (("held" : Str), b), (("past" : Str), c)] = none := Option.isNone_iff_eq_none.mp (no_meth (by decide +kernel) (by decide +kernel) (by decide +kernel))
@[simp] theorem nm_free (a b c : Sv) : List.lookup ("free" : Str) [(("hall" : Str), a), (("held" : Str), b), (("past" : Str), c)] = none := Option.isNone_iff_eq_none.mp (no_meth (by decide +kernel) (by decide +kernel) (by decide +kernel))
@[simp] theorem nm_marks (a b c : Sv) : List.lookup ("marks" : Str) [(("hall" : Str), a), (("held" : Str), b), (("past" : Str), c)] = none := Option.isNone_iff_eq_none.mp (no_meth (by decide +kernel) (by decide +kernel) (by decide +kernel))
@[simp] theorem nm_groups (a b c : Sv) : List.lookup ("groups" : Str) [(("hall" : Str), a), (("held" : Str), b), (("past" : Str), c)] = none := Option.isNone_iff_eq_none.mp (no_meth (by decide +kernel) (by decide +kernel) (by decide +kernel))
@[simp] theorem nm_seats (a b c : Sv) : List.lookup ("seats" : Str) [(("hall" : Str), a), (("held" : Str), b), (("past" : Str), c)] = none := Option.isNone_iff_eq_none.mp (no_meth (by decide +kernel) (by decide +kernel) (by decide +kernel))
@[simp] theorem nm_who (a b c : Sv) : List.lookup ("who" : Str) [(("hall" : Str), a), (("held" : Str), b), (("past" : Str), c)] = none := Option.isNone_iff_eq_none.mp (no_meth (by decide +kernel) (by decide +kernel) (by decide +kernel))
/-! ### dicts of groups -/
def nmsH (h : Held) : List Str := h.map (·.1)
def allP (h : Held) : List Pl := h.flatMap (·.2)
def takL (h : Held) : Tk := h.flatMap fun g => g.2.map fun p => (p, g.1)
def getH (h : Held) (x : Str) : Option (List Pl) := (h.find? fun g => decide (g.1 = x)).map (·.2)
def putH (h : Held) (x : Str) (ps : List Pl) : Held := if x ∈ nmsH h then h.map (fun g => if g.1 = x then (g.1, ps) else g) else h ++ [(x, ps)]
def delH (h : Held) (x : Str) : Held := h.filter fun g => decide (g.1 ≠ x)
theorem valD_held (h : Held) (x : Str) : valD (h.map kH) (.inr x) = (getH h x).map dSp := by
  unfold valD getH
  rw [List.find?_map, Option.map_map, Option.map_map]
  have e : ((fun kv : Key × D => decide (kv.1 = .inr x)) ∘ kH) = fun g : Str × List Pl => decide (g.1 = x) := by
    funext g; simp [kH]
  rw [e]; rfl
theorem getH_none {h : Held} {x : Str} : getH h x = none ↔ x ∉ nmsH h := by
  unfold getH nmsH
  rw [Option.map_eq_none_iff, List.find?_eq_none]
  constructor
  · intro q hm
    obtain ⟨g, hg, rfl⟩ := List.mem_map.mp hm
    exact q g hg (by simp)
  · intro q g hg e
    exact q (List.mem_map.mpr ⟨g, hg, by simpa using e⟩)
theorem getH_isSome {h : Held} {x : Str} : (getH h x).isSome = decide (x ∈ nmsH h) := by
  cases e : getH h x with
  | none => rw [decide_eq_false (getH_none.mp e)]; rfl
  | some a =>
    rw [decide_eq_true]; rfl
    apply Decidable.byContradiction
    intro q
    rw [getH_none.mpr q] at e; cases e
theorem gIn_held (h : Held) (x : Str) : gIn (.str x) (dHeld h) = some (.bl (decide (x ∈ nmsH h))) := by
  show some (D.bl (valD (h.map kH) (.inr x)).isSome) = _
  rw [valD_held, Option.isSome_map, getH_isSome]
theorem gNotIn_held (h : Held) (x : Str) : gNotIn (.str x) (dHeld h) = some (.bl (!decide (x ∈ nmsH h))) := by
  show some (D.bl (!(valD (h.map kH) (.inr x)).isSome)) = _
  rw [valD_held, Option.isSome_map, getH_isSome]
theorem gDGet_held {h : Held} {x : Str} {ps : List Pl} (e : getH h x = some ps) : gDGet (dHeld h) (.str x) = some (dSp ps) := by
  show (match (some (valD (h.map kH) (.inr x)) : Option (Option D)) with | some (some v) => some v | _ => none) = _
  rw [valD_held, e]; rfl
theorem getH_mem {h : Held} (hn : (nmsH h).Nodup) {g : Str × List Pl} (hg : g ∈ h) : getH h g.1 = some g.2 := by
  induction h with
  | nil => cases hg
  | cons a r ih =>
    unfold nmsH at hn
    rw [List.map_cons, List.nodup_cons] at hn
    unfold getH
    rw [List.find?_cons]
    rcases List.mem_cons.mp hg with rfl | hr
    · simp
    · have hne : ¬ (a.1 = g.1) := fun z => hn.1 (by rw [z]; exact List.mem_map_of_mem hr)
      rw [decide_eq_false hne]
      exact ih hn.2 hr
theorem getH_of {h : Held} {x : Str} {ps : List Pl} (e : getH h x = some ps) : (x, ps) ∈ h := by
  unfold getH at e
  rw [Option.map_eq_some_iff] at e
  obtain ⟨g, hg, rfl⟩ := e
  have h1 := List.find?_some hg
  have h2 := List.mem_of_find?_eq_some hg
  have : g.1 = x := by simpa using h1
  rw [← this]; exact h2
theorem any_kH (h : Held) (x : Str) : ((h.map kH).any fun kv => decide (kv.1 = .inr x)) = decide (x ∈ nmsH h) := by
  rw [List.any_map]
  unfold nmsH
  induction h with
  | nil => simp
  | cons a r ih =>
    rw [List.any_cons, ih]
    simp only [Function.comp, kH, List.map_cons, List.mem_cons]
    by_cases q : a.1 = x
    · simp [q]
    · have : ¬ x = a.1 := fun z => q z.symm
      simp [q, this]
theorem putD_held (h : Held) (x : Str) (ps : List Pl) : putD (h.map kH) (.inr x) (dSp ps) = (putH h x ps).map kH := by
  unfold putD putH
  rw [any_kH]
  by_cases q : x ∈ nmsH h
  · rw [if_pos (by simpa using q), if_pos q, List.map_map, List.map_map]
    refine List.map_congr_left fun g _ => ?_
    simp only [Function.comp, kH]
    by_cases z : g.1 = x
    · simp [z]
    · simp [z]
  · rw [if_neg (by simpa using q), if_neg q, List.map_append]; rfl
theorem putH_new {h : Held} {x : Str} (ps : List Pl) (q : x ∉ nmsH h) : putH h x ps = h ++ [(x, ps)] := if_neg q
theorem putH_len (h : Held) (x : Str) (ps : List Pl) : (putH h x ps).length ≤ h.length + 1 := by
  unfold putH
  split
  · rw [List.length_map]; omega
  · simp
theorem putCell_held {h : Held} {n : Nat} {x : Str} {ps : List Pl} {ρ : Rho} {μ : Mu} (e : μ[n]? = some (.dk (h.map kH))) (hl : h.length < maxN) : putCell n (.str x) (dSp ps) ρ μ = .nx ρ (μ.set n (.dk ((putH h x ps).map kH))) := by
  have q : putCell n (.str x) (dSp ps) ρ μ = if (h.map kH).length < maxN then O.nx ρ (μ.set n (.dk (putD (h.map kH) (.inr x) (dSp ps)))) else .no := by
    unfold putCell
    rw [e]
    rfl
  rw [q, List.length_map, if_pos hl, putD_held]
theorem nms_put (h : Held) (x : Str) (ps : List Pl) : nmsH (putH h x ps) = if x ∈ nmsH h then nmsH h else nmsH h ++ [x] := by
  unfold putH
  split
  · unfold nmsH
    rw [List.map_map]
    refine List.map_congr_left fun g _ => ?_
    simp only [Function.comp]
    split <;> rfl
  · unfold nmsH; rw [List.map_append]; rfl
/-! ### seats taken -/
theorem takL_keys (h : Held) : (takL h).map (·.1) = allP h := by
  unfold takL allP
  induction h with
  | nil => rfl
  | cons a r ih =>
    rw [List.flatMap_cons, List.flatMap_cons, List.map_append, ih, List.map_map]
    congr 1
    exact List.map_id' _
theorem inT_takL (h : Held) (p : Pl) : inT (takL h) p = true ↔ p ∈ allP h := by rw [inT_mem, takL_keys]
theorem inT_takL' (h : Held) (p : Pl) : inT (takL h) p = decide (p ∈ allP h) := by
  rw [Bool.eq_iff_iff, inT_takL, decide_eq_true_eq]
/-- a plan's groups are as they can be -/
structure VH (hs : List (List Bool)) (h : Held) : Prop where
  h40 : hs.length ≤ 40
  b60 : ∀ b ∈ hs, b.length ≤ 60
  nn : (nmsH h).Nodup
  gn : ∀ g ∈ h, goodN g.1
  np : (allP h).Nodup
  se : ∀ p ∈ allP h, seatB hs p.1 p.2 = true
theorem seat_bound {hs : List (List Bool)} (b60 : ∀ b ∈ hs, b.length ≤ 60) {r i : Int} (h : seatB hs r i = true) : 0 ≤ r ∧ r < hs.length ∧ 0 ≤ i ∧ i < (hs.getD r.toNat []).length ∧ i < 60 := by
  have h1 : 0 ≤ r := by
    apply Decidable.byContradiction; intro q
    rw [seat_neg (by omega)] at h; cases h
  have h2 : r < hs.length := by
    apply Decidable.byContradiction; intro q
    rw [seat_over (by omega)] at h; cases h
  have h3 : 0 ≤ i := by
    apply Decidable.byContradiction; intro q
    rw [seat_left (by omega)] at h; cases h
  have h4 : i < (hs.getD r.toNat []).length := by
    apply Decidable.byContradiction; intro q
    rw [seat_right (by omega)] at h; cases h
  refine ⟨h1, h2, h3, h4, ?_⟩
  have hr : r.toNat < hs.length := by omega
  have : (hs.getD r.toNat []).length ≤ 60 := by
    rw [List.getD_eq_getElem?_getD, List.getElem?_eq_getElem hr]
    exact b60 _ (List.getElem_mem hr)
  omega
theorem seatsR_mem (r : Int) : ∀ (bs : List Bool) (i : Nat) (k : Nat), bs.getD k false = true → (r, ((i + k : Nat) : Int)) ∈ seatsR r i bs
  | [], i, k, h => by simp at h
  | true :: s, i, 0, h => by simp [seatsR]
  | false :: s, i, 0, h => by simp at h
  | true :: s, i, k + 1, h => by
    have := seatsR_mem r s (i + 1) k (by simpa using h)
    rw [show i + 1 + k = i + (k + 1) by omega] at this
    exact List.mem_cons_of_mem _ this
  | false :: s, i, k + 1, h => by
    have := seatsR_mem r s (i + 1) k (by simpa using h)
    rw [show i + 1 + k = i + (k + 1) by omega] at this
    exact this
theorem seatsH_mem : ∀ (hs : List (List Bool)) (k j : Nat) (i : Nat), (hs.getD j []).getD i false = true → (((k + j : Nat) : Int), (i : Int)) ∈ seatsH k hs
  | [], k, j, i, h => by simp at h
  | b :: s, k, 0, i, h => by
    have := seatsR_mem (k : Int) b 0 i (by simpa using h)
    unfold seatsH
    exact List.mem_append_left _ (by simpa using this)
  | b :: s, k, j + 1, i, h => by
    have := seatsH_mem s (k + 1) j i (by simpa using h)
    rw [show k + 1 + j = k + (j + 1) by omega] at this
    unfold seatsH
    exact List.mem_append_right _ this
theorem seat_mem {hs : List (List Bool)} {p : Pl} (h : seatB hs p.1 p.2 = true) : p ∈ seatsH 0 hs := by
  obtain ⟨r, i⟩ := p
  have hr : 0 ≤ r := by
    apply Decidable.byContradiction; intro q
    rw [seat_neg (by show r < 0; omega)] at h; cases h
  have hi : 0 ≤ i := by
    apply Decidable.byContradiction; intro q
    rw [seat_left (by show i < 0; omega)] at h; cases h
  rw [← seat_in hr hi] at h
  have := seatsH_mem hs 0 r.toNat i.toNat h
  have e1 : ((0 + r.toNat : Nat) : Int) = r := by omega
  have e2 : ((i.toNat : Nat) : Int) = i := by omega
  rw [e1, e2] at this
  exact this
theorem sum_le {hs : List (List Bool)} (b60 : ∀ b ∈ hs, b.length ≤ 60) : (hs.map fun b => ((b.count true : Nat) : Int)).sum ≤ 60 * (hs.length : Int) := by
  induction hs with
  | nil => simp
  | cons a r ih =>
    have h1 := ih fun b hb => b60 b (List.mem_cons_of_mem _ hb)
    have h2 := b60 a List.mem_cons_self
    have h3 : a.count true ≤ a.length := List.count_le_length
    simp only [List.map_cons, List.sum_cons, List.length_cons]
    omega
theorem nodup_len {α : Type} [DecidableEq α] : ∀ {l m : List α}, l.Nodup → (∀ x ∈ l, x ∈ m) → l.length ≤ m.length
  | [], m, _, _ => by simp
  | a :: r, m, hn, hs => by
    rw [List.nodup_cons] at hn
    have ih := nodup_len (l := r) (m := m.erase a) hn.2 fun x hx => (List.mem_erase_of_ne (fun z => hn.1 (by rw [← z]; exact hx))).mpr (hs x (List.mem_cons_of_mem _ hx))
    have hm := hs a List.mem_cons_self
    rw [List.length_erase_of_mem hm] at ih
    have : 0 < m.length := List.length_pos_of_mem hm
    simp only [List.length_cons]
    omega
theorem VH.many {hs : List (List Bool)} {h : Held} (v : VH hs h) : (allP h).length ≤ 2400 := by
  have h1 := nodup_len v.np fun p hp => seat_mem (v.se p hp)
  have h2 := seatsH_len hs 0
  have h3 := sum_le v.b60
  have h4 := v.h40
  omega
theorem VH.okT {hs : List (List Bool)} {h : Held} (v : VH hs h) : okT (takL h) := by
  intro q hq
  have : q.1 ∈ allP h := by rw [← takL_keys]; exact List.mem_map_of_mem hq
  have b := seat_bound v.b60 (v.se _ this)
  have := v.h40
  omega
/-- one after the other put where they are new -/
theorem putT_all {x : Str} : ∀ (ps : List Pl) (t : Tk), (∀ p ∈ ps, inT t p = false) → ps.Nodup → ps.foldl (fun t p => putT t p x) t = t ++ ps.map fun p => (p, x)
  | [], t, _, _ => by simp
  | p :: r, t, h, hn => by
    rw [List.nodup_cons] at hn
    rw [List.foldl_cons, putT_new x (h p List.mem_cons_self)]
    rw [putT_all r _ (fun q hq => by
      have e : inT (t ++ [(p, x)]) q = (inT t q || decide (p = q)) := by
        rw [← putT_new x (h p List.mem_cons_self), inT_put]
      rw [e, h q (List.mem_cons_of_mem _ hq), decide_eq_false (fun z => hn.1 (by rw [z]; exact hq))]; rfl) hn.2]
    simp
/-! ### the run that fits -/
def better (size : Int) (b : Option Rn) (r : Rn) : Option Rn := if size ≤ r.2.2 ∧ (∀ x ∈ b, r.2.2 < x.2.2) then some r else b
def fit (rs : List Rn) (size : Int) : Option Rn := rs.foldl (better size) none
def dOptRun : Option Rn → D
  | none => .non
  | some r => dRun r
theorem fit_spec (size : Int) : ∀ (rs : List Rn) (b : Option Rn), (∀ x ∈ b, size ≤ x.2.2) →
    match rs.foldl (better size) b with
    | none => b = none ∧ rs.filter (fun r => decide (size ≤ r.2.2)) = []
    | some x => size ≤ x.2.2 ∧ (∀ r ∈ b, x.2.2 ≤ r.2.2) ∧ (∀ r ∈ rs, size ≤ r.2.2 → x.2.2 ≤ r.2.2) ∧ (b = some x ∨ ((∀ r ∈ b, x.2.2 < r.2.2) ∧ (rs.filter fun r => decide (size ≤ r.2.2) && decide (r.2.2 = x.2.2)).head? = some x))
  | [], none, _ => by simp
  | [], some x, h => by
    have := h x rfl
    simp [this]
  | r :: rs, b, h => by
    simp only [List.foldl_cons]
    have hb : ∀ x ∈ better size b r, size ≤ x.2.2 := by
      intro x hx
      unfold better at hx
      split at hx
      · rename_i c
        cases hx
        exact c.1
      · exact h x hx
    have ih := fit_spec size rs (better size b r) hb
    cases e : List.foldl (better size) (better size b r) rs with
    | none =>
      rw [e] at ih
      obtain ⟨h1, h2⟩ := ih
      unfold better at h1
      split at h1
      · cases h1
      · rename_i c
        refine ⟨h1, ?_⟩
        subst h1
        have : ¬ size ≤ r.2.2 := fun z => c ⟨z, fun x hx => by cases hx⟩
        simp [this, h2]
    | some x =>
      rw [e] at ih
      obtain ⟨h1, h2, h3, h4⟩ := ih
      unfold better at h2 h4
      by_cases c : size ≤ r.2.2 ∧ (∀ y ∈ b, r.2.2 < y.2.2)
      · rw [if_pos c] at h2 h4
        have hr := h2 r rfl
        refine ⟨h1, fun y hy => ?_, fun y hy hs => ?_, ?_⟩
        · have := c.2 y hy; omega
        · rcases List.mem_cons.mp hy with rfl | hy
          · exact hr
          · exact h3 y hy hs
        · right
          refine ⟨fun y hy => ?_, ?_⟩
          · have := c.2 y hy; omega
          · rcases h4 with h4 | ⟨h4, h5⟩
            · cases h4
              simp [c.1]
            · have : ¬ r.2.2 = x.2.2 := by have := h4 r rfl; omega
              simp [this, h5]
      · rw [if_neg c] at h2 h4
        refine ⟨h1, h2, fun y hy hs => ?_, ?_⟩
        · rcases List.mem_cons.mp hy with rfl | hy
          · cases b with
            | none => exact absurd ⟨hs, fun y hy => by cases hy⟩ c
            | some z =>
              have := h2 z rfl
              have : ¬ y.2.2 < z.2.2 := fun w => c ⟨hs, fun q hq => by cases hq; exact w⟩
              omega
          · exact h3 y hy hs
        · rcases h4 with h4 | ⟨h4, h5⟩
          · exact .inl h4
          · right
            refine ⟨h4, ?_⟩
            have : ¬ (size ≤ r.2.2 ∧ r.2.2 = x.2.2) := fun ⟨w1, w2⟩ => c ⟨w1, fun y hy => by have := h4 y hy; omega⟩
            rw [List.filter_cons_of_neg]
            · exact h5
            · simpa using this
end SP

/-! SPu: a plan's lines; what reading them needs. -/
namespace SP
open PySem L2
@[simp] theorem get_c3 (μ : Mu) (a b c d : Cell) (r : Mu) : (μ ++ a :: b :: c :: d :: r)[μ.length + 3]? = some d := by simp
@[simp] theorem set_c3 (μ : Mu) (a b c d x : Cell) (r : Mu) : (μ ++ a :: b :: c :: d :: r).set (μ.length + 3) x = μ ++ a :: b :: c :: x :: r := by simp
@[simp] theorem lit_zero : Str.ofString "0" = tx [48] := by rw [Str.ofString_eq_toList]; rfl
def wordL (p : Pl) : List Nat := numL p.1.toNat ++ 46 :: numL p.2.toNat
def lineL (g : Str × List Pl) : List Nat := g.1.cps.toList ++ 58 :: 32 :: joinL [32] (g.2.map wordL)
def lineS (g : Str × List Pl) : Str := tx (lineL g)
theorem num_facts {i : Int} (h0 : 0 ≤ i) (h : i < 100) : (∀ c ∈ numL i.toNat, 48 ≤ c ∧ c ≤ 57) ∧ 1 ≤ (numL i.toNat).length ∧ (numL i.toNat).length ≤ 2 ∧ ((numL i.toNat).length = 2 → (numL i.toNat).head? ≠ some 48) ∧ gIntE (.str (tx (numL i.toNat))) = some (.int i) := by
  obtain ⟨k, rfl⟩ := Int.eq_ofNat_of_zero_le h0
  have hk : k < 100 := by omega
  have h1 := numL_len ⟨k, hk⟩
  have h2 := num_val ⟨k, hk⟩
  have h3 := numL_sign ⟨k, hk⟩
  rw [Int.toNat_natCast]
  dsimp only at h1 h2 h3
  refine ⟨h3, h1.1, h1.2.1, h1.2.2, ?_⟩
  unfold gIntE
  dsimp only
  rw [h2]
  dsimp only
  rw [if_pos]
  rw [tx_len]; omega
def okP (p : Pl) : Prop := 0 ≤ p.1 ∧ p.1 < 100 ∧ 0 ≤ p.2 ∧ p.2 < 100
theorem word_sign {p : Pl} (h : okP p) : ∀ c ∈ wordL p, 46 ≤ c ∧ c ≤ 57 := by
  obtain ⟨a, b, c, d⟩ := h
  have h1 := (num_facts a b).1
  have h2 := (num_facts c d).1
  intro x hx
  simp only [wordL, List.mem_append, List.mem_cons] at hx
  rcases hx with hx | rfl | hx
  · have := h1 x hx; omega
  · omega
  · have := h2 x hx; omega
theorem word_len {p : Pl} (h : okP p) : (wordL p).length ≤ 5 := by
  obtain ⟨a, b, c, d⟩ := h
  have h1 := (num_facts a b).2.2.1
  have h2 := (num_facts c d).2.2.1
  simp only [wordL, List.length_append, List.length_cons]
  omega
theorem words_len : ∀ (ps : List Pl), (∀ p ∈ ps, okP p) → ((ps.map wordL).map List.length).sum ≤ 5 * ps.length
  | [], _ => by simp
  | p :: r, h => by
    have h1 := word_len (h p List.mem_cons_self)
    have h2 := words_len r fun q hq => h q (List.mem_cons_of_mem _ hq)
    simp only [List.map_cons, List.sum_cons, List.length_cons]
    omega
theorem rest_sign : ∀ (ps : List Pl), (∀ p ∈ ps, okP p) → ∀ c ∈ joinL [32] (ps.map wordL), c = 32 ∨ 46 ≤ c ∧ c ≤ 57
  | [], _, c, hc => by simp [joinL] at hc
  | [p], h, c, hc => .inr (word_sign (h p (by simp)) c (by simpa [joinL] using hc))
  | p :: q :: r, h, c, hc => by
    have ih := rest_sign (q :: r) (fun x hx => h x (List.mem_cons_of_mem _ hx)) c
    simp only [List.map_cons] at ih
    simp only [List.map_cons, joinL, List.mem_append, List.mem_cons, List.not_mem_nil, or_false] at hc
    rcases hc with hc | hc | hc
    · exact .inr (word_sign (h p (by simp)) c hc)
    · exact .inl hc
    · exact ih hc
theorem cut_words : ∀ (ps : List Pl), (∀ p ∈ ps, okP p) → ps ≠ [] → cutK [32] 0 (joinL [32] (ps.map wordL)) = ps.map wordL
  | [], _, h => absurd rfl h
  | [p], h, _ => by
    simp only [List.map_cons, List.map_nil, joinL]
    exact cutK_none fun c hc => by have := word_sign (h p (by simp)) c hc; omega
  | p :: q :: r, h, _ => by
    have ih := cut_words (q :: r) (fun x hx => h x (List.mem_cons_of_mem _ hx)) (by simp)
    simp only [List.map_cons] at ih
    simp only [List.map_cons, joinL]
    rw [cutK_part fun c hc => by have := word_sign (h p (by simp)) c hc; omega, ih]
theorem cut_spot {p : Pl} (h : okP p) : cutK [46] 0 (wordL p) = [numL p.1.toNat, numL p.2.toNat] := by
  obtain ⟨a, b, c, d⟩ := h
  have h1 := (num_facts a b).1
  have h2 := (num_facts c d).1
  have := cutK_part (y0 := 46) (ys := []) (p := numL p.1.toNat) (r := numL p.2.toNat) fun c hc => by have := h1 c hc; omega
  rw [cutK_none (p := numL p.2.toNat) fun c hc => by have := h2 c hc; omega] at this
  exact this
theorem cut_line {g : Str × List Pl} (hg : goodN g.1) (h : ∀ p ∈ g.2, okP p) : cutK [58, 32] 0 (lineL g) = [g.1.cps.toList, joinL [32] (g.2.map wordL)] := by
  have := cutK_part (y0 := 58) (ys := [32]) (p := g.1.cps.toList) (r := joinL [32] (g.2.map wordL)) fun c hc => (signs_ok c (hg.2.2 c hc)).2.1
  rw [cutK_none (p := joinL [32] (g.2.map wordL)) fun c hc => by have := rest_sign g.2 h c hc; omega] at this
  exact this
theorem rest_len {ps : List Pl} (h : ∀ p ∈ ps, okP p) : (joinL [32] (ps.map wordL)).length ≤ 6 * ps.length := by
  have h1 := joinL_len [32] (ps.map wordL)
  have h2 := words_len ps h
  simp only [List.length_map, List.length_cons, List.length_nil] at h1
  omega
theorem split_line {g : Str × List Pl} (μ : Mu) (hg : goodN g.1) (h : ∀ p ∈ g.2, okP p) (hl : g.2.length ≤ 2400) : fSplit (lineS g) (tx [58, 32]) μ = .ok (.lst [.str g.1, .str (tx (joinL [32] (g.2.map wordL)))]) μ := by
  have h1 := rest_len h
  have h2 := hg.2.1
  have h3 : g.1.cps.toList.length = g.1.length := by simp [Str.length]
  have e := fSplit_tx (x := lineS g) (y := tx [58, 32]) μ (by simp) (by decide +kernel) (by
    unfold lineS lineL
    rw [tx_len, List.length_append, List.length_cons, List.length_cons, h3]; simp only [maxN]; omega) (by
    intro c hc
    unfold lineS lineL at hc
    simp only [tx_list, List.mem_append, List.mem_cons] at hc
    rcases hc with hc | rfl | rfl | hc
    · have := (signs_ok c (hg.2.2 c hc)).1; omega
    · omega
    · omega
    · have := rest_sign g.2 h c hc; omega)
  rw [e]
  unfold lineS
  rw [tx_list, tx_list, cut_line hg h]
  simp only [List.map_cons, List.map_nil, tx_of]
theorem split_words {ps : List Pl} (μ : Mu) (h : ∀ p ∈ ps, okP p) (hne : ps ≠ []) (hl : ps.length ≤ 2400) : fSplit (tx (joinL [32] (ps.map wordL))) (tx [32]) μ = .ok (.lst (ps.map fun p => .str (tx (wordL p)))) μ := by
  have h1 := rest_len h
  have e := fSplit_tx (x := tx (joinL [32] (ps.map wordL))) (y := tx [32]) μ (by simp) (by decide +kernel) (by rw [tx_len]; simp only [maxN]; omega) (by
    intro c hc
    have := rest_sign ps h c hc; omega)
  rw [e, tx_list, tx_list, cut_words ps h hne, List.map_map]
  rfl
theorem split_spot {p : Pl} (μ : Mu) (h : okP p) : fSplit (tx (wordL p)) (sgS false) μ = .ok (.lst [.str (tx (numL p.1.toNat)), .str (tx (numL p.2.toNat))]) μ := by
  have h1 := word_len h
  have e := fSplit_tx (x := tx (wordL p)) (y := tx [46]) μ (by simp) (by decide +kernel) (by rw [tx_len]; simp only [maxN]; omega) (by
    intro c hc
    have := word_sign h c hc; omega)
  rw [sg_dot, e, tx_list, tx_list, cut_spot h]
  rfl
/-! ### spots taken so far -/
def kB (p : Pl) : List Key × D := ([.inl p.1, .inl p.2], .bl true)
theorem any_kB (ks : List Pl) (a b : Int) : ((ks.map kB).any fun kv => decide (kv.1 = [.inl a, .inl b])) = decide ((a, b) ∈ ks) := by
  rw [List.any_map]
  induction ks with
  | nil => simp
  | cons q r ih =>
    rw [List.any_cons, ih]
    simp only [Function.comp, kB, key2, List.mem_cons]
    by_cases z : q = (a, b)
    · subst z; simp
    · have z' : ¬ ((a, b) = q) := fun w => z w.symm
      have z2 : ¬ ((q.1, q.2) = (a, b)) := z
      simp only [z', z2, decide_false, Bool.false_or, false_or]
theorem valD_kB (ks : List Pl) (a b : Int) : (valD (ks.map kB) [.inl a, .inl b]).isSome = decide ((a, b) ∈ ks) := by
  rw [← any_kB]
  unfold valD
  rw [Option.isSome_map, Bool.eq_iff_iff, List.find?_isSome, List.any_eq_true]
theorem gIn_kB (ks : List Pl) (a b : Int) : gIn (.tup [.int a, .int b]) (.dt (ks.map kB)) = some (.bl (decide ((a, b) ∈ ks))) := by
  show some (D.bl (valD (ks.map kB) [.inl a, .inl b]).isSome) = _
  rw [valD_kB]
theorem putCell_kB {ks : List Pl} {n : Nat} {a b : Int} {ρ : Rho} {μ : Mu} (h : μ[n]? = some (.dt (ks.map kB))) (hl : ks.length < maxN) (hn : (a, b) ∉ ks) : putCell n (.tup [.int a, .int b]) (.bl true) ρ μ = .nx ρ (μ.set n (.dt ((ks ++ [(a, b)]).map kB))) := by
  have e : putCell n (.tup [.int a, .int b]) (.bl true) ρ μ = if (ks.map kB).length < maxN then O.nx ρ (μ.set n (.dt (putD (ks.map kB) [.inl a, .inl b] (.bl true)))) else .no := by
    unfold putCell
    rw [h]
    rfl
  have e2 : putD (ks.map kB) [.inl a, .inl b] (.bl true) = (ks ++ [(a, b)]).map kB := by
    unfold putD
    rw [any_kB, if_neg (by simpa using hn), List.map_append]
    rfl
  rw [e, List.length_map, if_pos hl, e2]
/-- groups that can be written as lines and read again -/
structure RH (hs : List (List Bool)) (h : Held) : Prop where
  v : VH hs h
  ne : ∀ g ∈ h, g.2 ≠ []
  up : ∀ g ∈ h, g.2.Pairwise lexQ
theorem VH.okP {hs : List (List Bool)} {h : Held} (v : VH hs h) : ∀ p ∈ allP h, okP p := by
  intro p hp
  have b := seat_bound v.b60 (v.se p hp)
  have := v.h40
  unfold SP.okP
  omega
theorem allP_mem {h : Held} {g : Str × List Pl} (hg : g ∈ h) {p : Pl} (hp : p ∈ g.2) : p ∈ allP h := List.mem_flatMap.mpr ⟨g, hg, hp⟩
theorem allP_app (a b : Held) : allP (a ++ b) = allP a ++ allP b := by unfold allP; rw [List.flatMap_append]
theorem takL_app (a b : Held) : takL (a ++ b) = takL a ++ takL b := by unfold takL; rw [List.flatMap_append]
theorem nms_app (a b : Held) : nmsH (a ++ b) = nmsH a ++ nmsH b := by unfold nmsH; rw [List.map_append]
theorem VH.group_len {hs : List (List Bool)} {h : Held} (v : VH hs h) {g : Str × List Pl} (hg : g ∈ h) : g.2.length ≤ 2400 := by
  have h1 := v.many
  obtain ⟨a, b, rfl⟩ := List.append_of_mem hg
  rw [allP_app, List.length_append] at h1
  have : allP (g :: b) = g.2 ++ allP b := by unfold allP; rw [List.flatMap_cons]
  rw [this, List.length_append] at h1
  omega
theorem VH.few {hs : List (List Bool)} {h : Held} (v : VH hs h) (ne : ∀ g ∈ h, g.2 ≠ []) : h.length ≤ 2400 := by
  have h1 := v.many
  have : ∀ h : Held, (∀ g ∈ h, g.2 ≠ []) → h.length ≤ (allP h).length := by
    intro h
    induction h with
    | nil => intro _; simp
    | cons a r ih =>
      intro q
      have := ih fun g hg => q g (List.mem_cons_of_mem _ hg)
      have e : allP (a :: r) = a.2 ++ allP r := by unfold allP; rw [List.flatMap_cons]
      have h3 : 0 < a.2.length := List.length_pos_iff.mpr (q a List.mem_cons_self)
      rw [e, List.length_append, List.length_cons]
      omega
  have := this h ne
  omega
/-! ### an end whose state is told later -/
def Nx (P : Rho → Mu → Prop) (o : O) : Prop := ∃ ρ μ, o = .nx ρ μ ∧ P ρ μ
theorem Nx.mk {P : Rho → Mu → Prop} {ρ : Rho} {μ : Mu} (h : P ρ μ) : Nx P (.nx ρ μ) := ⟨ρ, μ, rfl, h⟩
theorem nx_intro {P : Rho → Mu → Prop} {o : O} (h : ∀ Q : Rho → Mu → Prop, (∀ ρ μ, P ρ μ → Q ρ μ) → Nx Q o) : ∃ ρ μ, o = .nx ρ μ ∧ P ρ μ := h P fun _ _ h => h
theorem rz_intro {P : O → Prop} {o : O} (h : ∀ Q : O → Prop, (∀ o, P o → Q o) → Q o) : P o := h P fun _ h => h
@[simp] theorem forL_dSp (i : Nat) (b : EvS) (ρ : Rho) (ps : List Pl) (μ : Mu) : (R.ok (.im (dSp ps)) μ).forL i b ρ = loopL i b (ps.map dPl) ρ μ := rfl
@[simp] theorem forL_dHall (i : Nat) (b : EvS) (ρ : Rho) (hs : List (List Bool)) (μ : Mu) : (R.ok (.im (dHall hs)) μ).forL i b ρ = loopL i b (hs.map fun bs => .str (rowS bs)) ρ μ := rfl
/-! ### who sits there -/
@[simp] theorem fListD_held (μ : Mu) (h : Held) : fListD μ (some (dHeld h)) = .ok (.lst ((nmsH h).map D.str)) μ := by
  show R.ok (Cell.lst ((h.map kH).map _)) μ = _
  rw [List.map_map]
  unfold nmsH
  rw [List.map_map]
  rfl
@[simp] theorem fListD_sp (μ : Mu) (ps : List Pl) : fListD μ (some (dSp ps)) = .ok (.lst (ps.map dPl)) μ := rfl
def whoT (t : Tk) (p : Pl) : Option Str := (t.find? fun q => decide (q.1 = p)).map (·.2)
def dWho (t : Tk) (p : Pl) : D := match whoT t p with
  | some x => .str x
  | none => .non
theorem valD_tak (t : Tk) (a b : Int) : valD (t.map kT) [.inl a, .inl b] = (whoT t (a, b)).map D.str := by
  unfold valD whoT
  rw [List.find?_map, Option.map_map, Option.map_map]
  have e : ((fun kv : List Key × D => decide (kv.1 = [.inl a, .inl b])) ∘ kT) = fun q : Pl × Str => decide (q.1 = (a, b)) := by
    funext q
    simp only [Function.comp, kT, key2]
  rw [e]; rfl
theorem dGet_tak (t : Tk) (a b : Int) : dAt (.dt (t.map kT)) (.tup [.int a, .int b]) = some ((whoT t (a, b)).map D.str) := by
  show some (valD (t.map kT) [.inl a, .inl b]) = _
  rw [valD_tak]
theorem gDGet_tak {t : Tk} {a b : Int} {x : Str} (e : whoT t (a, b) = some x) : gDGet (.dt (t.map kT)) (.tup [.int a, .int b]) = some (.str x) := by
  unfold gDGet
  rw [dGet_tak, e]; rfl
def getO2 (d : D) (μ : Mu) : Option D → R Sv
  | some k => match dAt d k with
    | some o => .ok (.im (o.getD .non)) μ
    | none => .no
  | none => .no
def R.get12 (x : Sv) : R Sv → R Sv
  | .ok y μ => match look μ x, look μ y with
    | some d, some k => match dAt d k with
      | some o => .ok (.im (o.getD .non)) μ
      | none => .no
    | _, _ => .no
  | .ex c μ => .ex c μ
  | .no => .no
def getO1 (fk : Ev) (ρ : Rho) (x : Sv) (μ : Mu) : Option D → R Sv
  | some d => if isDict d then (fk ρ μ).get12 x else .no
  | none => .no
def R.get11 (fk : Ev) (ρ : Rho) : R Sv → R Sv
  | .ok x μ => getO1 fk ρ x μ (look μ x)
  | .ex c μ => .ex c μ
  | .no => .no
@[simp] theorem dGet1_eq (fd fk : Ev) (ρ : Rho) (μ : Mu) : dGet1 fd fk ρ μ = (fd ρ μ).get11 fk ρ := by
  unfold dGet1
  cases fd ρ μ with
  | ok x μ1 =>
    show (match look μ1 x with | some d0 => _ | none => _) = getO1 fk ρ x μ1 (look μ1 x)
    cases look μ1 x with
    | none => rfl
    | some d0 =>
      show (if isDict d0 = true then (fk ρ μ1).bind _ else .no) = if isDict d0 = true then (fk ρ μ1).get12 x else .no
      cases fk ρ μ1 <;> rfl
  | ex c μ1 => rfl
  | no => rfl
@[simp] theorem get11_ok (fk : Ev) (ρ : Rho) (x : Sv) (μ : Mu) : (R.ok x μ).get11 fk ρ = getO1 fk ρ x μ (look μ x) := rfl
@[simp] theorem getO1_dt (fk : Ev) (ρ : Rho) (x : Sv) (μ : Mu) (kvs : List (List Key × D)) : getO1 fk ρ x μ (some (.dt kvs)) = (fk ρ μ).get12 x := rfl
@[simp] theorem getO1_dk (fk : Ev) (ρ : Rho) (x : Sv) (μ : Mu) (kvs : List (Key × D)) : getO1 fk ρ x μ (some (.dk kvs)) = (fk ρ μ).get12 x := rfl
@[simp] theorem get12_im (d k : D) (μ : Mu) : (R.ok (.im k) μ).get12 (.im d) = match dAt d k with
  | some o => .ok (.im (o.getD .non)) μ
  | none => .no := rfl
theorem dWho_eq (t : Tk) (p : Pl) : ((whoT t p).map D.str).getD .non = dWho t p := by
  unfold dWho
  cases whoT t p <;> rfl
/-! ### a loop's first part -/
theorem loop_front {i : Nat} {body : EvS} (S : Nat → Rho → Mu → Prop) : ∀ (xs ys : List D) (k0 : Nat) (ρ : Rho) (μ : Mu), S k0 ρ μ →
    (∀ k d ρ μ, k0 ≤ k → xs[k - k0]? = some d → S k ρ μ → ∃ ρ' μ', body (ρ.set i (some (.im d))) μ = .nx ρ' μ' ∧ S (k + 1) ρ' μ') →
    ∃ ρ' μ', S (k0 + xs.length) ρ' μ' ∧ loopL i body (xs ++ ys) ρ μ = loopL i body ys ρ' μ'
  | [], ys, k0, ρ, μ, h0, _ => ⟨ρ, μ, by simpa using h0, rfl⟩
  | d :: r, ys, k0, ρ, μ, h0, hs => by
    obtain ⟨ρ1, μ1, e, s1⟩ := hs k0 d ρ μ (Nat.le_refl _) (by simp) h0
    obtain ⟨ρ2, μ2, s2, e2⟩ := loop_front S r ys (k0 + 1) ρ1 μ1 s1 fun k d' ρ μ hk q s => hs k d' ρ μ (by omega) (by
      have : k - k0 = (k - (k0 + 1)) + 1 := by omega
      rw [this, List.getElem?_cons_succ]; exact q) s
    refine ⟨ρ2, μ2, by rw [List.length_cons]; rw [show k0 + 1 + r.length = k0 + (r.length + 1) by omega] at s2; exact s2, ?_⟩
    rw [List.cons_append]
    conv => lhs; unfold loopL
    rw [e]
    exact e2
theorem loop_cons_ex {i : Nat} {body : EvS} {d : D} {r : List D} {ρ ρ' : Rho} {μ μ' : Mu} {c : Xn} (h : body (ρ.set i (some (.im d))) μ = .ex c ρ' μ') : loopL i body (d :: r) ρ μ = .ex c ρ' μ' := by
  unfold loopL; rw [h]
theorem loop_cons_rt {i : Nat} {body : EvS} {d : D} {r : List D} {ρ : Rho} {μ μ' : Mu} {v : Sv} (h : body (ρ.set i (some (.im d))) μ = .rt v μ') : loopL i body (d :: r) ρ μ = .rt v μ' := by
  unfold loopL; rw [h]
/-! ### pairs of a party -/
def dPr (p : Str × Int) : D := .tup [.str p.1, .int p.2]
def kN (x : Str) : Key × D := (.inr x, .bl true)
theorem any_kN (ks : List Str) (x : Str) : ((ks.map kN).any fun kv => decide (kv.1 = .inr x)) = decide (x ∈ ks) := by
  rw [List.any_map]
  induction ks with
  | nil => simp
  | cons q r ih =>
    rw [List.any_cons, ih]
    simp only [Function.comp, kN, List.mem_cons]
    by_cases z : q = x
    · subst z; simp
    · have z' : ¬ (x = q) := fun w => z w.symm
      have z2 : ¬ ((Sum.inr q : Key) = Sum.inr x) := fun w => z (Sum.inr.inj w)
      simp only [z', z2, decide_false, Bool.false_or, false_or]
theorem gIn_kN (ks : List Str) (x : Str) : gIn (.str x) (.dk (ks.map kN)) = some (.bl (decide (x ∈ ks))) := by
  show some (D.bl (valD (ks.map kN) (.inr x)).isSome) = _
  rw [← any_kN]
  unfold valD
  rw [Option.isSome_map]
  congr 2
  rw [Bool.eq_iff_iff, List.find?_isSome, List.any_eq_true]
theorem putCell_kN {ks : List Str} {n : Nat} {x : Str} {ρ : Rho} {μ : Mu} (h : μ[n]? = some (.dk (ks.map kN))) (hl : ks.length < maxN) (hn : x ∉ ks) : putCell n (.str x) (.bl true) ρ μ = .nx ρ (μ.set n (.dk ((ks ++ [x]).map kN))) := by
  have e : putCell n (.str x) (.bl true) ρ μ = if (ks.map kN).length < maxN then O.nx ρ (μ.set n (.dk (putD (ks.map kN) (.inr x) (.bl true)))) else .no := by
    unfold putCell
    rw [h]
    rfl
  have e2 : putD (ks.map kN) (.inr x) (.bl true) = (ks ++ [x]).map kN := by
    unfold putD
    rw [any_kN, if_neg (by simpa using hn), List.map_append]
    rfl
  rw [e, List.length_map, if_pos hl, e2]
theorem fit_none {rs : List Rn} {k : Int} (h : ∀ r ∈ rs, r.2.2 < k) : fit rs k = none := by
  have q := fit_spec k rs none (fun x hx => by cases hx)
  unfold fit
  cases e : List.foldl (better k) none rs with
  | none => rfl
  | some x =>
    rw [e] at q
    obtain ⟨h1, _, _, h4⟩ := q
    rcases h4 with h4 | ⟨_, h4⟩
    · cases h4
    · have hm := List.mem_of_mem_head? (show x ∈ (rs.filter fun r => decide (k ≤ r.2.2) && decide (r.2.2 = x.2.2)).head? from h4)
      have := h x (List.mem_filter.mp hm).1
      omega
theorem runs_short {hs : List (List Bool)} (hb : ∀ b ∈ hs, b.length ≤ 60) (t : Tk) : ∀ r ∈ blks 0 (frH t 0 hs), 1 ≤ r.2.2 ∧ r.2.2 ≤ 60 := by
  intro r hr
  have g := blks_good (frH t 0 hs) [] r hr
  simp only [List.nil_append] at g
  have g1 := g.2.2.m1
  have g2 := g.2.2.s0
  have g3 := g.2.2.hi
  have : ((frH t 0 hs).getD r.1.toNat []).length ≤ 60 := by
    rw [List.getD_eq_getElem?_getD, List.getElem?_eq_getElem g.2.1]
    exact frH_mem t hs 0 hb _ (List.getElem_mem g.2.1)
  omega
theorem heldI_sum (rs : List Rn) : (rs.map fun r => r.2.2).sum = heldI rs := by
  induction rs with
  | nil => rfl
  | cons a r ih => rw [List.map_cons, List.sum_cons, ih]; rfl
theorem free_len (t : Tk) : ∀ (hs : List (List Bool)) (k : Nat) (r : Int), heldI (blks r (frH t k hs)) ≤ (hs.map fun b => ((b.length : Nat) : Int)).sum
  | [], _, _ => by simp [frH, blks, heldI]
  | b :: s, k, r => by
    have ih := free_len t s (k + 1) (r + 1)
    have h3 : (frR t (k : Int) 0 b).count true ≤ (frR t (k : Int) 0 b).length := List.count_le_length
    rw [frR_len] at h3
    unfold frH
    simp only [blks, heldI_app, gob_held, List.map_cons, List.sum_cons]
    omega
/-! ### defs that change cells -/
theorem take_c2 {μ μ' r : Mu} (hl : μ'.length = μ.length) : (μ' ++ r).take μ.length = μ' := by rw [← hl]; simp
theorem dFn_im2 {m : Nat} {b : EvS} {vs : List Sv} {μ μ' : Mu} {d : D} {r : Mu} (hl : μ'.length = μ.length) (hμ : Low μ') (h : b (vs.map some ++ List.replicate (m - vs.length) none) μ = .rt (.im d) (μ' ++ r)) : dFn m b vs μ = .ok (.im d) μ' := by
  unfold dFn
  rw [h]
  have h2 : (List.take μ.length (μ' ++ r)).all (Cell.low μ.length) = true := by rw [take_c2 hl, ← hl]; exact hμ
  simp only [frz_im]
  rw [h2, take_c2 hl]
  simp [hl]
theorem dFn_nx2 {m : Nat} {b : EvS} {vs : List Sv} {μ μ' : Mu} {ρ : Rho} {r : Mu} (hl : μ'.length = μ.length) (hμ : Low μ') (h : b (vs.map some ++ List.replicate (m - vs.length) none) μ = .nx ρ (μ' ++ r)) : dFn m b vs μ = .ok (.im .non) μ' := by
  unfold dFn
  rw [h]
  have h2 : (List.take μ.length (μ' ++ r)).all (Cell.low μ.length) = true := by rw [take_c2 hl, ← hl]; exact hμ
  dsimp only
  rw [h2, take_c2 hl]
  simp [hl]
theorem dFn_ex2 {m : Nat} {b : EvS} {vs : List Sv} {μ μ' : Mu} {ρ : Rho} {r : Mu} {c : Xn} (hl : μ'.length = μ.length) (hμ : Low μ') (h : b (vs.map some ++ List.replicate (m - vs.length) none) μ = .ex c ρ (μ' ++ r)) : dFn m b vs μ = .ex c μ' := by
  unfold dFn
  rw [h]
  have h2 : (List.take μ.length (μ' ++ r)).all (Cell.low μ.length) = true := by rw [take_c2 hl, ← hl]; exact hμ
  dsimp only
  rw [h2, take_c2 hl]
  simp [hl]
theorem dFn_rf2 {m : Nat} {b : EvS} {vs : List Sv} {μ μ' μ1 : Mu} {d : D} {r : Mu} {v : Sv} (hl : μ'.length = μ.length) (hμ : Low μ') (h : b (vs.map some ++ List.replicate (m - vs.length) none) μ = .rt v μ1) (hf : frz μ1 v = some (d, μ' ++ r)) : dFn m b vs μ = .ok (.im d) μ' := by
  unfold dFn
  rw [h]
  have h2 : (List.take μ.length (μ' ++ r)).all (Cell.low μ.length) = true := by rw [take_c2 hl, ← hl]; exact hμ
  dsimp only
  rw [hf]
  dsimp only
  rw [h2, take_c2 hl]
  simp [hl]
theorem get_app {μ r : Mu} {n : Nat} {c : Cell} (h : μ[n]? = some c) : (μ ++ r)[n]? = some c := by
  rw [List.getElem?_append_left (List.getElem?_eq_some_iff.mp h).1]; exact h
theorem go_at {α : Type} {xs : List α} {k : Nat} {x : α} (hx : xs[k]? = some x) : k < xs.length ∧ xs.drop k = x :: xs.drop (k + 1) := by
  have hk := (List.getElem?_eq_some_iff.mp hx).1
  refine ⟨hk, ?_⟩
  rw [List.drop_eq_getElem_cons hk]
  rw [List.getElem?_eq_getElem hk] at hx
  cases hx; rfl
theorem pl_app {μ : Mu} {n m : Nat} {hs : List (List Bool)} {h : Held} {past : List Held} (P : PL μ n m hs h past) {r : Mu} (lo : Low (μ ++ r)) : PL (μ ++ r) n m hs h past := ⟨get_app P.ob, get_app P.pa, P.ne, lo⟩
theorem low_app {μ : Mu} (hμ : Low μ) {r : Mu} (h : ∀ c ∈ r, ∀ n, Cell.low n c = true) : Low (μ ++ r) := by
  unfold Low at hμ ⊢
  rw [List.all_append, Bool.and_eq_true]
  exact ⟨List.all_eq_true.mpr fun x hx => cell_low_mono (by simp) (List.all_eq_true.mp hμ x hx), List.all_eq_true.mpr fun x hx => h x hx _⟩
theorem low_app1 {μ : Mu} (hμ : Low μ) {c : Cell} (h : ∀ n, Cell.low n c = true) : Low (μ ++ [c]) := low_app hμ fun x hx n => by
  have : x = c := by simpa using hx
  rw [this]; exact h n
/-- pairs that can be, one behind the other -/
structure GP (h : Held) (ps : List (Str × Int)) : Prop where
  gn : ∀ p ∈ ps, goodN p.1
  gs : ∀ p ∈ ps, 1 ≤ p.2 ∧ p.2 ≤ 2400
  nn : (ps.map (·.1)).Nodup
  nw : ∀ p ∈ ps, p.1 ∉ nmsH h
  fw : ps.length ≤ 1000
def totP (ps : List (Str × Int)) : Int := (ps.map (·.2)).sum
theorem totP_app (a b : List (Str × Int)) : totP (a ++ b) = totP a + totP b := by simp [totP, List.sum_append]
/-- the free runs -/
def freeR (hs : List (List Bool)) (h : Held) : List Rn := blks 0 (frH (takL h) 0 hs)
theorem runs_few {hs : List (List Bool)} {h : Held} (v : VH hs h) : (freeR hs h).length ≤ 2440 := by
  have a := blks_len (frH (takL h) 0 hs) 0 (frH_mem _ hs 0 v.b60)
  rw [frH_len] at a
  have := v.h40
  unfold freeR
  omega
/-- what is handed over as a list of data -/
structure FZ (μ : Mu) (v : Sv) (xs : List D) (μ' : Mu) : Prop where
  fz : ∀ r, frz (μ ++ r) v = some (.lst xs, μ' ++ r)
  len : μ'.length = μ.length
theorem FZ.im (μ : Mu) (xs : List D) : FZ μ (.im (.lst xs)) xs μ := ⟨fun _ => rfl, rfl⟩
theorem FZ.rf {μ : Mu} {k : Nat} {xs : List D} (h : μ[k]? = some (.lst xs)) : FZ μ (.rf k) xs (μ.set k (.fz (.lst xs))) := ⟨fun r => by
  rw [frz_rf, get_app h, frzC_lst, List.set_append_left _ _ (List.getElem?_eq_some_iff.mp h).1], by simp⟩
/-! ### rows drawn -/
def signD (t : Tk) (r : Int) (b : Bool) (i : Int) : Nat := if b then (if inT t (r, i) then 35 else 111) else 46
def drawnR (t : Tk) (r : Int) (bs : List Bool) : List Nat := (List.range bs.length).map fun (i : Nat) => signD t r (bs.getD i false) (i : Int)
def drawnH (t : Tk) : Nat → List (List Bool) → List (List Nat)
  | _, [] => []
  | k, b :: s => drawnR t (k : Int) b :: drawnH t (k + 1) s
@[simp] theorem lit_hash : Str.ofString "#" = tx [35] := by rw [Str.ofString_eq_toList]; rfl
theorem drawnR_ok (t : Tk) (r : Int) (bs : List Bool) : okC (drawnR t r bs) := by
  intro c hc
  obtain ⟨i, _, rfl⟩ := List.mem_map.mp hc
  unfold signD
  split
  · split <;> omega
  · omega
def R.lce (i j : Nat) (e : Ev) (ρ : Rho) : R Sv → R Cell
  | .ok (.im (.lst xs)) μ => if xs.length ≤ maxN then lcEnd (lcE i j e 0 xs ((ρ.set i none).set j none) μ) else .no
  | .ex c μ => .ex c μ
  | _ => .no
@[simp] theorem dLcE_eq (i j : Nat) (f e : Ev) (ρ : Rho) (μ : Mu) : dLcE i j f e ρ μ = (dV f ρ μ).lce i j e ρ := by
  unfold dLcE
  cases dV f ρ μ with
  | ok v μ1 =>
    cases v with
    | im d => cases d <;> rfl
    | rf n => rfl
  | ex c μ1 => rfl
  | no => rfl
@[simp] theorem lce_ok (i j : Nat) (e : Ev) (ρ : Rho) (xs : List D) (μ : Mu) : (R.ok (.im (.lst xs)) μ).lce i j e ρ = if xs.length ≤ maxN then lcEnd (lcE i j e 0 xs ((ρ.set i none).set j none) μ) else .no := rfl
theorem lcE_map {α : Type} {i j : Nat} {e : Ev} {ρ : Rho} {μ : Mu} (enc : α → D) (g : Nat → α → D) : ∀ (as : List α) (k0 : Nat), (∀ k a, as[k]? = some a → e ((ρ.set i (some (.im (.int ((k0 + k : Nat) : Int))))).set j (some (.im (enc a)))) μ = .ok (.im (g (k0 + k) a)) μ) →
    lcE i j e k0 (as.map enc) ρ μ = .ok (as.zipIdx k0 |>.map fun p => g p.2 p.1) μ
  | [], _, _ => rfl
  | a :: r, k0, h => by
    have ih := lcE_map (i := i) (j := j) (e := e) (ρ := ρ) (μ := μ) enc g r (k0 + 1) fun k x hx => by
      have := h (k + 1) x (by simpa using hx)
      rw [show k0 + 1 + k = k0 + (k + 1) by omega]
      exact this
    have h0 := h 0 a (by simp)
    rw [Nat.add_zero] at h0
    simp only [List.map_cons, lcE]
    rw [h0]
    simp only [quiet_ok, bind_ok]
    rw [ih]
    simp
theorem drawnH_zip (t : Tk) : ∀ (hs : List (List Bool)) (k : Nat), (hs.zipIdx k).map (fun p => D.str (tx (drawnR t (p.2 : Int) p.1))) = (drawnH t k hs).map fun l => D.str (tx l)
  | [], _ => rfl
  | b :: s, k => by
    have ih := drawnH_zip t s (k + 1)
    simp only [List.zipIdx_cons, List.map_cons, drawnH, ih]
/-- so many spots side by side -/
def rowOf (r a : Int) (k : Nat) : List Pl := (List.range k).map fun (j : Nat) => (r, a + (j : Int))
theorem rowOf_get {r a : Int} {k j : Nat} {p : Pl} (h : (rowOf r a k)[j]? = some p) : j < k ∧ p = (r, a + (j : Int)) := by
  unfold rowOf at h
  rw [List.getElem?_map] at h
  by_cases hj : j < k
  · rw [List.getElem?_range hj] at h
    exact ⟨hj, (Option.some.inj h).symm⟩
  · rw [List.getElem?_eq_none (by simp; omega)] at h; cases h
theorem rowOf_len (r a : Int) (k : Nat) : (rowOf r a k).length = k := by simp [rowOf]
/-! ### slices as cells, insert -/
def slfO (l h : Option Int) (μ : Mu) : Option D → R Cell
  | some d => fSl d l h μ
  | none => .no
def R.slf3 (a : Sv) (l : Option Int) : R (Option Int) → R Cell
  | .ok h μ => slfO l h μ (look μ a)
  | .ex c μ => .ex c μ
  | .no => .no
def R.slf2 (a : Sv) (hi : Option Ev) (ρ : Rho) : R (Option Int) → R Cell
  | .ok l μ => (dPart hi ρ μ).slf3 a l
  | .ex c μ => .ex c μ
  | .no => .no
def R.slf (lo hi : Option Ev) (ρ : Rho) : R Sv → R Cell
  | .ok a μ => (dPart lo ρ μ).slf2 a hi ρ
  | .ex c μ => .ex c μ
  | .no => .no
@[simp] theorem dSlF_eq (fa : Ev) (lo hi : Option Ev) (ρ : Rho) (μ : Mu) : dSlF fa lo hi ρ μ = (fa ρ μ).slf lo hi ρ := by
  unfold dSlF
  cases fa ρ μ with
  | ok a μ1 =>
    show (dPart lo ρ μ1).bind _ = (dPart lo ρ μ1).slf2 a hi ρ
    cases dPart lo ρ μ1 with
    | ok l μ2 =>
      show (dPart hi ρ μ2).bind _ = (dPart hi ρ μ2).slf3 a l
      cases dPart hi ρ μ2 with
      | ok h μ3 => show (match look μ3 a with | some d => _ | none => _) = slfO l h μ3 (look μ3 a); cases look μ3 a <;> rfl
      | ex c μ3 => rfl
      | no => rfl
    | ex c μ2 => rfl
    | no => rfl
  | ex c μ1 => rfl
  | no => rfl
@[simp] theorem slf_ok (lo hi : Option Ev) (ρ : Rho) (a : Sv) (μ : Mu) : (R.ok a μ).slf lo hi ρ = (dPart lo ρ μ).slf2 a hi ρ := rfl
@[simp] theorem slf2_ok (a : Sv) (hi : Option Ev) (ρ : Rho) (l : Option Int) (μ : Mu) : (R.ok l μ).slf2 a hi ρ = (dPart hi ρ μ).slf3 a l := rfl
@[simp] theorem slf3_ok (a : Sv) (l h : Option Int) (μ : Mu) : (R.ok h μ).slf3 a l = slfO l h μ (look μ a) := rfl
@[simp] theorem slfO_ok (l h : Option Int) (μ : Mu) (d : D) : slfO l h μ (some d) = fSl d l h μ := rfl
theorem fSl_of {xs ys : List D} {l h : Option Int} (μ : Mu) (e : gSl (.lst xs) l h = some (.lst ys)) : fSl (.lst xs) l h μ = .ok (.lst ys) μ := by
  unfold gSl at e
  unfold fSl
  simp only [Option.some.injEq, D.lst.injEq] at e
  dsimp only
  rw [e]
def R.ins3 (i : Int) (n : Nat) (ρ : Rho) : R Sv → O
  | .ok (.im d) μ => insC i d n ρ μ μ[n]?
  | .ex c μ => .ex c ρ μ
  | _ => .no
def R.ins2 (fe : Ev) (n : Nat) (ρ : Rho) : R Sv → O
  | .ok (.im (.int i)) μ => (fe ρ μ).ins3 i n ρ
  | .ex c μ => .ex c ρ μ
  | _ => .no
def insO (fi fe : Ev) (n : Nat) (ρ : Rho) (μ : Mu) : Option Cell → O
  | some (.lst _) => (fi ρ μ).ins2 fe n ρ
  | _ => .no
def R.ins1 (fi fe : Ev) (ρ : Rho) : R Sv → O
  | .ok (.rf n) μ => insO fi fe n ρ μ μ[n]?
  | .ex c μ => .ex c ρ μ
  | _ => .no
@[simp] theorem sIns_eq (fx fi fe : Ev) (ρ : Rho) (μ : Mu) : sIns fx fi fe ρ μ = (fx ρ μ).ins1 fi fe ρ := by
  unfold sIns sE
  cases fx ρ μ with
  | ok v μ1 =>
    cases v with
    | im d => rfl
    | rf n =>
      show insD fi fe n ρ μ1 μ1[n]? = insO fi fe n ρ μ1 μ1[n]?
      unfold insD insO
      cases μ1[n]? with
      | none => rfl
      | some c =>
        cases c <;> first | rfl | skip
        dsimp only
        unfold sE
        cases fi ρ μ1 with
        | ok w μ2 =>
          cases w with
          | im e =>
            cases e <;> first | rfl | skip
            show (match fe ρ μ2 with | .ok v μ1 => _ | .ex c μ1 => _ | .no => _) = (fe ρ μ2).ins3 _ n ρ
            cases fe ρ μ2 with
            | ok z μ3 => cases z <;> rfl
            | ex c μ3 => rfl
            | no => rfl
          | rf k => rfl
        | ex c μ2 => rfl
        | no => rfl
  | ex c μ1 => rfl
  | no => rfl
@[simp] theorem ins1_ok (fi fe : Ev) (ρ : Rho) (n : Nat) (μ : Mu) : (R.ok (.rf n) μ).ins1 fi fe ρ = insO fi fe n ρ μ μ[n]? := rfl
@[simp] theorem insO_ok (fi fe : Ev) (n : Nat) (ρ : Rho) (μ : Mu) (xs : List D) : insO fi fe n ρ μ (some (.lst xs)) = (fi ρ μ).ins2 fe n ρ := rfl
@[simp] theorem ins2_ok (fe : Ev) (n : Nat) (ρ : Rho) (i : Int) (μ : Mu) : (R.ok (.im (.int i)) μ).ins2 fe n ρ = (fe ρ μ).ins3 i n ρ := rfl
@[simp] theorem ins3_ok (i : Int) (n : Nat) (ρ : Rho) (d : D) (μ : Mu) : (R.ok (.im d) μ).ins3 i n ρ = insC i d n ρ μ μ[n]? := rfl
@[simp] theorem insC_ok (i : Int) (d : D) (n : Nat) (ρ : Rho) (μ : Mu) (xs : List D) : insC i d n ρ μ (some (.lst xs)) = if xs.length < maxN ∧ 0 ≤ i ∧ i ≤ 1000000 then .nx ρ (μ.set n (.lst (xs.take i.toNat ++ [d] ++ xs.drop i.toNat))) else .no := rfl
end SP

/-! SP1: a plan after a deed; free runs; the choice of a run. -/
namespace SP
open PySem L2
/-! ### a deed is done -/
def upP (μ : Mu) (n m : Nat) (hs : List (List Bool)) (past : List Held) (h' : Held) : Mu := (μ.set m (.lst (past.map dHeld))).set n (obP hs h' m)
theorem upP_len (μ : Mu) (n m : Nat) (hs : List (List Bool)) (past : List Held) (h' : Held) : (upP μ n m hs past h').length = μ.length := by simp [upP]
theorem upP_app {μ r : Mu} {n m : Nat} {hs : List (List Bool)} {past : List Held} {h' : Held} (hn : n < μ.length) (hm : m < μ.length) : upP (μ ++ r) n m hs past h' = upP μ n m hs past h' ++ r := by
  unfold upP
  rw [List.set_append_left _ _ hm, List.set_append_left _ _ (by simpa using hn)]
theorem PL.lt {μ : Mu} {n m : Nat} {hs : List (List Bool)} {h : Held} {past : List Held} (P : PL μ n m hs h past) : n < μ.length ∧ m < μ.length := ⟨(List.getElem?_eq_some_iff.mp P.ob).1, (List.getElem?_eq_some_iff.mp P.pa).1⟩
theorem low_set {μ : Mu} (hμ : Low μ) {k : Nat} {c : Cell} (hc : c.low μ.length = true) : Low (μ.set k c) := by
  unfold Low at hμ ⊢
  rw [List.all_eq_true] at hμ ⊢
  rw [List.length_set]
  intro x hx
  rcases List.mem_or_eq_of_mem_set hx with h | h
  · exact hμ x h
  · rw [h]; exact hc
theorem PL.up {μ : Mu} {n m : Nat} {hs : List (List Bool)} {h : Held} {past : List Held} (P : PL μ n m hs h past) (past' : List Held) (h' : Held) : PL (upP μ n m hs past' h') n m hs h' past' := by
  obtain ⟨hn, hm⟩ := P.lt
  refine ⟨?_, ?_, P.ne, ?_⟩
  · unfold upP
    rw [List.getElem?_set_self (by simpa using hn)]
  · unfold upP
    rw [List.getElem?_set_ne P.ne, List.getElem?_set_self hm]
  · unfold upP
    refine low_set (low_set P.lo rfl) ?_
    rw [List.length_set]
    simp [obP, Cell.low, Sv.low, hm]
theorem upP_get {μ : Mu} {n m q : Nat} {hs : List (List Bool)} {past : List Held} {h' : Held} (h1 : q ≠ n) (h2 : q ≠ m) : (upP μ n m hs past h')[q]? = μ[q]? := by
  unfold upP
  rw [List.getElem?_set_ne (Ne.symm h1), List.getElem?_set_ne (Ne.symm h2)]
/-! ### free runs -/
theorem st_frR {t : Tk} {r : Int} {bs : List Bool} {i : Int} (h0 : 0 ≤ i) : st (frR t r 0 bs) i = (st bs i && !inT t (r, i)) := by
  unfold st
  rw [decide_eq_true h0, Bool.true_and, Bool.true_and, frR_get]
  have e : ((0 + i.toNat : Nat) : Int) = i := by omega
  rw [e]
theorem run_free {hs : List (List Bool)} {h : Held} {x : Rn} (hx : x ∈ freeR hs h) : 0 ≤ x.1 ∧ x.1 < hs.length ∧ 1 ≤ x.2.2 ∧ 0 ≤ x.2.1 ∧ ∀ i, x.2.1 ≤ i → i < x.2.1 + x.2.2 → seatB hs x.1 i = true ∧ (x.1, i) ∉ allP h := by
  have g := blks_good (frH (takL h) 0 hs) [] x hx
  simp only [List.nil_append] at g
  obtain ⟨g0, g1, g2⟩ := g
  rw [frH_len] at g1
  refine ⟨g0, by omega, g2.m1, g2.s0, fun i h1 h2 => ?_⟩
  have := g2.all i h1 h2
  rw [frH_get _ _ _ _ g1, st_frR (by have := g2.s0; omega)] at this
  rw [Bool.and_eq_true] at this
  refine ⟨?_, ?_⟩
  · unfold seatB; rw [decide_eq_true g0, Bool.true_and]; exact this.1
  · have e : ((0 + x.1.toNat : Nat) : Int) = x.1 := by omega
    rw [e, inT_takL'] at this
    simpa using this.2
theorem mem_rowOf {r a : Int} {k : Nat} {p : Pl} : p ∈ rowOf r a k ↔ p.1 = r ∧ a ≤ p.2 ∧ p.2 < a + k := by
  unfold rowOf
  rw [List.mem_map]
  constructor
  · rintro ⟨j, hj, rfl⟩
    rw [List.mem_range] at hj
    exact ⟨rfl, by show a ≤ a + (j : Int); omega, by show a + (j : Int) < a + k; omega⟩
  · rintro ⟨h1, h2, h3⟩
    refine ⟨(p.2 - a).toNat, List.mem_range.mpr (by omega), ?_⟩
    obtain ⟨p1, p2⟩ := p
    simp only at h1 h2 h3 ⊢
    rw [h1]
    congr 1
    omega
theorem rowOf_rise (r a : Int) (k : Nat) : (rowOf r a k).Pairwise lexQ := by
  unfold rowOf
  rw [List.pairwise_map]
  refine List.Pairwise.imp ?_ (List.pairwise_lt_range (n := k))
  intro i j h
  exact .inr ⟨rfl, by show a + (i : Int) < a + (j : Int); omega⟩
theorem rise_nodup {ps : List Pl} (h : ps.Pairwise lexQ) : ps.Nodup := h.imp fun {a b} h e => by
  subst e
  rcases h with h | ⟨_, h⟩ <;> exact absurd h (Int.lt_irrefl _)
theorem VH.add {hs : List (List Bool)} {h : Held} (v : VH hs h) {x : Str} {ps : List Pl} (gx : goodN x) (hx : x ∉ nmsH h) (hn : ps.Nodup) (hf : ∀ p ∈ ps, seatB hs p.1 p.2 = true ∧ p ∉ allP h) : VH hs (h ++ [(x, ps)]) := by
  have e : allP (h ++ [(x, ps)]) = allP h ++ ps := by rw [allP_app]; simp [allP]
  refine ⟨v.h40, v.b60, ?_, fun g hg => ?_, ?_, fun p hp => ?_⟩
  · rw [nms_app]
    show (nmsH h ++ [x]).Nodup
    rw [List.nodup_append]
    exact ⟨v.nn, by simp, fun a ha b hb z => hx (by rw [List.mem_singleton.mp hb] at z; rw [← z]; exact ha)⟩
  · rcases List.mem_append.mp hg with hg | hg
    · exact v.gn g hg
    · rw [List.mem_singleton.mp hg]; exact gx
  · rw [e, List.nodup_append]
    exact ⟨v.np, hn, fun a ha b hb z => (hf b hb).2 (by rw [← z]; exact ha)⟩
  · rw [e] at hp
    rcases List.mem_append.mp hp with hp | hp
    · exact v.se p hp
    · exact (hf p hp).1
theorem VH.sub {hs : List (List Bool)} {h h' : Held} (v : VH hs h) (s : h'.Sublist h) : VH hs h' := by
  have sa : (allP h').Sublist (allP h) := by
    unfold allP
    induction s with
    | slnil => exact List.Sublist.refl _
    | cons a _ ih => rw [List.flatMap_cons]; exact (ih ⟨v.h40, v.b60, by have := v.nn; exact (List.nodup_cons.mp this).2, fun g hg => v.gn g (List.mem_cons_of_mem _ hg), by have := v.np; unfold allP at this; rw [List.flatMap_cons] at this; exact (List.nodup_append.mp this).2.1, fun p hp => v.se p (by unfold allP; rw [List.flatMap_cons]; exact List.mem_append_right _ hp)⟩).trans (List.sublist_append_right _ _)
    | cons_cons a _ ih => rw [List.flatMap_cons, List.flatMap_cons]; exact (List.Sublist.refl _).append (ih ⟨v.h40, v.b60, by have := v.nn; exact (List.nodup_cons.mp this).2, fun g hg => v.gn g (List.mem_cons_of_mem _ hg), by have := v.np; unfold allP at this; rw [List.flatMap_cons] at this; exact (List.nodup_append.mp this).2.1, fun p hp => v.se p (by unfold allP; rw [List.flatMap_cons]; exact List.mem_append_right _ hp)⟩)
  exact ⟨v.h40, v.b60, v.nn.sublist (s.map _), fun g hg => v.gn g (s.subset hg), v.np.sublist sa, fun p hp => v.se p (sa.subset hp)⟩
theorem fit_mem {rs : List Rn} {k : Int} {x : Rn} (h : fit rs k = some x) : x ∈ rs ∧ k ≤ x.2.2 := by
  have q := fit_spec k rs none (fun x hx => by cases hx)
  unfold fit at h
  rw [h] at q
  obtain ⟨h1, _, _, h4⟩ := q
  rcases h4 with h4 | ⟨_, h4⟩
  · cases h4
  · exact ⟨(List.mem_filter.mp (List.mem_of_mem_head? h4)).1, h1⟩
theorem VH.sit {hs : List (List Bool)} {h : Held} (v : VH hs h) {x : Str} {run : Rn} {k : Nat} (gx : goodN x) (hx : x ∉ nmsH h) (hr : run ∈ freeR hs h) (hk : (k : Int) ≤ run.2.2) : VH hs (h ++ [(x, rowOf run.1 run.2.1 k)]) := by
  have f := run_free hr
  refine v.add gx hx (rise_nodup (rowOf_rise _ _ _)) fun p hp => ?_
  obtain ⟨h1, h2, h3⟩ := mem_rowOf.mp hp
  have := f.2.2.2.2 p.2 h2 (by omega)
  rw [← h1] at this
  exact this
/-! ### the law's own choice: the least by length, row, place -/
def key3 (r : Rn) : Rn := (r.2.2, r.1, r.2.1)
def bestS (rs : List Rn) (k : Int) : Option Rn := (isort lexC ((rs.filter fun r => decide (k ≤ r.2.2)).map key3)).head?
theorem bestS_perm {rs rs' : List Rn} (k : Int) (h : rs.Perm rs') : bestS rs k = bestS rs' k := by
  unfold bestS
  rw [isort_of tot_C (l := (rs.filter fun r => decide (k ≤ r.2.2)).map key3) (isort_srt tot_C ((rs'.filter fun r => decide (k ≤ r.2.2)).map key3)) ((isort_perm _).trans ((h.filter _).map _).symm)]
theorem isort_head {l : List Rn} {x : Rn} (hx : x ∈ l) (hm : ∀ y ∈ l, lexC y x = false) : (isort lexC l).head? = some x := by
  have s := isort_srt tot_C l
  have p := isort_perm (lt := lexC) l
  cases e : isort lexC l with
  | nil => rw [e] at p; have := p.mem_iff.mpr hx; cases this
  | cons z r =>
    rw [e] at s p
    rw [List.pairwise_cons] at s
    have hz := p.mem_iff.mp (List.mem_cons_self (a := z) (l := r))
    have h1 := hm z hz
    rcases List.mem_cons.mp (p.mem_iff.mpr hx) with h | h
    · rw [h]; rfl
    · have h2 := s.1 x h
      rw [tot_C.tri x z h2 h1]; rfl
theorem fit_best {rs : List Rn} (hr : rs.Pairwise lexP) (k : Int) : bestS rs k = (fit rs k).map key3 := by
  have q := fit_spec k rs none (fun x hx => by cases hx)
  unfold fit
  cases e : List.foldl (better k) none rs with
  | none =>
    rw [e] at q
    unfold bestS
    rw [q.2]
    rfl
  | some x =>
    rw [e] at q
    obtain ⟨h1, _, h3, h4⟩ := q
    rcases h4 with h4 | ⟨_, h4⟩
    · cases h4
    · unfold bestS
      have hm := List.mem_filter.mp (List.mem_of_mem_head? (show x ∈ (rs.filter fun r => decide (k ≤ r.2.2) && decide (r.2.2 = x.2.2)).head? from h4))
      refine isort_head (List.mem_map.mpr ⟨x, List.mem_filter.mpr ⟨hm.1, decide_eq_true h1⟩, rfl⟩) fun y hy => ?_
      obtain ⟨r, hr1, rfl⟩ := List.mem_map.mp hy
      obtain ⟨hr1, hr2⟩ := List.mem_filter.mp hr1
      have hr2 := of_decide_eq_true hr2
      have h5 := h3 r hr1 hr2
      refine lexC_no.mpr fun z => ?_
      simp only [key3] at z
      by_cases em : r.2.2 = x.2.2
      · have hrm : r ∈ rs.filter fun r => decide (k ≤ r.2.2) && decide (r.2.2 = x.2.2) := List.mem_filter.mpr ⟨hr1, by rw [decide_eq_true hr2, decide_eq_true em]; rfl⟩
        have pw : (rs.filter fun r => decide (k ≤ r.2.2) && decide (r.2.2 = x.2.2)).Pairwise lexP := hr.sublist List.filter_sublist
        generalize (rs.filter fun r => decide (k ≤ r.2.2) && decide (r.2.2 = x.2.2)) = L at hrm pw h4
        cases L with
        | nil => cases hrm
        | cons a l =>
          cases h4
          rw [List.pairwise_cons] at pw
          rcases List.mem_cons.mp hrm with rfl | hr'
          · omega
          · have := pw.1 r hr'
            unfold lexP at this
            omega
      · omega
theorem freeR_rise (hs : List (List Bool)) (h : Held) : (freeR hs h).Pairwise lexP := (blks_rise _ 0).1
end SP

/-! SP2: a group that sits apart; equations for loops over cells, sorted, remove, pop. -/
namespace SP
open PySem L2
/-! ### equations -/
def R.forK (i : Nat) (b : EvS) (ρ : Rho) : R Sv → O
  | .ok (.im (.lst xs)) μ => loopL i b xs ρ μ
  | .ok (.rf n) μ => forKO i b n ρ μ μ[n]?
  | .ex c μ => .ex c ρ μ
  | _ => .no
@[simp] theorem sForK_eq (i : Nat) (f : Ev) (b : EvS) (ρ : Rho) (μ : Mu) : sForK i f b ρ μ = (f ρ μ).forK i b ρ := by
  unfold sForK sE
  cases f ρ μ with
  | ok v μ1 =>
    cases v with
    | im d => cases d <;> rfl
    | rf n => rfl
  | ex c μ1 => rfl
  | no => rfl
@[simp] theorem forK_im (i : Nat) (b : EvS) (ρ : Rho) (xs : List D) (μ : Mu) : (R.ok (.im (.lst xs)) μ).forK i b ρ = loopL i b xs ρ μ := rfl
@[simp] theorem forK_rf (i : Nat) (b : EvS) (ρ : Rho) (n : Nat) (μ : Mu) : (R.ok (.rf n) μ).forK i b ρ = forKO i b n ρ μ μ[n]? := rfl
@[simp] theorem forKO_lst (i : Nat) (b : EvS) (n : Nat) (ρ : Rho) (μ : Mu) (xs : List D) : forKO i b n ρ μ (some (.lst xs)) = loopC n i b (xs.length + 1) 0 ρ μ := rfl
theorem loopC_same {n i : Nat} {body : EvS} {xs : List D} {μ : Mu} (hx : μ[n]? = some (.lst xs)) (S : Nat → Rho → Prop) (hs : ∀ k d ρ, xs[k]? = some d → S k ρ → ∃ ρ', body (ρ.set i (some (.im d))) μ = .nx ρ' μ ∧ S (k + 1) ρ') :
    ∀ (f k : Nat) (ρ : Rho), xs.length < f + k → k ≤ xs.length → S k ρ → ∃ ρ', loopC n i body f k ρ μ = .nx ρ' μ ∧ S xs.length ρ'
  | 0, k, ρ, h1, h2, _ => absurd h1 (by omega)
  | f + 1, k, ρ, h1, h2, s => by
    unfold loopC
    rw [hx]
    dsimp only
    cases e : xs[k]? with
    | none =>
      have := List.getElem?_eq_none_iff.mp e
      have e2 : k = xs.length := by omega
      subst e2
      exact ⟨ρ, rfl, s⟩
    | some d =>
      obtain ⟨ρ1, e1, s1⟩ := hs k d ρ e s
      dsimp only
      rw [e1]
      have := (List.getElem?_eq_some_iff.mp e).1
      exact loopC_same hx S hs f (k + 1) ρ1 (by omega) (by omega) s1
theorem loopC_then {n i : Nat} {body g : EvS} {xs : List D} {ρ : Rho} {μ : Mu} (Rz : O → Prop) (hx : μ[n]? = some (.lst xs)) (S : Nat → Rho → Prop) (h0 : S 0 ρ) (hs : ∀ k d ρ, xs[k]? = some d → S k ρ → ∃ ρ', body (ρ.set i (some (.im d))) μ = .nx ρ' μ ∧ S (k + 1) ρ')
    (hd : ∀ ρ', S xs.length ρ' → Rz (g ρ' μ)) : Rz ((loopC n i body (xs.length + 1) 0 ρ μ).seq g) := by
  obtain ⟨ρ', e, s⟩ := loopC_same hx S hs (xs.length + 1) 0 ρ (by omega) (by omega) h0
  rw [e]
  exact hd ρ' s
def fSortD (μ : Mu) : Option D → R Cell
  | some (.lst xs) => match asInts xs with
    | some ns => .ok (.lst ((isort ltI ns).map .int)) μ
    | none => match asPrs xs with
      | some ps => .ok (.lst ((isort SrtO.lexB ps).map ePr)) μ
      | none => match asTrs xs with
        | some ts => .ok (.lst ((isort lexC ts).map eTr)) μ
        | none => .no
  | _ => .no
@[simp] theorem fSorted_eq (a : Sv) (μ : Mu) : fSorted a μ = fSortD μ (look μ a) := rfl
theorem fSortD_pls (μ : Mu) (ps : List Pl) : fSortD μ (some (.lst (ps.map dPl))) = .ok (.lst ((isort SrtO.lexB ps).map dPl)) μ := by
  cases ps with
  | nil => rfl
  | cons p r =>
    show (match asPrs ((p :: r).map ePr) with | some ps => _ | none => _) = _
    rw [asPrs_map]; rfl
theorem fSortD_rns (μ : Mu) (ps : List Rn) : fSortD μ (some (.lst (ps.map dRun))) = .ok (.lst ((isort lexC ps).map dRun)) μ := by
  cases ps with
  | nil => rfl
  | cons p r =>
    show (match asTrs ((p :: r).map eTr) with | some ps => _ | none => _) = _
    rw [asTrs_map]; rfl
def R.rem2 (n : Nat) (ρ : Rho) : R Sv → O
  | .ok (.im d) μ => remC d n ρ μ μ[n]?
  | .ex c μ => .ex c ρ μ
  | _ => .no
def remO (fe : Ev) (n : Nat) (ρ : Rho) (μ : Mu) : Option Cell → O
  | some (.lst _) => (fe ρ μ).rem2 n ρ
  | _ => .no
def R.rem1 (fe : Ev) (ρ : Rho) : R Sv → O
  | .ok (.rf n) μ => remO fe n ρ μ μ[n]?
  | .ex c μ => .ex c ρ μ
  | _ => .no
@[simp] theorem sRem_eq (fx fe : Ev) (ρ : Rho) (μ : Mu) : sRem fx fe ρ μ = (fx ρ μ).rem1 fe ρ := by
  unfold sRem sE
  cases fx ρ μ with
  | ok v μ1 =>
    cases v with
    | im d => rfl
    | rf n =>
      show (match μ1[n]? with | some (.lst _) => _ | _ => _) = remO fe n ρ μ1 μ1[n]?
      cases μ1[n]? with
      | none => rfl
      | some c =>
        cases c <;> first | rfl | skip
        show (match fe ρ μ1 with | .ok v μ1 => _ | .ex c μ1 => _ | .no => _) = (fe ρ μ1).rem2 n ρ
        cases fe ρ μ1 with
        | ok w μ2 => cases w <;> rfl
        | ex c μ2 => rfl
        | no => rfl
  | ex c μ1 => rfl
  | no => rfl
@[simp] theorem rem1_ok (fe : Ev) (ρ : Rho) (n : Nat) (μ : Mu) : (R.ok (.rf n) μ).rem1 fe ρ = remO fe n ρ μ μ[n]? := rfl
@[simp] theorem remO_ok (fe : Ev) (n : Nat) (ρ : Rho) (μ : Mu) (xs : List D) : remO fe n ρ μ (some (.lst xs)) = (fe ρ μ).rem2 n ρ := rfl
@[simp] theorem rem2_ok (n : Nat) (ρ : Rho) (d : D) (μ : Mu) : (R.ok (.im d) μ).rem2 n ρ = remC d n ρ μ μ[n]? := rfl
theorem map_eraseIdx' {α β : Type} (f : α → β) : ∀ (l : List α) (j : Nat), (l.eraseIdx j).map f = (l.map f).eraseIdx j
  | [], _ => rfl
  | a :: l, 0 => rfl
  | a :: l, j + 1 => by simp [map_eraseIdx' f l j]
theorem find_erase {b : Rn} : ∀ {left : List Rn}, b ∈ left → ∃ j, left.findIdx? (fun y => decide (y = b)) = some j ∧ left.eraseIdx j = left.erase b
  | [], h => by cases h
  | a :: r, h => by
    by_cases e : a = b
    · exact ⟨0, by rw [List.findIdx?_cons]; simp [e], by rw [e]; simp⟩
    · obtain ⟨j, h1, h2⟩ := find_erase (b := b) (left := r) (by
        rcases List.mem_cons.mp h with h | h
        · exact absurd h.symm e
        · exact h)
      refine ⟨j + 1, ?_, ?_⟩
      · rw [List.findIdx?_cons]; simp [e, h1]
      · rw [List.eraseIdx_cons_succ, h2, List.erase_cons_tail (by simpa using e)]
theorem remC_run {left : List Rn} {b : Rn} (hb : b ∈ left) (n : Nat) (ρ : Rho) (μ : Mu) : remC (dRun b) n ρ μ (some (.lst (left.map dRun))) = .nx ρ (μ.set n (.lst ((left.erase b).map dRun))) := by
  obtain ⟨j, h1, h2⟩ := find_erase hb
  have e : (left.map dRun).findIdx? (fun y => PyData.eqv y.py (dRun b).py) = some j := by
    rw [List.findIdx?_map, ← h1]
    congr 1
    funext y
    exact run_eqv y b
  unfold remC
  dsimp only
  rw [eqoks_map (run_eqok 7), run_eqok 8, Bool.and_self, if_pos rfl, e]
  dsimp only
  rw [← h2, map_eraseIdx']
/-! ### the longest run -/
def lng (b r : Rn) : Rn := if b.2.2 < r.2.2 then r else b
def longR : List Rn → Option Rn
  | [] => none
  | r :: rs => some (rs.foldl lng r)
theorem lng_self (r : Rn) : lng r r = r := by unfold lng; rw [if_neg (by omega)]
theorem lng_spec : ∀ (rs : List Rn) (b : Rn), (rs.foldl lng b = b ∨ rs.foldl lng b ∈ rs) ∧ b.2.2 ≤ (rs.foldl lng b).2.2 ∧ (∀ r ∈ rs, r.2.2 ≤ (rs.foldl lng b).2.2) ∧ (rs.foldl lng b = b ∨ b.2.2 < (rs.foldl lng b).2.2 ∧ (rs.filter fun r => decide (r.2.2 = (rs.foldl lng b).2.2)).head? = some (rs.foldl lng b))
  | [], b => by simp
  | r :: rs, b => by
    have ih := lng_spec rs (lng b r)
    rw [List.foldl_cons]
    generalize rs.foldl lng (lng b r) = x at ih ⊢
    obtain ⟨h1, h2, h3, h4⟩ := ih
    have hl : (lng b r = b ∧ r.2.2 ≤ b.2.2) ∨ (lng b r = r ∧ b.2.2 < r.2.2) := by
      unfold lng
      by_cases c : b.2.2 < r.2.2
      · rw [if_pos c]; exact .inr ⟨rfl, c⟩
      · rw [if_neg c]; exact .inl ⟨rfl, by omega⟩
    rcases hl with ⟨e, hle⟩ | ⟨e, hlt⟩
    · rw [e] at h1 h2 h4
      refine ⟨?_, h2, fun q hq => ?_, ?_⟩
      · rcases h1 with h1 | h1
        · exact .inl h1
        · exact .inr (List.mem_cons_of_mem _ h1)
      · rcases List.mem_cons.mp hq with rfl | hq
        · omega
        · exact h3 q hq
      · rcases h4 with h4 | ⟨h4, h5⟩
        · exact .inl h4
        · refine .inr ⟨h4, ?_⟩
          rw [List.filter_cons_of_neg (by simp; omega)]
          exact h5
    · rw [e] at h1 h2 h4
      refine ⟨?_, by omega, fun q hq => ?_, ?_⟩
      · rcases h1 with h1 | h1
        · exact .inr (by rw [h1]; exact List.mem_cons_self)
        · exact .inr (List.mem_cons_of_mem _ h1)
      · rcases List.mem_cons.mp hq with rfl | hq
        · exact h2
        · exact h3 q hq
      · right
        refine ⟨by omega, ?_⟩
        rcases h4 with h4 | ⟨h4, h5⟩
        · rw [List.filter_cons_of_pos (by simp [h4])]
          simp [h4]
        · rw [List.filter_cons_of_neg (by simp; omega)]
          exact h5
theorem longR_spec {rs : List Rn} {b : Rn} (h : longR rs = some b) : b ∈ rs ∧ (∀ r ∈ rs, r.2.2 ≤ b.2.2) ∧ (rs.filter fun r => decide (r.2.2 = b.2.2)).head? = some b := by
  cases rs with
  | nil => cases h
  | cons r rs =>
    have e : rs.foldl lng r = b := Option.some.inj h
    have q := lng_spec rs r
    rw [e] at q
    obtain ⟨h1, h2, h3, h4⟩ := q
    refine ⟨?_, fun q hq => ?_, ?_⟩
    · rcases h1 with h1 | h1
      · rw [h1]; exact List.mem_cons_self
      · exact List.mem_cons_of_mem _ h1
    · rcases List.mem_cons.mp hq with rfl | hq
      · exact h2
      · exact h3 q hq
    · rcases h4 with h4 | ⟨h4, h5⟩
      · rw [h4, List.filter_cons_of_pos (by simp)]; rfl
      · rw [List.filter_cons_of_neg (by simp; omega)]; exact h5
theorem longR_ne {rs : List Rn} (h : rs ≠ []) : ∃ b, longR rs = some b := by
  cases rs with
  | nil => exact absurd rfl h
  | cons r rs => exact ⟨_, rfl⟩
/-! ### apart -/
def partsL : Nat → List Rn → Int → List Pl
  | 0, _, _ => []
  | f + 1, left, w => match longR left with
    | none => []
    | some b => if b.2.2 < w then rowOf b.1 b.2.1 b.2.2.toNat ++ partsL f (left.erase b) (w - b.2.2) else match fit left w with
      | some x => rowOf x.1 x.2.1 w.toNat
      | none => []
def wholeR (rs : List Rn) : List Pl := rs.flatMap fun r => rowOf r.1 r.2.1 r.2.2.toNat
theorem fit_some {rs : List Rn} {k : Int} {b : Rn} (hb : b ∈ rs) (hk : k ≤ b.2.2) : ∃ x, fit rs k = some x := by
  cases e : fit rs k with
  | some x => exact ⟨x, rfl⟩
  | none =>
    have q := fit_spec k rs none (fun x hx => by cases hx)
    unfold fit at e
    rw [e] at q
    have : b ∈ rs.filter fun r => decide (k ≤ r.2.2) := List.mem_filter.mpr ⟨hb, decide_eq_true hk⟩
    rw [q.2] at this
    cases this
theorem heldI_perm {a b : List Rn} (h : a.Perm b) : heldI a = heldI b := by
  induction h with
  | nil => rfl
  | cons x _ ih => simp only [heldI, ih]
  | swap x y l => simp only [heldI]; omega
  | trans _ _ h1 h2 => exact h1.trans h2
theorem heldI_nn {rs : List Rn} (h : ∀ r ∈ rs, 1 ≤ r.2.2) : 0 ≤ heldI rs := by
  induction rs with
  | nil => simp [heldI]
  | cons a r ih =>
    have := ih fun x hx => h x (List.mem_cons_of_mem _ hx)
    have := h a List.mem_cons_self
    simp only [heldI]; omega
theorem rowOf_pre (r a : Int) {k n : Nat} (h : k ≤ n) : (rowOf r a k).Sublist (rowOf r a n) := by
  unfold rowOf
  refine List.Sublist.map _ ?_
  rw [show k = min k n by omega, ← List.take_range]
  exact List.take_sublist _ _
/-- what is got are seats of the runs, none twice -/
theorem partsL_sub : ∀ (f : Nat) (left : List Rn) (w : Int), (∀ r ∈ left, 1 ≤ r.2.2) → ∃ l, (partsL f left w ++ l).Perm (wholeR left)
  | 0, left, w, _ => ⟨wholeR left, List.Perm.refl _⟩
  | f + 1, left, w, hm => by
    unfold partsL
    cases e : longR left with
    | none => exact ⟨wholeR left, List.Perm.refl _⟩
    | some b =>
      have hb := (longR_spec e).1
      have pe := List.perm_cons_erase hb
      dsimp only
      split
      · obtain ⟨l, hl⟩ := partsL_sub f (left.erase b) (w - b.2.2) fun r hr => hm r (List.mem_of_mem_erase hr)
        refine ⟨l, ?_⟩
        have : (wholeR (b :: left.erase b)).Perm (wholeR left) := (pe.flatMap_right _).symm
        refine List.Perm.trans ?_ this
        rw [List.append_assoc]
        unfold wholeR
        rw [List.flatMap_cons]
        exact hl.append_left _
      · cases e2 : fit left w with
        | none => exact ⟨wholeR left, List.Perm.refl _⟩
        | some x =>
          obtain ⟨hx, hw⟩ := fit_mem e2
          have px := List.perm_cons_erase hx
          have : (wholeR (x :: left.erase x)).Perm (wholeR left) := (px.flatMap_right _).symm
          have hx1 := hm x hx
          obtain ⟨l1, h1⟩ := (rowOf_pre x.1 x.2.1 (show w.toNat ≤ x.2.2.toNat by omega)).exists_perm_append
          refine ⟨l1 ++ wholeR (left.erase x), List.Perm.trans ?_ this⟩
          show (rowOf x.1 x.2.1 w.toNat ++ (l1 ++ wholeR (left.erase x))).Perm _
          unfold wholeR
          rw [List.flatMap_cons, ← List.append_assoc]
          exact h1.symm.append_right _
theorem partsL_len : ∀ (f : Nat) (left : List Rn) (w : Int), left.length ≤ f → (∀ r ∈ left, 1 ≤ r.2.2) → 1 ≤ w → w ≤ heldI left → ((partsL f left w).length : Int) = w
  | 0, left, w, hl, hm, h1, h2 => by
    have : left = [] := List.eq_nil_of_length_eq_zero (by omega)
    subst this
    simp [heldI] at h2
    omega
  | f + 1, left, w, hl, hm, h1, h2 => by
    have hne : left ≠ [] := by
      intro z; subst z; simp [heldI] at h2; omega
    obtain ⟨b, e⟩ := longR_ne hne
    have hb := (longR_spec e).1
    have pe := heldI_perm (List.perm_cons_erase hb)
    simp only [heldI] at pe
    unfold partsL
    rw [e]
    dsimp only
    split
    · have ih := partsL_len f (left.erase b) (w - b.2.2) (by rw [List.length_erase_of_mem hb]; omega) (fun r hr => hm r (List.mem_of_mem_erase hr)) (by omega) (by omega)
      have := hm b hb
      rw [List.length_append, rowOf_len]
      omega
    · obtain ⟨x, ex⟩ := fit_some hb (show w ≤ b.2.2 by omega)
      rw [ex]
      dsimp only
      rw [rowOf_len]; omega
def sepP (a b : Rn) : Prop := a.1 < b.1 ∨ a.1 = b.1 ∧ a.2.1 + a.2.2 ≤ b.2.1
theorem gob_sep (r : Int) : ∀ (t : List Bool) (p m : Nat), m ≤ p → (gob r t p m).Pairwise sepP ∧ ∀ x ∈ gob r t p m, x.1 = r ∧ (p : Int) - m ≤ x.2.1
  | [], p, m, h => by
    unfold gob
    split <;> simp
  | true :: t, p, m, h => by
    unfold gob
    have ih := gob_sep r t (p + 1) (m + 1) (by omega)
    refine ⟨ih.1, fun x hx => ?_⟩
    have := ih.2 x hx
    exact ⟨this.1, by have := this.2; omega⟩
  | false :: t, p, m, h => by
    unfold gob
    have ih := gob_sep r t (p + 1) 0 (by omega)
    split
    · rename_i hm
      refine ⟨?_, fun x hx => ?_⟩
      · rw [List.singleton_append, List.pairwise_cons]
        refine ⟨fun x hx => ?_, ih.1⟩
        have := ih.2 x hx
        refine .inr ⟨this.1.symm, ?_⟩
        have := this.2
        show (p : Int) - m + m ≤ x.2.1
        omega
      · rcases List.mem_append.mp hx with q | q
        · have : x = (r, (p : Int) - m, (m : Int)) := by simpa using q
          subst this
          exact ⟨rfl, Int.le_refl _⟩
        · have := ih.2 x q
          exact ⟨this.1, by have := this.2; omega⟩
    · refine ⟨by simpa using ih.1, fun x hx => ?_⟩
      have := ih.2 x (by simpa using hx)
      exact ⟨this.1, by have := this.2; omega⟩
theorem blks_sep : ∀ (hs : List (List Bool)) (r : Int), (blks r hs).Pairwise sepP
  | [], r => by simp [blks]
  | b :: t, r => by
    have h1 := gob_sep r b 0 0 (Nat.le_refl _)
    have h2 := blks_rise t (r + 1)
    unfold blks
    rw [List.pairwise_append]
    refine ⟨h1.1, blks_sep t (r + 1), fun x hx y hy => .inl ?_⟩
    have := (h1.2 x hx).1
    have := h2.2 y hy
    omega
theorem whole_rise : ∀ {rs : List Rn}, rs.Pairwise sepP → (∀ r ∈ rs, 1 ≤ r.2.2) → (wholeR rs).Pairwise lexQ
  | [], _, _ => List.Pairwise.nil
  | r :: rs, h, hm => by
    rw [List.pairwise_cons] at h
    unfold wholeR
    rw [List.flatMap_cons, List.pairwise_append]
    refine ⟨rowOf_rise _ _ _, whole_rise h.2 fun x hx => hm x (List.mem_cons_of_mem _ hx), fun p hp q hq => ?_⟩
    obtain ⟨h1, h2, h3⟩ := mem_rowOf.mp hp
    obtain ⟨x, hx, hq⟩ := List.mem_flatMap.mp hq
    obtain ⟨h4, h5, h6⟩ := mem_rowOf.mp hq
    have s := h.1 x hx
    have := hm r List.mem_cons_self
    unfold lexQ
    rcases s with s | ⟨s1, s2⟩
    · left; omega
    · right; omega
theorem freeR_pos {hs : List (List Bool)} {h : Held} : ∀ r ∈ freeR hs h, 1 ≤ r.2.2 := fun r hr => (run_free hr).2.2.1
theorem VH.apart {hs : List (List Bool)} {h : Held} (v : VH hs h) {x : Str} {f : Nat} {w : Int} (gx : goodN x) (hx : x ∉ nmsH h) : VH hs (h ++ [(x, isort SrtO.lexB (partsL f (freeR hs h) w))]) := by
  obtain ⟨l, hl⟩ := partsL_sub f (freeR hs h) w freeR_pos
  have wn : (wholeR (freeR hs h)).Nodup := rise_nodup (whole_rise (blks_sep _ 0) freeR_pos)
  have pn : (partsL f (freeR hs h) w).Nodup := (List.nodup_append.mp (hl.nodup_iff.mpr wn)).1
  refine v.add gx hx ((isort_perm _).nodup_iff.mpr pn) fun p hp => ?_
  have hp := (isort_perm _).mem_iff.mp hp
  have hp : p ∈ wholeR (freeR hs h) := hl.mem_iff.mp (List.mem_append_left _ hp)
  obtain ⟨r, hr, hp⟩ := List.mem_flatMap.mp hp
  obtain ⟨h1, h2, h3⟩ := mem_rowOf.mp hp
  have fr := run_free hr
  have := fr.2.2.2.2 p.2 h2 (by have := fr.2.2.1; omega)
  rw [← h1] at this
  exact this
/-! ### the law's order of the runs: the longest first -/
def neg3 (r : Rn) : Rn := (0 - r.2.2, r.1, r.2.1)
theorem long_head {left : List Rn} {b : Rn} (hr : left.Pairwise lexP) (e : longR left = some b) : isort lexC (left.map neg3) = neg3 b :: isort lexC ((left.erase b).map neg3) := by
  obtain ⟨h1, h2, h3⟩ := longR_spec e
  have least : ∀ y ∈ left, lexC (neg3 y) (neg3 b) = false := by
    intro y hy
    refine lexC_no.mpr fun z => ?_
    simp only [neg3] at z
    have h4 := h2 y hy
    by_cases em : y.2.2 = b.2.2
    · have hrm : y ∈ left.filter fun r => decide (r.2.2 = b.2.2) := List.mem_filter.mpr ⟨hy, decide_eq_true em⟩
      have pw : (left.filter fun r => decide (r.2.2 = b.2.2)).Pairwise lexP := hr.sublist List.filter_sublist
      generalize (left.filter fun r => decide (r.2.2 = b.2.2)) = L at hrm pw h3
      cases L with
      | nil => cases hrm
      | cons a l =>
        cases h3
        rw [List.pairwise_cons] at pw
        rcases List.mem_cons.mp hrm with rfl | hr'
        · omega
        · have := pw.1 y hr'
          unfold lexP at this
          omega
    · omega
  refine isort_of tot_C ?_ ?_
  · rw [List.pairwise_cons]
    refine ⟨fun y hy => ?_, isort_srt tot_C _⟩
    obtain ⟨r, hr1, rfl⟩ := List.mem_map.mp ((isort_perm _).mem_iff.mp hy)
    exact least r (List.mem_of_mem_erase hr1)
  · refine ((isort_perm _).cons _).trans ?_
    have := (List.perm_cons_erase h1).map neg3
    exact this.symm
end SP

/-! SP3: d.pop(k); == of a datum with itself; the law's own dict beside the plan. -/
namespace SP
open PySem L2
def R.dp2 (n : Nat) : R Sv → R Sv
  | .ok (.im k) μ => dpopO n k μ μ[n]?
  | .ex c μ => .ex c μ
  | _ => .no
def dp1O (fk : Ev) (ρ : Rho) (n : Nat) (μ : Mu) : Option Cell → R Sv
  | some (.dk _) => (fk ρ μ).dp2 n
  | _ => .no
def R.dp1 (fk : Ev) (ρ : Rho) : R Sv → R Sv
  | .ok (.rf n) μ => dp1O fk ρ n μ μ[n]?
  | .ex c μ => .ex c μ
  | _ => .no
@[simp] theorem dDPop_eq (fd fk : Ev) (ρ : Rho) (μ : Mu) : dDPop fd fk ρ μ = (fd ρ μ).dp1 fk ρ := by
  unfold dDPop
  cases fd ρ μ with
  | ok x μ1 =>
    cases x with
    | im d => rfl
    | rf n =>
      show (match μ1[n]? with | some (.dk _) => _ | _ => _) = dp1O fk ρ n μ1 μ1[n]?
      cases μ1[n]? with
      | none => rfl
      | some c =>
        cases c <;> first | rfl | skip
        show (fk ρ μ1).bind _ = (fk ρ μ1).dp2 n
        cases fk ρ μ1 with
        | ok w μ2 => cases w <;> rfl
        | ex c μ2 => rfl
        | no => rfl
  | ex c μ1 => rfl
  | no => rfl
@[simp] theorem dp1_ok (fk : Ev) (ρ : Rho) (n : Nat) (μ : Mu) : (R.ok (.rf n) μ).dp1 fk ρ = dp1O fk ρ n μ μ[n]? := rfl
@[simp] theorem dp1O_ok (fk : Ev) (ρ : Rho) (n : Nat) (μ : Mu) (kvs : List (Key × D)) : dp1O fk ρ n μ (some (.dk kvs)) = (fk ρ μ).dp2 n := rfl
@[simp] theorem dp2_ok (n : Nat) (k : D) (μ : Mu) : (R.ok (.im k) μ).dp2 n = dpopO n k μ μ[n]? := rfl
theorem drop_held (h : Held) (x : Str) : dropD (h.map kH) (.inr x) = (delH h x).map kH := by
  unfold dropD delH
  rw [List.filter_map]
  congr 1
  refine List.filter_congr fun g _ => ?_
  simp [kH]
theorem dpop_held {h : Held} {x : Str} {ps : List Pl} (hx : getH h x = some ps) (n : Nat) (μ : Mu) : dpopO n (.str x) μ (some (.dk (h.map kH))) = .ok (.im (dSp ps)) (μ.set n (.dk ((delH h x).map kH))) := by
  have e : valD (h.map kH) (.inr x) = some (dSp ps) := by rw [valD_held, hx]; rfl
  unfold dpopO keyOf
  dsimp only
  rw [e, drop_held]
theorem gEq_self {d : D} (h : D.eqok 9 d = true) : gEq d d = some (.bl true) := by
  rw [gEq_of h h, eqv_same 9 d h]
theorem pl_eqok (n : Nat) (p : Pl) : D.eqok (n + 1) (dPl p) = true := by simp [dPl, D.eqok, D.eqoks]
theorem sp_eqok (n : Nat) (ps : List Pl) : D.eqok (n + 2) (dSp ps) = true := eqoks_map (pl_eqok n) ps
theorem sps_eqok (l : List (List Pl)) : D.eqok 9 (.lst (l.map dSp)) = true := eqoks_map (sp_eqok 6) l
theorem strs_eqok (l : List Str) : D.eqok 9 (.lst (l.map D.str)) = true := eqoks_map (fun s => by simp [D.eqok]) l
theorem delH_sub (h : Held) (x : Str) : (delH h x).Sublist h := List.filter_sublist
/-- beside the plan's cells stands a dict of the same groups -/
structure SL (μ : Mu) (n m d : Nat) (hs : List (List Bool)) (h : Held) (past : List Held) : Prop where
  P : PL μ n m hs h past
  hd : μ[d]? = some (.dk (h.map kH))
  dn : d ≠ n
  dm : d ≠ m
def upQ (μ : Mu) (n m d : Nat) (hs : List (List Bool)) (past : List Held) (h' : Held) : Mu := (upP μ n m hs past h').set d (.dk (h'.map kH))
theorem upQ_len (μ : Mu) (n m d : Nat) (hs : List (List Bool)) (past : List Held) (h' : Held) : (upQ μ n m d hs past h').length = μ.length := by simp [upQ, upP]
theorem SL.lt {μ : Mu} {n m d : Nat} {hs : List (List Bool)} {h : Held} {past : List Held} (S : SL μ n m d hs h past) : d < μ.length := (List.getElem?_eq_some_iff.mp S.hd).1
theorem SL.up {μ : Mu} {n m d : Nat} {hs : List (List Bool)} {h : Held} {past : List Held} (S : SL μ n m d hs h past) (past' : List Held) (h' : Held) : SL (upQ μ n m d hs past' h') n m d hs h' past' := by
  have U := S.P.up past' h'
  have ld := S.lt
  refine ⟨⟨?_, ?_, S.P.ne, ?_⟩, ?_, S.dn, S.dm⟩
  · unfold upQ
    rw [List.getElem?_set_ne S.dn]; exact U.ob
  · unfold upQ
    rw [List.getElem?_set_ne S.dm]; exact U.pa
  · exact low_set U.lo rfl
  · unfold upQ
    rw [List.getElem?_set_self (by rw [upP_len]; exact ld)]
theorem upP_set {μ : Mu} {n m d : Nat} {hs : List (List Bool)} {past : List Held} {h' : Held} (dn : d ≠ n) (dm : d ≠ m) (c : Cell) : upP (μ.set d c) n m hs past h' = (upP μ n m hs past h').set d c := by
  unfold upP
  rw [List.set_comm _ _ dm, List.set_comm _ _ dn]
theorem PL.set {μ : Mu} {n m d : Nat} {hs : List (List Bool)} {h : Held} {past : List Held} (P : PL μ n m hs h past) (dn : d ≠ n) (dm : d ≠ m) {h' : Held} : PL (μ.set d (.dk (h'.map kH))) n m hs h past :=
  ⟨by rw [List.getElem?_set_ne dn]; exact P.ob, by rw [List.getElem?_set_ne dm]; exact P.pa, P.ne, low_set P.lo rfl⟩
end SP

/-! SP4: equations for d.setdefault(k, []), the thaw, dict of pairs, list of values, d.get(k, e); groups that grow seat by seat. -/
namespace SP
open PySem L2
@[simp] theorem dDv_eq (ρ : Rho) (μ : Mu) : dDv ρ μ = .ok (.dv []) μ := rfl
def R.sd2 (n : Nat) : R Sv → R Sv
  | .ok (.im k) μ => setdO n k μ μ[n]?
  | .ex c μ => .ex c μ
  | _ => .no
def sd1O (fk : Ev) (ρ : Rho) (n : Nat) (μ : Mu) : Option Cell → R Sv
  | some (.dv _) => (fk ρ μ).sd2 n
  | _ => .no
def R.sd1 (fk : Ev) (ρ : Rho) : R Sv → R Sv
  | .ok (.rf n) μ => sd1O fk ρ n μ μ[n]?
  | .ex c μ => .ex c μ
  | _ => .no
@[simp] theorem dSetd_eq (fd fk : Ev) (ρ : Rho) (μ : Mu) : dSetd fd fk ρ μ = (fd ρ μ).sd1 fk ρ := by
  unfold dSetd
  cases fd ρ μ with
  | ok x μ1 =>
    cases x with
    | im d => rfl
    | rf n =>
      show (match μ1[n]? with | some (.dv _) => _ | _ => _) = sd1O fk ρ n μ1 μ1[n]?
      cases μ1[n]? with
      | none => rfl
      | some c =>
        cases c <;> first | rfl | skip
        show (fk ρ μ1).bind _ = (fk ρ μ1).sd2 n
        cases fk ρ μ1 with
        | ok w μ2 => cases w <;> rfl
        | ex c μ2 => rfl
        | no => rfl
  | ex c μ1 => rfl
  | no => rfl
@[simp] theorem sd1_ok (fk : Ev) (ρ : Rho) (n : Nat) (μ : Mu) : (R.ok (.rf n) μ).sd1 fk ρ = sd1O fk ρ n μ μ[n]? := rfl
@[simp] theorem sd1O_ok (fk : Ev) (ρ : Rho) (n : Nat) (μ : Mu) (kvs : List (Key × Sv)) : sd1O fk ρ n μ (some (.dv kvs)) = (fk ρ μ).sd2 n := rfl
@[simp] theorem sd2_ok (n : Nat) (k : D) (μ : Mu) : (R.ok (.im k) μ).sd2 n = setdO n k μ μ[n]? := rfl
def thawI (d : EvS) (ρ : Rho) (μ : Mu) : Option (Option Sv) → O
  | some (some (.rf n)) => thawO n d ρ μ μ[n]?
  | _ => .no
@[simp] theorem sThaw_eq (i : Nat) (d : EvS) (ρ : Rho) (μ : Mu) : sThaw i d ρ μ = thawI d ρ μ ρ[i]? := rfl
@[simp] theorem thawI_rf (d : EvS) (ρ : Rho) (μ : Mu) (n : Nat) : thawI d ρ μ (some (some (.rf n))) = thawO n d ρ μ μ[n]? := rfl
def fDictPD (μ : Mu) : Option D → R Cell
  | some (.lst xs) => match pairsOf xs with
    | some kvs => if kvs.length ≤ maxN then .ok (.dk (kvs.foldl (fun acc kv => putD acc kv.1 kv.2) [])) μ else .no
    | none => .no
  | _ => .no
@[simp] theorem fDictP_eq (a : Sv) (μ : Mu) : fDictP a μ = fDictPD μ (look μ a) := rfl
def fValsC (μ : Mu) : Option Cell → R Cell
  | some (.dk kvs) => .ok (.lst (kvs.map (·.2))) μ
  | _ => .no
@[simp] theorem fVals_rf (n : Nat) (μ : Mu) : fVals (.rf n) μ = fValsC μ μ[n]? := by
  show (match μ[n]? with
    | some (.dk kvs) => R.ok (Cell.lst (kvs.map (·.2))) μ
    | _ => .no) = fValsC μ μ[n]?
  cases h : μ[n]? with
  | none => rfl
  | some c => cases c <;> rfl
@[simp] theorem fValsC_dk (μ : Mu) (kvs : List (Key × D)) : fValsC μ (some (.dk kvs)) = .ok (.lst (kvs.map (·.2))) μ := rfl
def isiO (μ : Mu) : Option Cell → R Sv
  | some (.ob _) => .ok (.im (.bl true)) μ
  | _ => .no
def R.isi : R Sv → R Sv
  | .ok (.rf n) μ => isiO μ μ[n]?
  | .ex c μ => .ex c μ
  | _ => .no
@[simp] theorem dIsiC_eq (f : Ev) (ρ : Rho) (μ : Mu) : dIsiC f ρ μ = (f ρ μ).isi := by
  unfold dIsiC
  cases f ρ μ with
  | ok v μ1 =>
    cases v with
    | im d => rfl
    | rf n =>
      show (match μ1[n]? with | some (.ob _) => _ | _ => _) = isiO μ1 μ1[n]?
      cases μ1[n]? with
      | none => rfl
      | some c => cases c <;> rfl
  | ex c μ1 => rfl
  | no => rfl
@[simp] theorem isi_rf (n : Nat) (μ : Mu) : (R.ok (.rf n) μ).isi = isiO μ μ[n]? := rfl
@[simp] theorem isiO_ob (μ : Mu) (fs : List (Str × Sv)) : isiO μ (some (.ob fs)) = .ok (.im (.bl true)) μ := rfl
def getE3 (d k : D) : R Sv → R Sv
  | .ok (.im e) μ => match dAt d k with
    | some o => .ok (.im (o.getD e)) μ
    | none => .no
  | .ex c μ => .ex c μ
  | _ => .no
/-- d.get(k, e), all three data -/
theorem dGet2_im {fd fk fz : Ev} {ρ : Rho} {μ : Mu} {d k e : D} {o : Option D} (h1 : fd ρ μ = .ok (.im d) μ) (hd : isDict d = true) (h2 : fk ρ μ = .ok (.im k) μ) (h3 : fz ρ μ = .ok (.im e) μ) (h4 : dAt d k = some o) : dGet2 fd fk fz ρ μ = .ok (.im (o.getD e)) μ := by
  unfold dGet2
  simp [h1, hd, h2, h3, h4]
/-- part of a row -/
theorem row_cut (bs : List Bool) (a b : Nat) : gSl (.str (rowS bs)) (some (a : Int)) (some (b : Int)) = some (.str (rowS ((bs.take b).drop a))) := by
  unfold gSl cutS
  simp only [HT.sIx_none, HT.sIx_nat, rowS_len, row_signs]
  unfold rowS
  rw [← List.map_drop, ← List.map_take]
  congr 4
  rw [List.drop_take]
  by_cases h : a ≤ bs.length
  · rw [Nat.min_eq_left h]
    by_cases h2 : b ≤ bs.length
    · rw [Nat.min_eq_left h2]
    · rw [Nat.min_eq_right (show bs.length ≤ b by omega), List.take_of_length_le (by rw [List.length_drop]; omega), List.take_of_length_le (by rw [List.length_drop]; omega)]
  · rw [Nat.min_eq_right (show bs.length ≤ a by omega), List.drop_eq_nil_of_le (Nat.le_refl _), List.drop_eq_nil_of_le (show bs.length ≤ a by omega)]
    simp
/-! ### groups that grow seat by seat -/
def addP (B : Held) (x : Str) (p : Pl) : Held := if x ∈ nmsH B then B.map (fun g => if g.1 = x then (g.1, g.2 ++ [p]) else g) else B ++ [(x, [p])]
def kvF (b : Nat) : Nat → Held → List (Key × Sv)
  | _, [] => []
  | j, g :: r => (.inr g.1, .rf (b + 1 + j)) :: kvF b (j + 1) r
def cLs (g : Str × List Pl) : Cell := .lst (g.2.map dPl)
def cFz (g : Str × List Pl) : Cell := .fz (.lst (g.2.map dPl))
def stB (b : Nat) (B : Held) : Mu := .dv (kvF b 0 B) :: B.map cLs
theorem kvF_len (b : Nat) : ∀ (B : Held) (j : Nat), (kvF b j B).length = B.length
  | [], _ => rfl
  | g :: r, j => by simp [kvF, kvF_len b r (j + 1)]
theorem kvF_snoc (b : Nat) (g : Str × List Pl) : ∀ (B : Held) (j : Nat), kvF b j (B ++ [g]) = kvF b j B ++ [(.inr g.1, .rf (b + 1 + (j + B.length)))]
  | [], j => by simp [kvF]
  | a :: r, j => by
    have := kvF_snoc b g r (j + 1)
    simp only [List.cons_append, kvF, this, List.length_cons]
    rw [show j + 1 + r.length = j + (r.length + 1) by omega]
theorem kvF_map (b : Nat) {f : Str × List Pl → Str × List Pl} (hf : ∀ g, (f g).1 = g.1) : ∀ (B : Held) (j : Nat), kvF b j (B.map f) = kvF b j B
  | [], _ => rfl
  | a :: r, j => by simp [kvF, hf, kvF_map b hf r (j + 1)]
theorem kvF_in (b : Nat) : ∀ (B : Held) (j i : Nat) (g : Str × List Pl), (nmsH B).Nodup → B[i]? = some g → valS (kvF b j B) (.inr g.1) = some (.rf (b + 1 + (j + i)))
  | [], _, _, _, _, h => by simp at h
  | a :: r, j, 0, g, _, h => by
    have : a = g := by simpa using h
    subst this
    simp [kvF, valS]
  | a :: r, j, i + 1, g, hn, h => by
    have hn' : a.1 ∉ nmsH r ∧ (nmsH r).Nodup := by unfold nmsH at hn ⊢; rwa [List.map_cons, List.nodup_cons] at hn
    have hm : g ∈ r := List.mem_of_getElem? (by simpa using h)
    have hne : ¬ ((Sum.inr a.1 : Key) = .inr g.1) := fun e => hn'.1 (by rw [Sum.inr.inj e]; exact List.mem_map_of_mem hm)
    have ih := kvF_in b r (j + 1) i g hn'.2 (by simpa using h)
    unfold valS at ih ⊢
    simp only [kvF, List.find?_cons, decide_eq_false hne]
    rw [ih, show j + 1 + i = j + (i + 1) by omega]
theorem kvF_out (b : Nat) {x : Str} : ∀ (B : Held) (j : Nat), x ∉ nmsH B → valS (kvF b j B) (.inr x) = none
  | [], _, _ => rfl
  | a :: r, j, h => by
    have h1 : a.1 ≠ x := fun e => h (by rw [← e]; simp [nmsH])
    have h2 : x ∉ nmsH r := fun e => h (by unfold nmsH at e ⊢; rw [List.map_cons]; exact List.mem_cons_of_mem _ e)
    have ih := kvF_out b r (j + 1) h2
    have hne : ¬ ((Sum.inr a.1 : Key) = .inr x) := fun e => h1 (Sum.inr.inj e)
    unfold valS at ih ⊢
    simp only [kvF, List.find?_cons, decide_eq_false hne]
    exact ih
theorem get_tl {μ cs : Mu} {a : Cell} (i : Nat) : (μ ++ a :: cs)[μ.length + 1 + i]? = cs[i]? := by
  rw [List.getElem?_append_right (by omega), show μ.length + 1 + i - μ.length = i + 1 by omega, List.getElem?_cons_succ]
theorem set_tl {μ cs : Mu} {a c : Cell} (i : Nat) : (μ ++ a :: cs).set (μ.length + 1 + i) c = μ ++ a :: cs.set i c := by
  rw [List.set_append_right _ _ (by omega), show μ.length + 1 + i - μ.length = i + 1 by omega, List.set_cons_succ]
theorem addP_in {x : Str} {p : Pl} : ∀ (B : Held) (i : Nat) (g : Str × List Pl), (nmsH B).Nodup → B[i]? = some g → g.1 = x → (B.map cLs).set i (cLs (g.1, g.2 ++ [p])) = (B.map fun g => if g.1 = x then (g.1, g.2 ++ [p]) else g).map cLs
  | [], _, _, _, h, _ => by simp at h
  | a :: r, 0, g, hn, h, hx => by
    have : a = g := by simpa using h
    subst this
    have hn' : a.1 ∉ nmsH r ∧ (nmsH r).Nodup := by unfold nmsH at hn ⊢; rwa [List.map_cons, List.nodup_cons] at hn
    rw [List.map_cons, List.set_cons_zero, List.map_cons, List.map_cons, if_pos hx]
    congr 1
    rw [List.map_map]
    refine List.map_congr_left fun g hg => ?_
    have : ¬ g.1 = x := fun e => hn'.1 (by rw [hx, ← e]; exact List.mem_map_of_mem hg)
    simp [this]
  | a :: r, i + 1, g, hn, h, hx => by
    have hn' : a.1 ∉ nmsH r ∧ (nmsH r).Nodup := by unfold nmsH at hn ⊢; rwa [List.map_cons, List.nodup_cons] at hn
    have hg : r[i]? = some g := by simpa using h
    have hm : g ∈ r := List.mem_of_getElem? hg
    have : ¬ a.1 = x := fun e => hn'.1 (by rw [e, ← hx]; exact List.mem_map_of_mem hm)
    rw [List.map_cons, List.set_cons_succ, addP_in r i g hn'.2 hg hx, List.map_cons, List.map_cons, if_neg this]
/-- one seat more -/
theorem setd_app {fd fk fe : Ev} {ρ : Rho} {μ : Mu} {B : Held} {x : Str} {p : Pl} (hn : (nmsH B).Nodup) (hl : B.length < 100000) (hl2 : ∀ g ∈ B, g.2.length < 100000) (h1 : ∀ μ', fd ρ μ' = .ok (.rf μ.length) μ') (h2 : ∀ μ', fk ρ μ' = .ok (.im (.str x)) μ') (h3 : ∀ μ', fe ρ μ' = .ok (.im (dPl p)) μ') :
    sApp (dSetd fd fk) fe ρ (μ ++ stB μ.length B) = .nx ρ (μ ++ stB μ.length (addP B x p)) := by
  have hl3 : (kvF μ.length 0 B).length < maxN := by rw [kvF_len]; simp only [maxN]; omega
  unfold stB
  by_cases hx : x ∈ nmsH B
  · obtain ⟨g, hg, e⟩ := List.mem_map.mp hx
    obtain ⟨i, hi⟩ := List.getElem?_of_mem hg
    have v := kvF_in μ.length B 0 i g hn hi
    rw [e, Nat.zero_add] at v
    have q : setdO μ.length (.str x) (μ ++ .dv (kvF μ.length 0 B) :: B.map cLs) (some (.dv (kvF μ.length 0 B))) = .ok (.rf (μ.length + 1 + i)) (μ ++ .dv (kvF μ.length 0 B) :: B.map cLs) := by
      unfold setdO keyOf
      dsimp only
      rw [v]
    have gi : (μ ++ .dv (kvF μ.length 0 B) :: B.map cLs)[μ.length + 1 + i]? = some (.lst (g.2.map dPl)) := by
      rw [get_tl, List.getElem?_map, hi]; rfl
    have lg : (g.2.map dPl).length < maxN := by
      have := hl2 g hg
      rw [List.length_map]; simp only [maxN]; omega
    have e4 : (μ ++ Cell.dv (kvF μ.length 0 B) :: B.map cLs).set (μ.length + 1 + i) (Cell.lst (g.2.map dPl ++ [dPl p])) = μ ++ .dv (kvF μ.length 0 (addP B x p)) :: (addP B x p).map cLs := by
      have e5 : Cell.lst (g.2.map dPl ++ [dPl p]) = cLs (g.1, g.2 ++ [p]) := by simp [cLs]
      unfold addP
      rw [if_pos hx, set_tl, e5, addP_in B i g hn hi e, kvF_map _ (by intro g; split <;> rfl)]
    have lg2 : g.2.length < maxN := by rw [List.length_map] at lg; exact lg
    generalize B.map cLs = C at *
    generalize kvF μ.length 0 B = K at *
    simp only [sApp_eq, dSetd_eq, h1, sd1_ok, get_c0, sd1O_ok, h2, sd2_ok, q]
    simp only [R.app, gi, appD, h3, R.app2, appC]
    rw [if_pos lg, e4]
  · have v := kvF_out μ.length (x := x) B 0 hx
    have lm : (μ ++ Cell.dv (kvF μ.length 0 B) :: B.map cLs).length = μ.length + 1 + B.length := by simp; omega
    have q : setdO μ.length (.str x) (μ ++ .dv (kvF μ.length 0 B) :: B.map cLs) (some (.dv (kvF μ.length 0 B))) = .ok (.rf (μ.length + 1 + B.length)) (μ ++ .dv (kvF μ.length 0 B ++ [(.inr x, .rf (μ.length + 1 + B.length))]) :: (B.map cLs ++ [.lst []])) := by
      unfold setdO keyOf
      dsimp only
      rw [v]
      dsimp only
      rw [if_pos hl3, lm, List.append_assoc, List.cons_append, set_c0]
    have e6 : kvF μ.length 0 B ++ [(.inr x, .rf (μ.length + 1 + B.length))] = kvF μ.length 0 (addP B x p) := by
      unfold addP
      rw [if_neg hx, kvF_snoc, Nat.zero_add]
    have gi : (μ ++ .dv (kvF μ.length 0 (addP B x p)) :: (B.map cLs ++ [.lst []]))[μ.length + 1 + B.length]? = some (.lst []) := by
      rw [get_tl, List.getElem?_append_right (by simp)]; simp
    have e4 : (μ ++ Cell.dv (kvF μ.length 0 (addP B x p)) :: (B.map cLs ++ [Cell.lst []])).set (μ.length + 1 + B.length) (Cell.lst ([] ++ [dPl p])) = μ ++ .dv (kvF μ.length 0 (addP B x p)) :: (addP B x p).map cLs := by
      rw [set_tl, List.set_append_right _ _ (by simp)]
      unfold addP
      rw [if_neg hx]
      simp [cLs]
    rw [e6] at q
    have z : (0 : Nat) < maxN := by decide
    generalize kvF μ.length 0 (addP B x p) = K2 at *
    generalize (addP B x p).map cLs = C2 at *
    generalize B.map cLs = C at *
    generalize kvF μ.length 0 B = K at *
    simp only [sApp_eq, dSetd_eq, h1, sd1_ok, get_c0, sd1O_ok, h2, sd2_ok, q]
    simp only [R.app, gi, appD, h3, R.app2, appC]
    rw [if_pos (by exact z), e4]
theorem thaw_all (b : Nat) : ∀ (B : Held) (j : Nat) (pre post : Mu), pre.length = b + 1 + j → thaw (kvF b j B) (pre ++ (B.map cLs ++ post)) = some (B.map kH, pre ++ (B.map cFz ++ post))
  | [], j, pre, post, h => rfl
  | a :: r, j, pre, post, h => by
    have ih := thaw_all b r (j + 1) (pre ++ [cFz a]) post (by simp; omega)
    have f : frz (pre ++ ((a :: r).map cLs ++ post)) (.rf (b + 1 + j)) = some (.lst (a.2.map dPl), pre ++ [cFz a] ++ (r.map cLs ++ post)) := by
      rw [← h]
      simp [cLs, cFz]
    simp only [kvF, thaw, f, ih]
    simp [kH, dSp]
theorem thaw_st (μ : Mu) (B : Held) (d : EvS) (ρ : Rho) : thawO μ.length d ρ (μ ++ stB μ.length B) (some (.dv (kvF μ.length 0 B))) = d ρ (μ ++ .dk (B.map kH) :: B.map cFz) := by
  have t := thaw_all μ.length B 0 (μ ++ [.dv (kvF μ.length 0 B)]) [] (by simp)
  simp only [List.append_nil, List.append_assoc, List.singleton_append] at t
  unfold thawO stB
  dsimp only
  rw [t]
  dsimp only
  rw [set_c0]
/-! ### what the groups are -/
structure WB (hs : List (List Bool)) (nm : List Str) (B : Held) (c : Pl) : Prop where
  nn : (nmsH B).Nodup
  ne : ∀ g ∈ B, g.2 ≠ []
  up : ∀ g ∈ B, g.2.Pairwise lexQ
  ss : ∀ g ∈ B, ∀ p ∈ g.2, seatB hs p.1 p.2 = true
  dj : ∀ g ∈ B, ∀ g' ∈ B, ∀ p, p ∈ g.2 → p ∈ g'.2 → g.1 = g'.1
  lt : ∀ g ∈ B, ∀ p ∈ g.2, lexQ p c
  nm : ∀ x ∈ nmsH B, x ∈ nm
theorem lexQ_tr {a b c : Pl} (h : lexQ a b) (h2 : lexQ b c) : lexQ a c := by
  unfold lexQ at *; omega
theorem lexQ_irr {a : Pl} (h : lexQ a a) : False := by unfold lexQ at h; omega
theorem WB.next {hs : List (List Bool)} {nm : List Str} {B : Held} {c c' : Pl} (w : WB hs nm B c) (h : c = c' ∨ lexQ c c') : WB hs nm B c' :=
  ⟨w.nn, w.ne, w.up, w.ss, w.dj, fun g hg p hp => by
    rcases h with h | h
    · rw [← h]; exact w.lt g hg p hp
    · exact lexQ_tr (w.lt g hg p hp) h, w.nm⟩
theorem nms_addP (B : Held) (x : Str) (p : Pl) : nmsH (addP B x p) = if x ∈ nmsH B then nmsH B else nmsH B ++ [x] := by
  unfold addP
  split
  · unfold nmsH
    rw [List.map_map]
    refine List.map_congr_left fun g _ => ?_
    simp only [Function.comp]
    split <;> rfl
  · unfold nmsH; rw [List.map_append]; rfl
/-- a group behind one seat more: as it was, or with the seat -/
theorem mem_addP {B : Held} {x : Str} {p : Pl} {g : Str × List Pl} (h : g ∈ addP B x p) : g ∈ B ∨ (g.1 = x ∧ (g.2 = [p] ∨ ∃ g0 ∈ B, g0.1 = x ∧ g.2 = g0.2 ++ [p])) := by
  unfold addP at h
  split at h
  · obtain ⟨g0, h0, e⟩ := List.mem_map.mp h
    by_cases q : g0.1 = x
    · rw [if_pos q] at e
      subst e
      exact .inr ⟨q, .inr ⟨g0, h0, q, rfl⟩⟩
    · rw [if_neg q] at e
      subst e
      exact .inl h0
  · rcases List.mem_append.mp h with q | q
    · exact .inl q
    · have : g = (x, [p]) := by simpa using q
      subst this
      exact .inr ⟨rfl, .inl rfl⟩
theorem WB.add {hs : List (List Bool)} {nm : List Str} {B : Held} {c c' : Pl} {x : Str} (w : WB hs nm B c) (hx : x ∈ nm) (hs1 : seatB hs c.1 c.2 = true) (hc : lexQ c c') : WB hs nm (addP B x c) c' := by
  have nb : ∀ g ∈ B, c ∉ g.2 := fun g hg z => lexQ_irr (w.lt g hg c z)
  have memc : ∀ g ∈ addP B x c, ∀ p ∈ g.2, (∃ g0 ∈ B, g0.1 = g.1 ∧ p ∈ g0.2) ∨ (p = c ∧ g.1 = x) := fun g hg p hp => by
    rcases mem_addP hg with h | ⟨h1, h | ⟨g0, h0, h2, h3⟩⟩
    · exact .inl ⟨g, h, rfl, hp⟩
    · rw [h] at hp
      exact .inr ⟨by simpa using hp, h1⟩
    · rw [h3] at hp
      rcases List.mem_append.mp hp with q | q
      · exact .inl ⟨g0, h0, by rw [h2, h1], q⟩
      · exact .inr ⟨by simpa using q, h1⟩
  refine ⟨?_, fun g hg => ?_, fun g hg => ?_, fun g hg p hp => ?_, fun g hg g' hg' p hp hp' => ?_, fun g hg p hp => ?_, fun y hy => ?_⟩
  · rw [nms_addP]
    split
    · exact w.nn
    · rename_i hnx
      rw [List.nodup_append]
      exact ⟨w.nn, by simp, fun a ha b hb z => hnx (by rw [List.mem_singleton.mp hb] at z; rw [← z]; exact ha)⟩
  · rcases mem_addP hg with h | ⟨_, h | ⟨g0, _, _, h⟩⟩
    · exact w.ne g h
    · rw [h]; simp
    · rw [h]; simp
  · rcases mem_addP hg with h | ⟨_, h | ⟨g0, h0, _, h⟩⟩
    · exact w.up g h
    · rw [h]; simp
    · rw [h, List.pairwise_append]
      exact ⟨w.up g0 h0, by simp, fun a ha b hb => by rw [List.mem_singleton.mp hb]; exact w.lt g0 h0 a ha⟩
  · rcases memc g hg p hp with ⟨g0, h0, _, h⟩ | ⟨h, _⟩
    · exact w.ss g0 h0 p h
    · rw [h]; exact hs1
  · rcases memc g hg p hp with ⟨g0, h0, e0, h⟩ | ⟨h, e0⟩ <;> rcases memc g' hg' p hp' with ⟨g1, h1, e1, h'⟩ | ⟨h', e1⟩
    · rw [← e0, ← e1]; exact w.dj g0 h0 g1 h1 p h h'
    · rw [h'] at h; exact absurd h (nb g0 h0)
    · rw [h] at h'; exact absurd h' (nb g1 h1)
    · rw [e0, e1]
  · rcases memc g hg p hp with ⟨g0, h0, _, h⟩ | ⟨h, _⟩
    · exact lexQ_tr (w.lt g0 h0 p h) hc
    · rw [h]; exact hc
  · rw [nms_addP] at hy
    split at hy
    · exact w.nm y hy
    · rcases List.mem_append.mp hy with q | q
      · exact w.nm y q
      · rw [List.mem_singleton.mp q]; exact hx
theorem allP_nodup : ∀ {h : Held}, (nmsH h).Nodup → (∀ g ∈ h, g.2.Nodup) → (∀ g ∈ h, ∀ g' ∈ h, ∀ p, p ∈ g.2 → p ∈ g'.2 → g.1 = g'.1) → (allP h).Nodup
  | [], _, _, _ => List.nodup_nil
  | a :: r, hn, h1, h2 => by
    have hn' : a.1 ∉ nmsH r ∧ (nmsH r).Nodup := by unfold nmsH at hn ⊢; rwa [List.map_cons, List.nodup_cons] at hn
    unfold allP
    rw [List.flatMap_cons, List.nodup_append]
    refine ⟨h1 a List.mem_cons_self, allP_nodup hn'.2 (fun g hg => h1 g (List.mem_cons_of_mem _ hg)) (fun g hg g' hg' => h2 g (List.mem_cons_of_mem _ hg) g' (List.mem_cons_of_mem _ hg')), fun p hp q hq z => ?_⟩
    subst z
    obtain ⟨g', hg', hp'⟩ := List.mem_flatMap.mp hq
    have := h2 a List.mem_cons_self g' (List.mem_cons_of_mem _ hg') p hp hp'
    exact hn'.1 (by rw [this]; exact List.mem_map_of_mem hg')
theorem WB.rh {hs : List (List Bool)} {nm : List Str} {B h : Held} {c : Pl} (w : WB hs nm B c) (h40 : hs.length ≤ 40) (b60 : ∀ b ∈ hs, b.length ≤ 60) (gn : ∀ x ∈ nm, goodN x) (hn : (nmsH h).Nodup) (hB : ∀ g ∈ h, g ∈ B) : RH hs h := by
  refine ⟨⟨h40, b60, hn, fun g hg => gn _ (w.nm _ (List.mem_map_of_mem (hB g hg))), allP_nodup hn (fun g hg => rise_nodup (w.up g (hB g hg))) (fun g hg g' hg' => w.dj g (hB g hg) g' (hB g' hg')), fun p hp => ?_⟩, fun g hg => w.ne g (hB g hg), fun g hg => w.up g (hB g hg)⟩
  obtain ⟨g, hg, hp⟩ := List.mem_flatMap.mp hp
  exact w.ss g (hB g hg) p hp
def seqH (B : Held) (xs : List Str) (acc : Held) : Held := xs.foldl (fun acc x => putH acc x ((getH B x).getD [])) acc
theorem seqH_ok {B : Held} : ∀ (xs : List Str) (acc : Held), (∀ x ∈ xs, x ∈ nmsH B) → (nmsH acc).Nodup → (∀ g ∈ acc, g ∈ B) → (nmsH (seqH B xs acc)).Nodup ∧ (∀ g ∈ seqH B xs acc, g ∈ B) ∧ (seqH B xs acc).length ≤ acc.length + xs.length
  | [], acc, _, h1, h2 => ⟨h1, h2, Nat.le_refl _⟩
  | x :: r, acc, hx, h1, h2 => by
    have hxB := hx x List.mem_cons_self
    have hg : ∃ ps, getH B x = some ps := by
      cases e : getH B x with
      | some a => exact ⟨a, rfl⟩
      | none => exact absurd hxB (getH_none.mp e)
    obtain ⟨ps, hps⟩ := hg
    have hmem := getH_of hps
    have ih := seqH_ok r (putH acc x ((getH B x).getD [])) (fun y hy => hx y (List.mem_cons_of_mem _ hy)) (by
      rw [nms_put]
      split
      · exact h1
      · rename_i hnx
        rw [List.nodup_append]
        exact ⟨h1, by simp, fun a ha b hb z => hnx (by rw [List.mem_singleton.mp hb] at z; rw [← z]; exact ha)⟩) (fun g hg => by
      rw [hps] at hg
      unfold putH at hg
      split at hg
      · obtain ⟨g0, h0, e⟩ := List.mem_map.mp hg
        split at e
        · rename_i q
          rw [← e, q]; exact hmem
        · rw [← e]; exact h2 g0 h0
      · rcases List.mem_append.mp hg with q | q
        · exact h2 g q
        · rw [List.mem_singleton.mp q]; exact hmem)
    have l := putH_len acc x ((getH B x).getD [])
    refine ⟨ih.1, ih.2.1, Nat.le_trans ih.2.2 ?_⟩
    rw [List.length_cons]; omega
theorem seqH_fold (B : Held) : ∀ (xs : List Str) (acc : Held), (xs.map fun x => (Sum.inr x, dSp ((getH B x).getD []))).foldl (fun acc kv => putD acc kv.1 kv.2) (acc.map kH) = (seqH B xs acc).map kH
  | [], acc => rfl
  | x :: r, acc => by
    have ih := seqH_fold B r (putH acc x ((getH B x).getD []))
    rw [← putD_held] at ih
    exact ih
theorem pairsOf_map (f : Str → D) : ∀ xs : List Str, pairsOf (xs.map fun x => D.tup [.str x, f x]) = some (xs.map fun x => (Sum.inr x, f x))
  | [] => rfl
  | x :: r => by
    simp only [List.map_cons, pairsOf, keyOf, pairsOf_map f r]
end SP

/-! SP5: l.pop(); a group that shifts. -/
namespace SP
open PySem L2
def R.pp : R Sv → R Sv
  | .ok (.rf n) μ => popO n μ μ[n]?
  | .ex c μ => .ex c μ
  | _ => .no
@[simp] theorem dPop_eq (f : Ev) (ρ : Rho) (μ : Mu) : dPop f ρ μ = (f ρ μ).pp := by
  unfold dPop
  cases f ρ μ with
  | ok v μ1 => cases v <;> rfl
  | ex c μ1 => rfl
  | no => rfl
@[simp] theorem pp_rf (n : Nat) (μ : Mu) : (R.ok (.rf n) μ).pp = popO n μ μ[n]? := rfl
theorem pop_last {n : Nat} {μ : Mu} {xs : List D} {d : D} : popO n μ (some (.lst (xs ++ [d]))) = .ok (.im d) (μ.set n (.lst xs)) := by
  unfold popO
  simp
/-- one of the groups gets other seats -/
theorem VH.shift {hs : List (List Bool)} {h : Held} (v : VH hs h) {x : Str} {ps new : List Pl} (hx : getH h x = some ps) (hn : new.Nodup) (hs1 : ∀ p ∈ new, seatB hs p.1 p.2 = true) (hf : ∀ p ∈ new, ∀ y, whoT (takL h) p = some y → y = x) : VH hs (putH h x new) := by
  have hm : x ∈ nmsH h := List.mem_map.mpr ⟨_, getH_of hx, rfl⟩
  have key : ∀ g ∈ putH h x new, (g = (x, new)) ∨ (g ∈ h ∧ g.1 ≠ x) := fun g hg => by
    unfold putH at hg
    rw [if_pos hm] at hg
    obtain ⟨g0, h0, e⟩ := List.mem_map.mp hg
    by_cases q : g0.1 = x
    · rw [if_pos q] at e
      exact .inl (by rw [← e, q])
    · rw [if_neg q] at e
      subst e
      exact .inr ⟨h0, q⟩
  have who : ∀ g ∈ h, ∀ p ∈ g.2, ∃ y, whoT (takL h) p = some y ∧ y = g.1 := fun g hg p hp => by
    have mt : (p, g.1) ∈ takL h := List.mem_flatMap.mpr ⟨g, hg, List.mem_map.mpr ⟨p, hp, rfl⟩⟩
    have nk : ((takL h).map (·.1)).Nodup := by rw [takL_keys]; exact v.np
    refine ⟨g.1, ?_, rfl⟩
    unfold whoT
    generalize takL h = T at mt nk
    clear hx hf hm key v
    induction T with
    | nil => cases mt
    | cons a r ih =>
      rw [List.map_cons, List.nodup_cons] at nk
      rw [List.find?_cons]
      rcases List.mem_cons.mp mt with e | e
      · subst e; simp
      · have : ¬ a.1 = p := fun z => nk.1 (by rw [z]; exact List.mem_map.mpr ⟨_, e, rfl⟩)
        rw [decide_eq_false this]
        exact ih e nk.2
  have nn : (nmsH (putH h x new)).Nodup := by rw [nms_put, if_pos hm]; exact v.nn
  have gnd : ∀ g ∈ h, g.2.Nodup := fun g hg => by
    have := v.np
    obtain ⟨a, b, rfl⟩ := List.append_of_mem hg
    rw [allP_app, show allP (g :: b) = g.2 ++ allP b by unfold allP; rw [List.flatMap_cons]] at this
    exact (List.nodup_append.mp (List.nodup_append.mp this).2.1).1
  refine ⟨v.h40, v.b60, nn, fun g hg => ?_, allP_nodup nn (fun g hg => ?_) (fun g hg g' hg' p hp hp' => ?_), fun p hp => ?_⟩
  · rcases key g hg with e | ⟨e, _⟩
    · rw [e]; exact v.gn (x, ps) (getH_of hx)
    · exact v.gn g e
  · rcases key g hg with e | ⟨e, _⟩
    · rw [e]; exact hn
    · exact gnd g e
  · rcases key g hg with e | ⟨e, ne⟩ <;> rcases key g' hg' with e' | ⟨e', ne'⟩
    · rw [e, e']
    · rw [e] at hp
      obtain ⟨y, h1, h2⟩ := who g' e' p hp'
      rw [e, ← h2, hf p hp y h1]
    · rw [e'] at hp'
      obtain ⟨y, h1, h2⟩ := who g e p hp
      rw [e', ← h2, hf p hp' y h1]
    · obtain ⟨y, h1, h2⟩ := who g e p hp
      obtain ⟨y', h1', h2'⟩ := who g' e' p hp'
      rw [h1] at h1'
      cases h1'
      rw [← h2, h2']
  · obtain ⟨g, hg, hp⟩ := List.mem_flatMap.mp hp
    rcases key g hg with e | ⟨e, _⟩
    · rw [e] at hp; exact hs1 p hp
    · exact v.se p (allP_mem e hp)
end SP

namespace LW
open PySem L2 SP
def top (i : Nat) : Stmt := PySem.Challenge.pw_seatplan_k08_shifts_and_leaves.main.body.getD i (.Pass ⟨0, 0, 0, 0⟩)

/-! ### the evaluators -/
/-! _law_row_by -/
def fb_law_row_by : EvS := (sSeq (sAsg 0 (dOp2 (p2 gMod) (dOp2 (p2 gMul) (dVar 0) (dC (.int 48271))) (dC (.int 2147483647)))) (sSeq (sAsg 1 (dOp2 (p2 gMod) (dVar 0) (dC (.int 12)))) (sSeq (sIf (dTest (dOp2 (p2 gEq) (dOp2 (p2 gMod) (dOp2 (p2 gDiv) (dVar 0) (dC (.int 12))) (dC (.int 9))) (dC (.int 1)))) (sAsg 1 (dOp2 (p2 gSub) (dC (.int 60)) (dOp2 (p2 gMod) (dOp2 (p2 gDiv) (dVar 0) (dC (.int 108))) (dC (.int 3))))) sNext) (sSeq (sAsg 2 (dOp2 (p2 gAdd) (dC (.int 2)) (dOp2 (p2 gMod) (dOp2 (p2 gDiv) (dVar 0) (dC (.int 324))) (dC (.int 7))))) (sSeq (sAsg 3 (dC (.str ""))) (sSeq (sForR1 4 (dVar 1) (sIf (dOrT (dAndT (dTest (dOp2 (p2 gGt) (dOp2 (p2 gMod) (dOp2 (p2 gDiv) (dVar 0) (dC (.int 15876))) (dC (.int 3))) (dC (.int 0)))) (dTest (dOp2 (p2 gEq) (dOp2 (p2 gMod) (dOp2 (p2 gAdd) (dVar 4) (dOp2 (p2 gDiv) (dVar 0) (dC (.int 2268)))) (dVar 2)) (dC (.int 0))))) (dTest (dOp2 (p2 gEq) (dOp2 (p2 gMod) (dOp2 (p2 gMul) (dVar 4) (dVar 4)) (dC (.int 11))) (dOp2 (p2 gMod) (dOp2 (p2 gDiv) (dVar 0) (dC (.int 47628))) (dC (.int 13)))))) (sAsg 3 (dOp2 (p2 gAdd) (dVar 3) (dC (.str ".")))) (sAsg 3 (dOp2 (p2 gAdd) (dVar 3) (dC (.str "o")))))) (sRet (dVar 3))))))))
def F_law_row_by : List Sv → Mu → R Sv := dFn 5 fb_law_row_by

/-! _law_cell_at -/
def fb_law_cell_at : EvS := (sSeq (sIf (dTest (dOp2 (p2 gLtT) (dVar 1) (dOp1 (p1 gLen) (dVar 0)))) (sRet (dOp2 (p2 gIx) (dVar 0) (dVar 1))) sNext) (sRet (dC (.int 0))))
def F_law_cell_at : List Sv → Mu → R Sv := dFn 2 fb_law_cell_at

/-! _law_names_by -/
def fb_law_names_by : EvS := (sSeq (sAsg 2 (dC (.str "abcdefghijklmnopqrstuvwxyz0123456789-"))) (sSeq (sAsg 3 (dOp2 (p2 gAdd) (dC (.int 1)) (dOp2 (p2 gMod) (dOp2 (p2 gDiv) (dVar 0) (dC (.int 3))) (dC (.int 12))))) (sSeq (sAsg 4 (dOp2 (p2 gMod) (dOp2 (p2 gDiv) (dVar 0) (dC (.int 36))) (dVar 3))) (sSeq (sAsg 5 (dI (dLcR1 10 (dC (.int 12)) dYes (dOp2 (p2 gIx) (dVar 2) (dOp2 (p2 gMod) (dOp2 (p2 gAdd) (dOp2 (p2 gDiv) (dVar 0) (dC (.int 36))) (dOp2 (p2 gMul) (dC (.int 5)) (dVar 10))) (dC (.int 37))))))) (sSeq (sAsg 6 (dN (dLst dANil))) (sSeq (sForR1 7 (dVar 1) (sIf (dTest (dOp2 (p2 gEq) (dOp2 (p2 gMod) (dVar 0) (dC (.int 3))) (dC (.int 0)))) (sApp (dVar 6) (dJoin (dC (.str "")) (dSl (dVar 5) none (some (dOp2 (p2 gAdd) (dC (.int 1)) (dOp2 (p2 gMod) (dOp2 (p2 gAdd) (dOp2 (p2 gDiv) (dVar 0) (dC (.int 3))) (dVar 7)) (dC (.int 12)))))))) (sIf (dTest (dOp2 (p2 gEq) (dOp2 (p2 gMod) (dVar 0) (dC (.int 3))) (dC (.int 1)))) (sSeq (sAsg 8 (dOp2 (p2 gIx) (dVar 2) (dOp2 (p2 gMod) (dOp2 (p2 gAdd) (dOp2 (p2 gDiv) (dVar 0) (dC (.int 444))) (dVar 7)) (dC (.int 37))))) (sSeq (sAsg 9 (dJoin (dC (.str "")) (dSl (dVar 5) (some (dOp2 (p2 gAdd) (dVar 4) (dC (.int 1)))) (some (dVar 3))))) (sApp (dVar 6) (dOp2 (p2 gAdd) (dOp2 (p2 gAdd) (dJoin (dC (.str "")) (dSl (dVar 5) none (some (dVar 4)))) (dVar 8)) (dVar 9))))) (sApp (dVar 6) (dJoin (dC (.str "")) (dOp2 (p2 gAdd) (dSl (dVar 5) (some (dVar 7)) none) (dSl (dVar 5) none (some (dVar 7))))))))) (sRet (dVar 6))))))))
def F_law_names_by : List Sv → Mu → R Sv := dFn 11 fb_law_names_by

/-! _law_held_by -/
def fb_law_held_by : EvS := (sSeq (sAsg 2 (dOp2 (p2 gMod) (dOp2 (p2 gMul) (dVar 2) (dC (.int 48271))) (dC (.int 2147483647)))) (sSeq (sAsg 3 (dN dDv)) (sSeq (sAsg 4 (dC (.int 0))) (sSeq (sForR1 5 (dOp1 (p1 gLen) (dVar 0)) (sForR1 6 (dOp1 (p1 gLen) (dOp2 (p2 gIx) (dVar 0) (dVar 5))) (sIf (dTest (dOp2 (p2 gEq) (dOp2 (p2 gIx) (dOp2 (p2 gIx) (dVar 0) (dVar 5)) (dVar 6)) (dC (.str "o")))) (sSeq (sAsg 7 (dOp2 (p2 gMod) (dOp2 (p2 gMod) (dOp2 (p2 gMul) (dOp2 (p2 gAdd) (dVar 2) (dOp2 (p2 gMul) (dC (.int 31)) (dOp2 (p2 gDiv) (dVar 4) (dOp2 (p2 gAdd) (dC (.int 1)) (dOp2 (p2 gMod) (dVar 2) (dC (.int 6))))))) (dC (.int 48271))) (dC (.int 10007))) (dOp2 (p2 gAdd) (dC (.int 1)) (dOp2 (p2 gMod) (dOp2 (p2 gDiv) (dVar 2) (dC (.int 6))) (dC (.int 9)))))) (sSeq (sIf (dTest (dOp2 (p2 gLtT) (dVar 7) (dOp1 (p1 gLen) (dVar 1)))) (sApp (dSetd (dVar 3) (dOp2 (p2 gIx) (dVar 1) (dVar 7))) (dTup (dACons (dVar 5) (dACons (dVar 6) dANil)))) sNext) (sAsg 4 (dOp2 (p2 gAdd) (dVar 4) (dC (.int 1)))))) sNext))) (sThaw 3 (sSeq (sAsg 8 (dOp2 (p2 gAdd) (dSl (dVar 1) (some (dOp2 (p2 gMod) (dVar 2) (dOp2 (p2 gMax2) (dC (.int 1)) (dOp1 (p1 gLen) (dVar 1))))) none) (dVar 1))) (sRet (dN (dOpF fDictP (dI (dLcL 9 (dVar 8) (dTest (dOp2 (p2 gIn) (dVar 9) (dVar 3))) (dTup (dACons (dVar 9) (dACons (dOp2 (p2 gDGet) (dVar 3) (dVar 9)) dANil))))))))))))))
def F_law_held_by : List Sv → Mu → R Sv := dFnR 10 fb_law_held_by

/-! need_row -/
def fb_need_row : EvS := (sSeq (sIf (dOrT (dNotT (dTest (dOp1 (p1 (gIsi "str")) (dVar 0)))) (dTest (dOp2 (p2 gGt) (dOp1 (p1 gLen) (dVar 0)) (dC (.int 60))))) (sRaise .hall) sNext) (sForS 1 (dVar 0) (sIf (dAndT (dTest (dOp2 (p2 gNe) (dVar 1) (dC (.str "o")))) (dTest (dOp2 (p2 gNe) (dVar 1) (dC (.str "."))))) (sRaise .hall) sNext)))
def F_need_row : List Sv → Mu → R Sv := dFn 2 fb_need_row

/-! need_hall -/
def fb_need_hall : EvS := (sSeq (sIf (dOrT (dNotT (dTest (dOp1 (p1 (gIsi "list")) (dVar 0)))) (dNotT (dTest (dChain (p2 gLe) (p2 gLe) (dC (.int 1)) (dOp1 (p1 gLen) (dVar 0)) (dC (.int 40)))))) (sRaise .hall) sNext) (sSeq (sForL 1 (dVar 0) (sDrop (dCall F_need_row (dACons (dVar 1) dANil)))) (sRet (dI (dOpF fList (dVar 0))))))
def F_need_hall : List Sv → Mu → R Sv := dFn 2 fb_need_hall

/-! Plan.__init__ -/
def fb_Plan___init__ : EvS := (sSeq (sFld (dVar 0) "hall" (dCall F_need_hall (dACons (dVar 1) dANil))) (sSeq (sFld (dVar 0) "held" (dI dDk)) (sFld (dVar 0) "past" (dN (dLst dANil)))))
def F_Plan___init__ : List Sv → Mu → R Sv := dFnR 2 fb_Plan___init__

/-! number_of -/
def fb_number_of : EvS := (sSeq (sIf (dNotT (dTest (dChain (p2 gLe) (p2 gLe) (dC (.int 1)) (dOp1 (p1 gLen) (dVar 0)) (dC (.int 2))))) (sRaise .line) sNext) (sSeq (sForS 1 (dVar 0) (sIf (dTest (dOp2 (p2 gNotInS) (dVar 1) (dC (.str "0123456789")))) (sRaise .line) sNext)) (sSeq (sIf (dAndT (dTest (dOp2 (p2 gEq) (dOp1 (p1 gLen) (dVar 0)) (dC (.int 2)))) (dTest (dOp2 (p2 gEq) (dOp2 (p2 gIx) (dVar 0) (dC (.int 0))) (dC (.str "0"))))) (sRaise .line) sNext) (sRet (dOp1 (p1 gIntE) (dVar 0))))))
def F_number_of : List Sv → Mu → R Sv := dFn 2 fb_number_of

/-! spot_of -/
def fb_spot_of : EvS := (sSeq (sAsg 1 (dI (dSplit (dVar 0) (dC (.str "."))))) (sSeq (sIf (dTest (dOp2 (p2 gNe) (dOp1 (p1 gLen) (dVar 1)) (dC (.int 2)))) (sRaise .line) sNext) (sRet (dTup (dACons (dCall F_number_of (dACons (dOp2 (p2 gIx) (dVar 1) (dC (.int 0))) dANil)) (dACons (dCall F_number_of (dACons (dOp2 (p2 gIx) (dVar 1) (dC (.int 1))) dANil)) dANil))))))
def F_spot_of : List Sv → Mu → R Sv := dFn 2 fb_spot_of

/-! parted -/
def fb_parted : EvS := (sSeq (sAsg 1 (dI (dSplit (dVar 0) (dC (.str ": "))))) (sSeq (sIf (dTest (dOp2 (p2 gNe) (dOp1 (p1 gLen) (dVar 1)) (dC (.int 2)))) (sRaise .line) sNext) (sSeq (sAsg 2 (dI (dLcL 4 (dI (dSplit (dOp2 (p2 gIx) (dVar 1) (dC (.int 1))) (dC (.str " ")))) dYes (dCall F_spot_of (dACons (dVar 4) dANil))))) (sSeq (sForR2 3 (dC (.int 1)) (dOp1 (p1 gLen) (dVar 2)) (sIf (dNotT (dTest (dOp2 (p2 gLtT) (dOp2 (p2 gIx) (dVar 2) (dOp2 (p2 gSub) (dVar 3) (dC (.int 1)))) (dOp2 (p2 gIx) (dVar 2) (dVar 3))))) (sRaise .line) sNext)) (sRet (dTup (dACons (dOp2 (p2 gIx) (dVar 1) (dC (.int 0))) (dACons (dVar 2) dANil))))))))
def F_parted : List Sv → Mu → R Sv := dFn 5 fb_parted

/-! need_name -/
def fb_need_name : EvS := (sSeq (sIf (dOrT (dNotT (dTest (dOp1 (p1 (gIsi "str")) (dVar 0)))) (dNotT (dTest (dChain (p2 gLe) (p2 gLe) (dC (.int 1)) (dOp1 (p1 gLen) (dVar 0)) (dC (.int 12)))))) (sRaise .name) sNext) (sForS 1 (dVar 0) (sIf (dTest (dOp2 (p2 gNotInS) (dVar 1) (dC (.str "abcdefghijklmnopqrstuvwxyz0123456789-")))) (sRaise .name) sNext)))
def F_need_name : List Sv → Mu → R Sv := dFn 2 fb_need_name

/-! is_seat -/
def fb_is_seat : EvS := (sSeq (sIf (dOrT (dNotT (dTest (dChain (p2 gLe) (p2 gLt) (dC (.int 0)) (dVar 1) (dOp1 (p1 gLen) (dVar 0))))) (dNotT (dTest (dChain (p2 gLe) (p2 gLt) (dC (.int 0)) (dVar 2) (dOp1 (p1 gLen) (dOp2 (p2 gIx) (dVar 0) (dVar 1))))))) (sRet (dC (.bl false))) sNext) (sRet (dOp2 (p2 gEq) (dOp2 (p2 gIx) (dOp2 (p2 gIx) (dVar 0) (dVar 1)) (dVar 2)) (dC (.str "o")))))
def F_is_seat : List Sv → Mu → R Sv := dFn 3 fb_is_seat

/-! read -/
def fb_read : EvS := (sSeq (sAsg 2 (dMake F_Plan___init__ (dACons (dVar 0) dANil))) (sSeq (sAsg 3 (dN dDk)) (sSeq (sAsg 4 (dN dDt)) (sSeq (sForL 5 (dVar 1) (sSeq (sAsg 6 (dCall F_parted (dACons (dVar 5) dANil))) (sSeq (sDrop (dCall F_need_name (dACons (dOp2 (p2 gIx) (dVar 6) (dC (.int 0))) dANil))) (sSeq (sIf (dTest (dOp2 (p2 gIn) (dOp2 (p2 gIx) (dVar 6) (dC (.int 0))) (dVar 3))) (sRaise .known) sNext) (sSeq (sForL 7 (dOp2 (p2 gIx) (dVar 6) (dC (.int 1))) (sSeq (sIf (dNotT (dTest (dCall F_is_seat (dACons (dFld (dVar 2) "hall") (dACons (dOp2 (p2 gIx) (dVar 7) (dC (.int 0))) (dACons (dOp2 (p2 gIx) (dVar 7) (dC (.int 1))) dANil)))))) (sRaise .noseat) sNext) (sIf (dTest (dOp2 (p2 gIn) (dVar 7) (dVar 4))) (sRaise .taken) sNext))) (sSeq (sForL 7 (dOp2 (p2 gIx) (dVar 6) (dC (.int 1))) (sDPut (dVar 4) (dVar 7) (dC (.bl true)))) (sDPut (dVar 3) (dOp2 (p2 gIx) (dVar 6) (dC (.int 0))) (dOp2 (p2 gIx) (dVar 6) (dC (.int 1)))))))))) (sSeq (sFld (dVar 2) "held" (dV (dVar 3))) (sRet (dVar 2)))))))
def F_read : List Sv → Mu → R Sv := dFnR 8 fb_read

/-! _law_lines -/
def fb_law_lines : EvS := (sSeq (sAsg 1 (dN (dLst dANil))) (sSeq (sForL 2 (dI (dOpF fList (dVar 0))) (sApp (dVar 1) (dOp2 (p2 gAdd) (dOp2 (p2 gAdd) (dVar 2) (dC (.str ": "))) (dJoin (dC (.str " ")) (dI (dLcL 3 (dOp2 (p2 gDGet) (dVar 0) (dVar 2)) dYes (dOp2 (p2 gAdd) (dOp2 (p2 gAdd) (dOp1 (p1 gStrE) (dOp2 (p2 gIx) (dVar 3) (dC (.int 0)))) (dC (.str "."))) (dOp1 (p1 gStrE) (dOp2 (p2 gIx) (dVar 3) (dC (.int 1))))))))))) (sRet (dVar 1))))
def F_law_lines : List Sv → Mu → R Sv := dFn 4 fb_law_lines

/-! Plan.groups -/
def fb_Plan_groups : EvS := (sRet (dI (dOpF fList (dFld (dVar 0) "held"))))
def F_Plan_groups : List Sv → Mu → R Sv := dFn 1 fb_Plan_groups

/-! Plan.back -/
def fb_Plan_back : EvS := (sSeq (sIf (dTest (dOp2 (p2 gEq) (dOp1 (p1 gLen) (dFld (dVar 0) "past")) (dC (.int 0)))) (sRaise .nothing) sNext) (sFld (dVar 0) "held" (dPop (dFld (dVar 0) "past"))))
def F_Plan_back : List Sv → Mu → R Sv := dFn 1 fb_Plan_back

/-! _law_nothing -/
def fb_law_nothing : EvS := (sSeq (sTry [.nothing] (sDrop (dMeth "back" F_Plan_back (dVar 0) dANil)) [([.nothing], (sRet (dC (.bl true))))]) (sRet (dC (.bl false))))
def F_law_nothing : List Sv → Mu → R Sv := dFn 1 fb_law_nothing

/-! _law_taken -/
def fb_law_taken : EvS := (sSeq (sAsg 1 (dN dDt)) (sSeq (sForL 2 (dI (dOpF fList (dVar 0))) (sForL 3 (dOp2 (p2 gDGet) (dVar 0) (dVar 2)) (sDPut (dVar 1) (dVar 3) (dVar 2)))) (sRet (dVar 1))))
def F_law_taken : List Sv → Mu → R Sv := dFn 4 fb_law_taken

/-! _law_due -/
def fb_law_due : EvS := (sSeq (sAsg 5 (dCall F_law_taken (dACons (dVar 1) dANil))) (sSeq (sAsg 6 (dI (dLcR1 7 (dOp1 (p1 gLen) (dOp2 (p2 gDGet) (dVar 1) (dVar 2))) dYes (dTup (dACons (dVar 3) (dACons (dOp2 (p2 gAdd) (dVar 4) (dVar 7)) dANil)))))) (sSeq (sIf (dOrT (dTest (dOp2 (p2 gLtT) (dVar 3) (dC (.int 0)))) (dOrT (dTest (dOp2 (p2 gGe) (dVar 3) (dOp1 (p1 gLen) (dVar 0)))) (dOrT (dTest (dOp2 (p2 gLtT) (dVar 4) (dC (.int 0)))) (dTest (dOp2 (p2 gGt) (dOp2 (p2 gAdd) (dVar 4) (dOp1 (p1 gLen) (dVar 6))) (dOp1 (p1 gLen) (dOp2 (p2 gIx) (dVar 0) (dVar 3)))))))) (sRet (dC (.str "no seat"))) sNext) (sSeq (sIf (dTest (dOp2 (p2 gLtT) (dOpM gCount (dSl (dOp2 (p2 gIx) (dVar 0) (dVar 3)) (some (dVar 4)) (some (dOp2 (p2 gAdd) (dVar 4) (dOp1 (p1 gLen) (dVar 6))))) (dC (.str "o"))) (dOp1 (p1 gLen) (dVar 6)))) (sRet (dC (.str "no seat"))) sNext) (sSeq (sIf (dTest (dOp2 (p2 gGt) (dOp1 (p1 gLen) (dI (dLcL 8 (dVar 6) (dTest (dOp2 (p2 gNe) (dGet2 (dVar 5) (dVar 8) (dVar 2)) (dVar 2))) (dVar 8)))) (dC (.int 0)))) (sRet (dC (.str "taken"))) sNext) (sRet (dVar 6)))))))
def F_law_due : List Sv → Mu → R Sv := dFn 9 fb_law_due

/-! Plan.need_group -/
def fb_Plan_need_group : EvS := (sIf (dOrT (dNotT (dTest (dOp1 (p1 (gIsi "str")) (dVar 1)))) (dTest (dOp2 (p2 gNotIn) (dVar 1) (dFld (dVar 0) "held")))) (sRaise .unknown) sNext)
def F_Plan_need_group : List Sv → Mu → R Sv := dFn 2 fb_Plan_need_group

/-! Plan.seats -/
def fb_Plan_seats : EvS := (sSeq (sDrop (dMeth "need_group" F_Plan_need_group (dVar 0) (dACons (dVar 1) dANil))) (sRet (dI (dOpF fList (dOp2 (p2 gDGet) (dFld (dVar 0) "held") (dVar 1))))))
def F_Plan_seats : List Sv → Mu → R Sv := dFn 2 fb_Plan_seats

/-! spots_of -/
def fb_spots_of : EvS := (sRet (dI (dLcR1 2 (dVar 1) dYes (dTup (dACons (dOp2 (p2 gIx) (dVar 0) (dC (.int 0))) (dACons (dOp2 (p2 gAdd) (dOp2 (p2 gIx) (dVar 0) (dC (.int 1))) (dVar 2)) dANil))))))
def F_spots_of : List Sv → Mu → R Sv := dFn 3 fb_spots_of

/-! Plan.taken -/
def fb_Plan_taken : EvS := (sSeq (sAsg 1 (dN dDt)) (sSeq (sForL 2 (dI (dOpF fList (dFld (dVar 0) "held"))) (sForL 3 (dOp2 (p2 gDGet) (dFld (dVar 0) "held") (dVar 2)) (sDPut (dVar 1) (dVar 3) (dVar 2)))) (sRet (dVar 1))))
def F_Plan_taken : List Sv → Mu → R Sv := dFn 4 fb_Plan_taken

/-! Plan.keep -/
def fb_Plan_keep : EvS := (sSeq (sApp (dFld (dVar 0) "past") (dFld (dVar 0) "held")) (sFld (dVar 0) "held" (dVar 1)))
def F_Plan_keep : List Sv → Mu → R Sv := dFn 2 fb_Plan_keep

/-! Plan.given -/
def fb_Plan_given : EvS := (sSeq (sAsg 3 (dN (dOpF fDict (dFld (dVar 0) "held")))) (sSeq (sDPut (dVar 3) (dVar 1) (dVar 2)) (sSeq (sDrop (dMeth "keep" F_Plan_keep (dVar 0) (dACons (dV (dVar 3)) dANil))) (sRet (dI (dOpF fList (dVar 2)))))))
def F_Plan_given : List Sv → Mu → R Sv := dFn 4 fb_Plan_given

/-! Plan.shift -/
def fb_Plan_shift : EvS := (sSeq (sDrop (dMeth "need_group" F_Plan_need_group (dVar 0) (dACons (dVar 1) dANil))) (sSeq (sAsg 4 (dCall F_spots_of (dACons (dTup (dACons (dVar 2) (dACons (dVar 3) (dACons (dC (.int 0)) dANil)))) (dACons (dOp1 (p1 gLen) (dOp2 (p2 gDGet) (dFld (dVar 0) "held") (dVar 1))) dANil)))) (sSeq (sForL 5 (dVar 4) (sIf (dNotT (dTest (dCall F_is_seat (dACons (dFld (dVar 0) "hall") (dACons (dOp2 (p2 gIx) (dVar 5) (dC (.int 0))) (dACons (dOp2 (p2 gIx) (dVar 5) (dC (.int 1))) dANil)))))) (sRaise .noseat) sNext)) (sSeq (sAsg 6 (dMeth "taken" F_Plan_taken (dVar 0) dANil)) (sSeq (sForL 5 (dVar 4) (sIf (dAndT (dTest (dOp2 (p2 gIn) (dVar 5) (dVar 6))) (dTest (dOp2 (p2 gNe) (dOp2 (p2 gDGet) (dVar 6) (dVar 5)) (dVar 1)))) (sRaise .taken) sNext)) (sRet (dMeth "given" F_Plan_given (dVar 0) (dACons (dVar 1) (dACons (dVar 4) dANil)))))))))
def F_Plan_shift : List Sv → Mu → R Sv := dFn 7 fb_Plan_shift

/-! _law_shifted -/
def fb_law_shifted : EvS := (sTry [.noseat, .taken] (sRet (dMeth "shift" F_Plan_shift (dVar 0) (dACons (dVar 1) (dACons (dVar 2) (dACons (dVar 3) dANil))))) [([.noseat], (sRet (dC (.str "no seat")))), ([.taken], (sRet (dC (.str "taken"))))])
def F_law_shifted : List Sv → Mu → R Sv := dFn 4 fb_law_shifted

/-! blocks_in -/
def fb_blocks_in : EvS := (sSeq (sAsg 2 (dN (dLst dANil))) (sSeq (sAsg 3 (dC (.int 0))) (sSeq (sForR1 4 (dOp2 (p2 gAdd) (dOp1 (p1 gLen) (dVar 1)) (dC (.int 1))) (sIf (dAndT (dTest (dOp2 (p2 gLtT) (dVar 4) (dOp1 (p1 gLen) (dVar 1)))) (dTest (dOp2 (p2 gEq) (dOp2 (p2 gIx) (dVar 1) (dVar 4)) (dC (.str "o"))))) (sAsg 3 (dOp2 (p2 gAdd) (dVar 3) (dC (.int 1)))) (sSeq (sIf (dTest (dOp2 (p2 gGt) (dVar 3) (dC (.int 0)))) (sApp (dVar 2) (dTup (dACons (dVar 0) (dACons (dOp2 (p2 gSub) (dVar 4) (dVar 3)) (dACons (dVar 3) dANil))))) sNext) (sAsg 3 (dC (.int 0)))))) (sRet (dVar 2)))))
def F_blocks_in : List Sv → Mu → R Sv := dFn 5 fb_blocks_in

/-! blocks_of -/
def fb_blocks_of : EvS := (sSeq (sAsg 1 (dI (dLst dANil))) (sSeq (sForR1 2 (dOp1 (p1 gLen) (dVar 0)) (sAsg 1 (dOp2 (p2 gAdd) (dVar 1) (dCall F_blocks_in (dACons (dVar 2) (dACons (dOp2 (p2 gIx) (dVar 0) (dVar 2)) dANil)))))) (sRet (dVar 1))))
def F_blocks_of : List Sv → Mu → R Sv := dFn 3 fb_blocks_of

/-! runs_in -/
def fb_runs_in : EvS := (sSeq (sAsg 2 (dN (dLst dANil))) (sSeq (sAsg 3 (dC (.int 0))) (sSeq (sForR2 4 (dOp2 (p2 gIx) (dVar 0) (dC (.int 1))) (dOp2 (p2 gAdd) (dOp2 (p2 gAdd) (dOp2 (p2 gIx) (dVar 0) (dC (.int 1))) (dOp2 (p2 gIx) (dVar 0) (dC (.int 2)))) (dC (.int 1))) (sIf (dAndT (dTest (dOp2 (p2 gLtT) (dVar 4) (dOp2 (p2 gAdd) (dOp2 (p2 gIx) (dVar 0) (dC (.int 1))) (dOp2 (p2 gIx) (dVar 0) (dC (.int 2)))))) (dTest (dOp2 (p2 gNotIn) (dTup (dACons (dOp2 (p2 gIx) (dVar 0) (dC (.int 0))) (dACons (dVar 4) dANil))) (dVar 1)))) (sAsg 3 (dOp2 (p2 gAdd) (dVar 3) (dC (.int 1)))) (sSeq (sIf (dTest (dOp2 (p2 gGt) (dVar 3) (dC (.int 0)))) (sApp (dVar 2) (dTup (dACons (dOp2 (p2 gIx) (dVar 0) (dC (.int 0))) (dACons (dOp2 (p2 gSub) (dVar 4) (dVar 3)) (dACons (dVar 3) dANil))))) sNext) (sAsg 3 (dC (.int 0)))))) (sRet (dVar 2)))))
def F_runs_in : List Sv → Mu → R Sv := dFn 5 fb_runs_in

/-! runs_of -/
def fb_runs_of : EvS := (sSeq (sAsg 2 (dI (dLst dANil))) (sSeq (sForL 3 (dCall F_blocks_of (dACons (dVar 0) dANil)) (sAsg 2 (dOp2 (p2 gAdd) (dVar 2) (dCall F_runs_in (dACons (dVar 3) (dACons (dVar 1) dANil)))))) (sRet (dVar 2))))
def F_runs_of : List Sv → Mu → R Sv := dFn 4 fb_runs_of

/-! Plan.free -/
def fb_Plan_free : EvS := (sRet (dCall F_runs_of (dACons (dFld (dVar 0) "hall") (dACons (dMeth "taken" F_Plan_taken (dVar 0) dANil) dANil))))
def F_Plan_free : List Sv → Mu → R Sv := dFn 1 fb_Plan_free

/-! _law_runs -/
def fb_law_runs : EvS := (sSeq (sAsg 2 (dN (dLst dANil))) (sSeq (sForR1 3 (dOp1 (p1 gLen) (dVar 0)) (sSeq (sAsg 4 (dC (.int 0))) (sForR1 5 (dOp2 (p2 gAdd) (dOp1 (p1 gLen) (dOp2 (p2 gIx) (dVar 0) (dVar 3))) (dC (.int 1))) (sIf (dAndT (dTest (dOp2 (p2 gLtT) (dVar 5) (dOp1 (p1 gLen) (dOp2 (p2 gIx) (dVar 0) (dVar 3))))) (dAndT (dTest (dOp2 (p2 gEq) (dOp2 (p2 gIx) (dOp2 (p2 gIx) (dVar 0) (dVar 3)) (dVar 5)) (dC (.str "o")))) (dTest (dOp2 (p2 gNotIn) (dTup (dACons (dVar 3) (dACons (dVar 5) dANil))) (dVar 1))))) (sAsg 4 (dOp2 (p2 gAdd) (dVar 4) (dC (.int 1)))) (sSeq (sIf (dTest (dOp2 (p2 gGt) (dVar 4) (dC (.int 0)))) (sApp (dVar 2) (dTup (dACons (dVar 3) (dACons (dOp2 (p2 gSub) (dVar 5) (dVar 4)) (dACons (dVar 4) dANil))))) sNext) (sAsg 4 (dC (.int 0)))))))) (sRet (dVar 2))))
def F_law_runs : List Sv → Mu → R Sv := dFn 6 fb_law_runs

/-! Plan.who -/
def fb_Plan_who : EvS := (sSeq (sIf (dNotT (dTest (dCall F_is_seat (dACons (dFld (dVar 0) "hall") (dACons (dVar 1) (dACons (dVar 2) dANil)))))) (sRaise .noseat) sNext) (sRet (dGet1 (dMeth "taken" F_Plan_taken (dVar 0) dANil) (dTup (dACons (dVar 1) (dACons (dVar 2) dANil))))))
def F_Plan_who : List Sv → Mu → R Sv := dFn 3 fb_Plan_who

/-! _law_stands -/
def fb_law_stands : EvS := (sSeq (sAsg 3 (dCall F_law_taken (dACons (dVar 2) dANil))) (sSeq (sIf (dOrT (dTest (dOp2 (p2 gNe) (dMeth "groups" F_Plan_groups (dVar 0) dANil) (dI (dOpF fList (dVar 2))))) (dTest (dOp2 (p2 gNe) (dMeth "free" F_Plan_free (dVar 0) dANil) (dCall F_law_runs (dACons (dVar 1) (dACons (dVar 3) dANil)))))) (sRet (dC (.bl false))) sNext) (sSeq (sForL 4 (dI (dOpF fList (dVar 2))) (sIf (dTest (dOp2 (p2 gNe) (dMeth "seats" F_Plan_seats (dVar 0) (dACons (dVar 4) dANil)) (dOp2 (p2 gDGet) (dVar 2) (dVar 4)))) (sRet (dC (.bl false))) sNext)) (sSeq (sForR1 5 (dOp1 (p1 gLen) (dVar 1)) (sForR1 6 (dOp1 (p1 gLen) (dOp2 (p2 gIx) (dVar 1) (dVar 5))) (sIf (dAndT (dTest (dOp2 (p2 gEq) (dOp2 (p2 gIx) (dOp2 (p2 gIx) (dVar 1) (dVar 5)) (dVar 6)) (dC (.str "o")))) (dTest (dOp2 (p2 gEq) (dOp2 (p2 gMod) (dOp2 (p2 gAdd) (dOp2 (p2 gAdd) (dVar 5) (dVar 6)) (dOp1 (p1 gLen) (dOp2 (p2 gIx) (dVar 1) (dC (.int 0))))) (dC (.int 3))) (dC (.int 0))))) (sIf (dTest (dOp2 (p2 gNe) (dMeth "who" F_Plan_who (dVar 0) (dACons (dVar 5) (dACons (dVar 6) dANil))) (dGet1 (dVar 3) (dTup (dACons (dVar 5) (dACons (dVar 6) dANil)))))) (sRet (dC (.bl false))) sNext) sNext))) (sRet (dC (.bl true)))))))
def F_law_stands : List Sv → Mu → R Sv := dFn 7 fb_law_stands

/-! Plan.leave -/
def fb_Plan_leave : EvS := (sSeq (sDrop (dMeth "need_group" F_Plan_need_group (dVar 0) (dACons (dVar 1) dANil))) (sSeq (sAsg 2 (dN dDk)) (sSeq (sForL 3 (dI (dOpF fList (dFld (dVar 0) "held"))) (sIf (dTest (dOp2 (p2 gNe) (dVar 3) (dVar 1))) (sDPut (dVar 2) (dVar 3) (dOp2 (p2 gDGet) (dFld (dVar 0) "held") (dVar 3))) sNext)) (sSeq (sAsg 4 (dI (dOpF fList (dOp2 (p2 gDGet) (dFld (dVar 0) "held") (dVar 1))))) (sSeq (sDrop (dMeth "keep" F_Plan_keep (dVar 0) (dACons (dV (dVar 2)) dANil))) (sRet (dVar 4)))))))
def F_Plan_leave : List Sv → Mu → R Sv := dFn 5 fb_Plan_leave

/-! _law_leaves -/
def fb_law_leaves : EvS := (sSeq (sAsg 4 (dOp2 (p2 gIx) (dI (dOpF fList (dVar 2))) (dOp2 (p2 gMod) (dVar 3) (dOp1 (p1 gLen) (dVar 2))))) (sSeq (sAsg 5 (dMeth "leave" F_Plan_leave (dVar 0) (dACons (dVar 4) dANil))) (sSeq (sAsg 6 (dI (dOpF fDictP (dI (dLcL 7 (dI (dOpF fList (dVar 2))) (dTest (dOp2 (p2 gNe) (dVar 7) (dVar 4))) (dTup (dACons (dVar 7) (dACons (dOp2 (p2 gDGet) (dVar 2) (dVar 7)) dANil)))))))) (sSeq (sIf (dOrT (dNotT (dTest (dOp1 (p1 (gIsi "list")) (dVar 5)))) (dOrT (dTest (dOp2 (p2 gNe) (dVar 5) (dOp2 (p2 gDGet) (dVar 2) (dVar 4)))) (dNotT (dTest (dCall F_law_stands (dACons (dVar 0) (dACons (dVar 1) (dACons (dVar 6) dANil)))))))) (sRet (dC (.bl false))) sNext) (sRet (dAnd (dOp2 (p2 gIsN) (dMeth "back" F_Plan_back (dVar 0) dANil) (dC .non)) (dCall F_law_stands (dACons (dVar 0) (dACons (dVar 1) (dACons (dVar 2) dANil))))))))))
def F_law_leaves : List Sv → Mu → R Sv := dFn 8 fb_law_leaves

/-! law -/
def fb_law : EvS := (sSeq (sAsg 1 (dI (dLcR1 13 (dOp2 (p2 gAdd) (dC (.int 1)) (dOp2 (p2 gMod) (dCall F_law_cell_at (dACons (dVar 0) (dACons (dC (.int 0)) dANil))) (dC (.int 5)))) dYes (dCall F_law_row_by (dACons (dCall F_law_cell_at (dACons (dVar 0) (dACons (dOp2 (p2 gAdd) (dC (.int 6)) (dVar 13)) dANil))) dANil))))) (sSeq (sIf (dTest (dOp2 (p2 gEq) (dOp2 (p2 gMod) (dOp2 (p2 gDiv) (dCall F_law_cell_at (dACons (dVar 0) (dACons (dC (.int 0)) dANil))) (dC (.int 5))) (dC (.int 9))) (dC (.int 1)))) (sAsg 1 (dI (dLcR1 13 (dC (.int 40)) dYes (dSl (dCall F_law_row_by (dACons (dOp2 (p2 gAdd) (dCall F_law_cell_at (dACons (dVar 0) (dACons (dOp2 (p2 gAdd) (dC (.int 6)) (dOp2 (p2 gMod) (dVar 13) (dC (.int 4)))) dANil))) (dOp2 (p2 gMul) (dC (.int 7919)) (dVar 13))) dANil)) none (some (dC (.int 6))))))) sNext) (sSeq (sAsg 2 (dCall F_law_names_by (dACons (dCall F_law_cell_at (dACons (dVar 0) (dACons (dC (.int 2)) dANil))) (dACons (dOp2 (p2 gAdd) (dC (.int 1)) (dOp2 (p2 gMod) (dCall F_law_cell_at (dACons (dVar 0) (dACons (dC (.int 1)) dANil))) (dC (.int 4)))) dANil)))) (sSeq (sAsg 3 (dCall F_law_held_by (dACons (dVar 1) (dACons (dVar 2) (dACons (dOp2 (p2 gDiv) (dCall F_law_cell_at (dACons (dVar 0) (dACons (dC (.int 1)) dANil))) (dC (.int 4))) dANil))))) (sSeq (sAsg 4 (dCall F_read (dACons (dI (dOpF fList (dVar 1))) (dACons (dCall F_law_lines (dACons (dVar 3) dANil)) dANil)))) (sSeq (sIf (dNotT (dTest (dIsiC (dVar 4)))) (sRet (dC (.bl false))) sNext) (sSeq (sIf (dTest (dOp2 (p2 gEq) (dOp1 (p1 gLen) (dVar 3)) (dC (.int 0)))) (sRet (dAnd (dOp2 (p2 gEq) (dMeth "groups" F_Plan_groups (dVar 4) dANil) (dI (dLst dANil))) (dCall F_law_nothing (dACons (dVar 4) dANil)))) sNext) (sSeq (sAsg 5 (dOp2 (p2 gIx) (dI (dOpF fList (dVar 3))) (dOp2 (p2 gMod) (dCall F_law_cell_at (dACons (dVar 0) (dACons (dC (.int 3)) dANil))) (dOp1 (p1 gLen) (dVar 3))))) (sSeq (sAsg 6 (dOp2 (p2 gSub) (dOp2 (p2 gMod) (dCall F_law_cell_at (dACons (dVar 0) (dACons (dC (.int 4)) dANil))) (dOp2 (p2 gAdd) (dOp1 (p1 gLen) (dVar 1)) (dC (.int 2)))) (dC (.int 1)))) (sSeq (sAsg 7 (dOp2 (p2 gSub) (dOp2 (p2 gMod) (dCall F_law_cell_at (dACons (dVar 0) (dACons (dC (.int 5)) dANil))) (dC (.int 64))) (dC (.int 2)))) (sSeq (sIf (dTest (dOp2 (p2 gGt) (dOp2 (p2 gMod) (dOp2 (p2 gDiv) (dCall F_law_cell_at (dACons (dVar 0) (dACons (dC (.int 4)) dANil))) (dC (.int 50))) (dC (.int 3))) (dC (.int 0)))) (sSeq (sAsg 8 (dOp2 (p2 gIx) (dI (dOpF fVals (dVar 3))) (dOp2 (p2 gMod) (dOp2 (p2 gDiv) (dCall F_law_cell_at (dACons (dVar 0) (dACons (dC (.int 4)) dANil))) (dC (.int 150))) (dOp1 (p1 gLen) (dVar 3))))) (sSeq (sAsg 6 (dOp2 (p2 gIx) (dOp2 (p2 gIx) (dVar 8) (dOp2 (p2 gMod) (dCall F_law_cell_at (dACons (dVar 0) (dACons (dC (.int 5)) dANil))) (dOp1 (p1 gLen) (dVar 8)))) (dC (.int 0)))) (sAsg 7 (dOp2 (p2 gSub) (dOp2 (p2 gAdd) (dOp2 (p2 gIx) (dOp2 (p2 gIx) (dVar 8) (dOp2 (p2 gMod) (dCall F_law_cell_at (dACons (dVar 0) (dACons (dC (.int 5)) dANil))) (dOp1 (p1 gLen) (dVar 8)))) (dC (.int 1))) (dOp2 (p2 gMod) (dOp2 (p2 gDiv) (dCall F_law_cell_at (dACons (dVar 0) (dACons (dC (.int 5)) dANil))) (dC (.int 300))) (dC (.int 5)))) (dC (.int 2)))))) sNext) (sSeq (sAsg 9 (dCall F_law_due (dACons (dVar 1) (dACons (dVar 3) (dACons (dVar 5) (dACons (dVar 6) (dACons (dVar 7) dANil))))))) (sSeq (sAsg 10 (dI (dOpF fDict (dVar 3)))) (sSeq (sAsg 11 (dMeth "seats" F_Plan_seats (dVar 4) (dACons (dVar 5) dANil))) (sSeq (sAsg 12 (dCall F_law_shifted (dACons (dVar 4) (dACons (dVar 5) (dACons (dVar 6) (dACons (dVar 7) dANil)))))) (sSeq (sIf (dTest (dOp2 (p2 gNe) (dVar 11) (dOp2 (p2 gDGet) (dVar 10) (dVar 5)))) (sRet (dC (.bl false))) sNext) (sSeq (sIf (dOrT (dTest (dOp2 (p2 gNe) (dOp1 (p1 (gIsi "list")) (dVar 12)) (dOp1 (p1 (gIsi "list")) (dVar 9)))) (dTest (dOp2 (p2 gNe) (dVar 12) (dVar 9)))) (sRet (dC (.bl false))) sNext) (sSeq (sIf (dTest (dOp1 (p1 (gIsi "list")) (dVar 9))) (sDPut (dVar 3) (dVar 5) (dVar 9)) sNext) (sSeq (sIf (dNotT (dTest (dCall F_law_stands (dACons (dVar 4) (dACons (dVar 1) (dACons (dVar 3) dANil)))))) (sRet (dC (.bl false))) sNext) (sSeq (sIf (dNotT (dTest (dCall F_law_leaves (dACons (dVar 4) (dACons (dVar 1) (dACons (dVar 3) (dACons (dOp2 (p2 gDiv) (dCall F_law_cell_at (dACons (dVar 0) (dACons (dC (.int 3)) dANil))) (dC (.int 4))) dANil))))))) (sRet (dC (.bl false))) sNext) (sSeq (sIf (dTest (dOp1 (p1 (gIsi "list")) (dVar 9))) (sRet (dAnd (dOp2 (p2 gIsN) (dMeth "back" F_Plan_back (dVar 4) dANil) (dC .non)) (dAnd (dCall F_law_stands (dACons (dVar 4) (dACons (dVar 1) (dACons (dVar 10) dANil)))) (dCall F_law_nothing (dACons (dVar 4) dANil))))) sNext) (sRet (dCall F_law_nothing (dACons (dVar 4) dANil))))))))))))))))))))))))
def F_law : List Sv → Mu → R Sv := dFn 14 fb_law

end LW

namespace LW
open PySem L2 SP

abbrev s_law_row_by : Stmt := top 37
theorem sc_law_row_by : FnScope ["_law_n", "_law_many", "_law_gap", "_law_signs", "_law_place"] ["_law_n"] (defScope s_law_row_by) := ⟨rfl, rfl, rfl, by decide +kernel, rfl, by decide +kernel, by decide +kernel⟩

abbrev s_law_cell_at : Stmt := top 36
theorem sc_law_cell_at : FnScope ["_law_script", "_law_k"] ["_law_script", "_law_k"] (defScope s_law_cell_at) := ⟨rfl, rfl, rfl, by decide +kernel, rfl, by decide +kernel, by decide +kernel⟩

abbrev s_law_names_by : Stmt := top 38
theorem sc_law_names_by : FnScope ["_law_n", "_law_many", "_law_some", "_law_size", "_law_at", "_law_word", "_law_names", "_law_k", "_law_sign", "_law_back", "_law_j"] ["_law_n", "_law_many"] (defScope s_law_names_by) := ⟨rfl, rfl, rfl, by decide +kernel, rfl, by decide +kernel, by decide +kernel⟩

abbrev s_law_held_by : Stmt := top 39
theorem sc_law_held_by : FnScope ["_law_rows", "_law_names", "_law_n", "_law_held", "_law_at", "_law_row", "_law_place", "_law_who", "_law_turned", "_law_name"] ["_law_rows", "_law_names", "_law_n"] (defScope s_law_held_by) := ⟨rfl, rfl, rfl, by decide +kernel, rfl, by decide +kernel, by decide +kernel⟩

abbrev s_need_row : Stmt := top 16
theorem sc_need_row : FnScope ["row", "sign"] ["row"] (defScope s_need_row) := ⟨rfl, rfl, rfl, by decide +kernel, rfl, by decide +kernel, by decide +kernel⟩

abbrev s_need_hall : Stmt := top 17
theorem sc_need_hall : FnScope ["rows", "row"] ["rows"] (defScope s_need_hall) := ⟨rfl, rfl, rfl, by decide +kernel, rfl, by decide +kernel, by decide +kernel⟩

abbrev s_Plan___init__ : Stmt := inClass (top 29) 0
theorem sc_Plan___init__ : FnScope ["self", "rows"] ["self", "rows"] (defScope s_Plan___init__) := ⟨rfl, rfl, rfl, by decide +kernel, rfl, by decide +kernel, by decide +kernel⟩

abbrev s_number_of : Stmt := top 31
theorem sc_number_of : FnScope ["word", "sign"] ["word"] (defScope s_number_of) := ⟨rfl, rfl, rfl, by decide +kernel, rfl, by decide +kernel, by decide +kernel⟩

abbrev s_spot_of : Stmt := top 32
theorem sc_spot_of : FnScope ["word", "parts"] ["word"] (defScope s_spot_of) := ⟨rfl, rfl, rfl, by decide +kernel, rfl, by decide +kernel, by decide +kernel⟩

abbrev s_parted : Stmt := top 33
theorem sc_parted : FnScope ["line", "parts", "spots", "k", "word"] ["line"] (defScope s_parted) := ⟨rfl, rfl, rfl, by decide +kernel, rfl, by decide +kernel, by decide +kernel⟩

abbrev s_need_name : Stmt := top 28
theorem sc_need_name : FnScope ["name", "sign"] ["name"] (defScope s_need_name) := ⟨rfl, rfl, rfl, by decide +kernel, rfl, by decide +kernel, by decide +kernel⟩

abbrev s_is_seat : Stmt := top 18
theorem sc_is_seat : FnScope ["rows", "row", "place"] ["rows", "row", "place"] (defScope s_is_seat) := ⟨rfl, rfl, rfl, by decide +kernel, rfl, by decide +kernel, by decide +kernel⟩

abbrev s_read : Stmt := top 34
theorem sc_read : FnScope ["rows", "lines", "plan", "held", "taken", "line", "pair", "spot"] ["rows", "lines"] (defScope s_read) := ⟨rfl, rfl, rfl, by decide +kernel, rfl, by decide +kernel, by decide +kernel⟩

abbrev s_law_lines : Stmt := top 41
theorem sc_law_lines : FnScope ["_law_held", "_law_lines_here", "_law_name", "_law_spot"] ["_law_held"] (defScope s_law_lines) := ⟨rfl, rfl, rfl, by decide +kernel, rfl, by decide +kernel, by decide +kernel⟩

abbrev s_Plan_groups : Stmt := inClass (top 29) 15
theorem sc_Plan_groups : FnScope ["self"] ["self"] (defScope s_Plan_groups) := ⟨rfl, rfl, rfl, by decide +kernel, rfl, by decide +kernel, by decide +kernel⟩

abbrev s_Plan_back : Stmt := inClass (top 29) 12
theorem sc_Plan_back : FnScope ["self"] ["self"] (defScope s_Plan_back) := ⟨rfl, rfl, rfl, by decide +kernel, rfl, by decide +kernel, by decide +kernel⟩

abbrev s_law_nothing : Stmt := top 47
theorem sc_law_nothing : FnScope ["_law_plan"] ["_law_plan"] (defScope s_law_nothing) := ⟨rfl, rfl, rfl, by decide +kernel, rfl, by decide +kernel, by decide +kernel⟩

abbrev s_law_taken : Stmt := top 42
theorem sc_law_taken : FnScope ["_law_held", "_law_taken_here", "_law_name", "_law_spot"] ["_law_held"] (defScope s_law_taken) := ⟨rfl, rfl, rfl, by decide +kernel, rfl, by decide +kernel, by decide +kernel⟩

abbrev s_law_due : Stmt := top 45
theorem sc_law_due : FnScope ["_law_rows", "_law_held", "_law_name", "_law_row", "_law_first", "_law_taken_here", "_law_due_here", "_law_k", "_law_spot"] ["_law_rows", "_law_held", "_law_name", "_law_row", "_law_first"] (defScope s_law_due) := ⟨rfl, rfl, rfl, by decide +kernel, rfl, by decide +kernel, by decide +kernel⟩

abbrev s_Plan_need_group : Stmt := inClass (top 29) 4
theorem sc_Plan_need_group : FnScope ["self", "name"] ["self", "name"] (defScope s_Plan_need_group) := ⟨rfl, rfl, rfl, by decide +kernel, rfl, by decide +kernel, by decide +kernel⟩

abbrev s_Plan_seats : Stmt := inClass (top 29) 16
theorem sc_Plan_seats : FnScope ["self", "name"] ["self", "name"] (defScope s_Plan_seats) := ⟨rfl, rfl, rfl, by decide +kernel, rfl, by decide +kernel, by decide +kernel⟩

abbrev s_spots_of : Stmt := top 24
theorem sc_spots_of : FnScope ["run", "size", "k"] ["run", "size"] (defScope s_spots_of) := ⟨rfl, rfl, rfl, by decide +kernel, rfl, by decide +kernel, by decide +kernel⟩

abbrev s_Plan_taken : Stmt := inClass (top 29) 1
theorem sc_Plan_taken : FnScope ["self", "found", "name", "spot"] ["self"] (defScope s_Plan_taken) := ⟨rfl, rfl, rfl, by decide +kernel, rfl, by decide +kernel, by decide +kernel⟩

abbrev s_Plan_keep : Stmt := inClass (top 29) 2
theorem sc_Plan_keep : FnScope ["self", "held"] ["self", "held"] (defScope s_Plan_keep) := ⟨rfl, rfl, rfl, by decide +kernel, rfl, by decide +kernel, by decide +kernel⟩

abbrev s_Plan_given : Stmt := inClass (top 29) 5
theorem sc_Plan_given : FnScope ["self", "name", "spots", "held"] ["self", "name", "spots"] (defScope s_Plan_given) := ⟨rfl, rfl, rfl, by decide +kernel, rfl, by decide +kernel, by decide +kernel⟩

abbrev s_Plan_shift : Stmt := inClass (top 29) 11
theorem sc_Plan_shift : FnScope ["self", "name", "row", "first", "spots", "spot", "taken"] ["self", "name", "row", "first"] (defScope s_Plan_shift) := ⟨rfl, rfl, rfl, by decide +kernel, rfl, by decide +kernel, by decide +kernel⟩

abbrev s_law_shifted : Stmt := top 44
theorem sc_law_shifted : FnScope ["_law_plan", "_law_name", "_law_row", "_law_first"] ["_law_plan", "_law_name", "_law_row", "_law_first"] (defScope s_law_shifted) := ⟨rfl, rfl, rfl, by decide +kernel, rfl, by decide +kernel, by decide +kernel⟩

abbrev s_blocks_in : Stmt := top 19
theorem sc_blocks_in : FnScope ["row", "line", "found", "many", "place"] ["row", "line"] (defScope s_blocks_in) := ⟨rfl, rfl, rfl, by decide +kernel, rfl, by decide +kernel, by decide +kernel⟩

abbrev s_blocks_of : Stmt := top 20
theorem sc_blocks_of : FnScope ["rows", "found", "row"] ["rows"] (defScope s_blocks_of) := ⟨rfl, rfl, rfl, by decide +kernel, rfl, by decide +kernel, by decide +kernel⟩

abbrev s_runs_in : Stmt := top 22
theorem sc_runs_in : FnScope ["block", "taken", "found", "many", "place"] ["block", "taken"] (defScope s_runs_in) := ⟨rfl, rfl, rfl, by decide +kernel, rfl, by decide +kernel, by decide +kernel⟩

abbrev s_runs_of : Stmt := top 23
theorem sc_runs_of : FnScope ["rows", "taken", "found", "block"] ["rows", "taken"] (defScope s_runs_of) := ⟨rfl, rfl, rfl, by decide +kernel, rfl, by decide +kernel, by decide +kernel⟩

abbrev s_Plan_free : Stmt := inClass (top 29) 13
theorem sc_Plan_free : FnScope ["self"] ["self"] (defScope s_Plan_free) := ⟨rfl, rfl, rfl, by decide +kernel, rfl, by decide +kernel, by decide +kernel⟩

abbrev s_law_runs : Stmt := top 40
theorem sc_law_runs : FnScope ["_law_rows", "_law_taken_here", "_law_runs_here", "_law_row", "_law_many", "_law_place"] ["_law_rows", "_law_taken_here"] (defScope s_law_runs) := ⟨rfl, rfl, rfl, by decide +kernel, rfl, by decide +kernel, by decide +kernel⟩

abbrev s_Plan_who : Stmt := inClass (top 29) 17
theorem sc_Plan_who : FnScope ["self", "row", "place"] ["self", "row", "place"] (defScope s_Plan_who) := ⟨rfl, rfl, rfl, by decide +kernel, rfl, by decide +kernel, by decide +kernel⟩

abbrev s_law_stands : Stmt := top 43
theorem sc_law_stands : FnScope ["_law_plan", "_law_rows", "_law_held", "_law_taken_here", "_law_name", "_law_row", "_law_place"] ["_law_plan", "_law_rows", "_law_held"] (defScope s_law_stands) := ⟨rfl, rfl, rfl, by decide +kernel, rfl, by decide +kernel, by decide +kernel⟩

abbrev s_Plan_leave : Stmt := inClass (top 29) 10
theorem sc_Plan_leave : FnScope ["self", "name", "held", "other", "spots"] ["self", "name"] (defScope s_Plan_leave) := ⟨rfl, rfl, rfl, by decide +kernel, rfl, by decide +kernel, by decide +kernel⟩

abbrev s_law_leaves : Stmt := top 46
theorem sc_law_leaves : FnScope ["_law_plan", "_law_rows", "_law_held", "_law_n", "_law_gone", "_law_told", "_law_left", "_law_other"] ["_law_plan", "_law_rows", "_law_held", "_law_n"] (defScope s_law_leaves) := ⟨rfl, rfl, rfl, by decide +kernel, rfl, by decide +kernel, by decide +kernel⟩

abbrev s_law : Stmt := top 48
theorem sc_law : FnScope ["_law_script", "_law_rows", "_law_names", "_law_held", "_law_plan", "_law_name", "_law_row", "_law_first", "_law_spots", "_law_due_here", "_law_ahead", "_law_told", "_law_found", "_law_j"] ["_law_script"] (defScope s_law) := ⟨rfl, rfl, rfl, by decide +kernel, rfl, by decide +kernel, by decide +kernel⟩

structure Ad where
  law_row_by : Addr
  law_cell_at : Addr
  law_names_by : Addr
  law_held_by : Addr
  need_row : Addr
  need_hall : Addr
  Plan___init__ : Addr
  number_of : Addr
  spot_of : Addr
  parted : Addr
  need_name : Addr
  is_seat : Addr
  read : Addr
  law_lines : Addr
  Plan_groups : Addr
  Plan_back : Addr
  law_nothing : Addr
  law_taken : Addr
  law_due : Addr
  Plan_need_group : Addr
  Plan_seats : Addr
  spots_of : Addr
  Plan_taken : Addr
  Plan_keep : Addr
  Plan_given : Addr
  Plan_shift : Addr
  law_shifted : Addr
  blocks_in : Addr
  blocks_of : Addr
  runs_in : Addr
  runs_of : Addr
  Plan_free : Addr
  law_runs : Addr
  Plan_who : Addr
  law_stands : Addr
  Plan_leave : Addr
  law_leaves : Addr
  law : Addr
  C_SeatError : Addr
  C_BadHall : Addr
  C_BadName : Addr
  C_Known : Addr
  C_Unknown : Addr
  C_NoSeat : Addr
  C_Taken : Addr
  C_Nothing : Addr
  C_BadLine : Addr
  C_Plan : Addr

structure Fd where
  law_row_by : FuncData
  law_cell_at : FuncData
  law_names_by : FuncData
  law_held_by : FuncData
  need_row : FuncData
  need_hall : FuncData
  Plan___init__ : FuncData
  number_of : FuncData
  spot_of : FuncData
  parted : FuncData
  need_name : FuncData
  is_seat : FuncData
  read : FuncData
  law_lines : FuncData
  Plan_groups : FuncData
  Plan_back : FuncData
  law_nothing : FuncData
  law_taken : FuncData
  law_due : FuncData
  Plan_need_group : FuncData
  Plan_seats : FuncData
  spots_of : FuncData
  Plan_taken : FuncData
  Plan_keep : FuncData
  Plan_given : FuncData
  Plan_shift : FuncData
  law_shifted : FuncData
  blocks_in : FuncData
  blocks_of : FuncData
  runs_in : FuncData
  runs_of : FuncData
  Plan_free : FuncData
  law_runs : FuncData
  Plan_who : FuncData
  law_stands : FuncData
  Plan_leave : FuncData
  law_leaves : FuncData
  law : FuncData

def gm (K : PySem.W.Frag) (a : Ad) : Gm := ⟨K, a.C_Plan, fun x => match x with | .seat => .ref a.C_SeatError | .hall => .ref a.C_BadHall | .name => .ref a.C_BadName | .known => .ref a.C_Known | .unknown => .ref a.C_Unknown | .noseat => .ref a.C_NoSeat | .taken => .ref a.C_Taken | .nothing => .ref a.C_Nothing | .line => .ref a.C_BadLine | _ => .none⟩
structure Txt (K : PySem.W.Frag) (mg : Str → Option Value) (a : Ad) (d : Fd) : Prop where
  F_law_row_by : Fun K "_law_row_by" "_law_row_by" s_law_row_by a.law_row_by d.law_row_by
  b_law_row_by : Binds K d.law_row_by ["_law_n"] []
  m_law_row_by : mg "_law_row_by" = some (.ref a.law_row_by)
  F_law_cell_at : Fun K "_law_cell_at" "_law_cell_at" s_law_cell_at a.law_cell_at d.law_cell_at
  b_law_cell_at : Binds K d.law_cell_at ["_law_script", "_law_k"] []
  m_law_cell_at : mg "_law_cell_at" = some (.ref a.law_cell_at)
  F_law_names_by : Fun K "_law_names_by" "_law_names_by" s_law_names_by a.law_names_by d.law_names_by
  b_law_names_by : Binds K d.law_names_by ["_law_n", "_law_many"] []
  m_law_names_by : mg "_law_names_by" = some (.ref a.law_names_by)
  F_law_held_by : Fun K "_law_held_by" "_law_held_by" s_law_held_by a.law_held_by d.law_held_by
  b_law_held_by : Binds K d.law_held_by ["_law_rows", "_law_names", "_law_n"] []
  m_law_held_by : mg "_law_held_by" = some (.ref a.law_held_by)
  F_need_row : Fun K "need_row" "need_row" s_need_row a.need_row d.need_row
  b_need_row : Binds K d.need_row ["row"] []
  m_need_row : mg "need_row" = some (.ref a.need_row)
  F_need_hall : Fun K "need_hall" "need_hall" s_need_hall a.need_hall d.need_hall
  b_need_hall : Binds K d.need_hall ["rows"] []
  m_need_hall : mg "need_hall" = some (.ref a.need_hall)
  F_Plan___init__ : Fun K "__init__" "Plan.__init__" s_Plan___init__ a.Plan___init__ d.Plan___init__
  b_Plan___init__ : Binds K d.Plan___init__ ["self", "rows"] []
  F_number_of : Fun K "number_of" "number_of" s_number_of a.number_of d.number_of
  b_number_of : Binds K d.number_of ["word"] []
  m_number_of : mg "number_of" = some (.ref a.number_of)
  F_spot_of : Fun K "spot_of" "spot_of" s_spot_of a.spot_of d.spot_of
  b_spot_of : Binds K d.spot_of ["word"] []
  m_spot_of : mg "spot_of" = some (.ref a.spot_of)
  F_parted : Fun K "parted" "parted" s_parted a.parted d.parted
  b_parted : Binds K d.parted ["line"] []
  m_parted : mg "parted" = some (.ref a.parted)
  F_need_name : Fun K "need_name" "need_name" s_need_name a.need_name d.need_name
  b_need_name : Binds K d.need_name ["name"] []
  m_need_name : mg "need_name" = some (.ref a.need_name)
  F_is_seat : Fun K "is_seat" "is_seat" s_is_seat a.is_seat d.is_seat
  b_is_seat : Binds K d.is_seat ["rows", "row", "place"] []
  m_is_seat : mg "is_seat" = some (.ref a.is_seat)
  F_read : Fun K "read" "read" s_read a.read d.read
  b_read : Binds K d.read ["rows", "lines"] []
  m_read : mg "read" = some (.ref a.read)
  F_law_lines : Fun K "_law_lines" "_law_lines" s_law_lines a.law_lines d.law_lines
  b_law_lines : Binds K d.law_lines ["_law_held"] []
  m_law_lines : mg "_law_lines" = some (.ref a.law_lines)
  F_Plan_groups : Fun K "groups" "Plan.groups" s_Plan_groups a.Plan_groups d.Plan_groups
  b_Plan_groups : Binds K d.Plan_groups ["self"] []
  F_Plan_back : Fun K "back" "Plan.back" s_Plan_back a.Plan_back d.Plan_back
  b_Plan_back : Binds K d.Plan_back ["self"] []
  F_law_nothing : Fun K "_law_nothing" "_law_nothing" s_law_nothing a.law_nothing d.law_nothing
  b_law_nothing : Binds K d.law_nothing ["_law_plan"] []
  m_law_nothing : mg "_law_nothing" = some (.ref a.law_nothing)
  F_law_taken : Fun K "_law_taken" "_law_taken" s_law_taken a.law_taken d.law_taken
  b_law_taken : Binds K d.law_taken ["_law_held"] []
  m_law_taken : mg "_law_taken" = some (.ref a.law_taken)
  F_law_due : Fun K "_law_due" "_law_due" s_law_due a.law_due d.law_due
  b_law_due : Binds K d.law_due ["_law_rows", "_law_held", "_law_name", "_law_row", "_law_first"] []
  m_law_due : mg "_law_due" = some (.ref a.law_due)
  F_Plan_need_group : Fun K "need_group" "Plan.need_group" s_Plan_need_group a.Plan_need_group d.Plan_need_group
  b_Plan_need_group : Binds K d.Plan_need_group ["self", "name"] []
  F_Plan_seats : Fun K "seats" "Plan.seats" s_Plan_seats a.Plan_seats d.Plan_seats
  b_Plan_seats : Binds K d.Plan_seats ["self", "name"] []
  F_spots_of : Fun K "spots_of" "spots_of" s_spots_of a.spots_of d.spots_of
  b_spots_of : Binds K d.spots_of ["run", "size"] []
  m_spots_of : mg "spots_of" = some (.ref a.spots_of)
  F_Plan_taken : Fun K "taken" "Plan.taken" s_Plan_taken a.Plan_taken d.Plan_taken
  b_Plan_taken : Binds K d.Plan_taken ["self"] []
  F_Plan_keep : Fun K "keep" "Plan.keep" s_Plan_keep a.Plan_keep d.Plan_keep
  b_Plan_keep : Binds K d.Plan_keep ["self", "held"] []
  F_Plan_given : Fun K "given" "Plan.given" s_Plan_given a.Plan_given d.Plan_given
  b_Plan_given : Binds K d.Plan_given ["self", "name", "spots"] []
  F_Plan_shift : Fun K "shift" "Plan.shift" s_Plan_shift a.Plan_shift d.Plan_shift
  b_Plan_shift : Binds K d.Plan_shift ["self", "name", "row", "first"] []
  F_law_shifted : Fun K "_law_shifted" "_law_shifted" s_law_shifted a.law_shifted d.law_shifted
  b_law_shifted : Binds K d.law_shifted ["_law_plan", "_law_name", "_law_row", "_law_first"] []
  m_law_shifted : mg "_law_shifted" = some (.ref a.law_shifted)
  F_blocks_in : Fun K "blocks_in" "blocks_in" s_blocks_in a.blocks_in d.blocks_in
  b_blocks_in : Binds K d.blocks_in ["row", "line"] []
  m_blocks_in : mg "blocks_in" = some (.ref a.blocks_in)
  F_blocks_of : Fun K "blocks_of" "blocks_of" s_blocks_of a.blocks_of d.blocks_of
  b_blocks_of : Binds K d.blocks_of ["rows"] []
  m_blocks_of : mg "blocks_of" = some (.ref a.blocks_of)
  F_runs_in : Fun K "runs_in" "runs_in" s_runs_in a.runs_in d.runs_in
  b_runs_in : Binds K d.runs_in ["block", "taken"] []
  m_runs_in : mg "runs_in" = some (.ref a.runs_in)
  F_runs_of : Fun K "runs_of" "runs_of" s_runs_of a.runs_of d.runs_of
  b_runs_of : Binds K d.runs_of ["rows", "taken"] []
  m_runs_of : mg "runs_of" = some (.ref a.runs_of)
  F_Plan_free : Fun K "free" "Plan.free" s_Plan_free a.Plan_free d.Plan_free
  b_Plan_free : Binds K d.Plan_free ["self"] []
  F_law_runs : Fun K "_law_runs" "_law_runs" s_law_runs a.law_runs d.law_runs
  b_law_runs : Binds K d.law_runs ["_law_rows", "_law_taken_here"] []
  m_law_runs : mg "_law_runs" = some (.ref a.law_runs)
  F_Plan_who : Fun K "who" "Plan.who" s_Plan_who a.Plan_who d.Plan_who
  b_Plan_who : Binds K d.Plan_who ["self", "row", "place"] []
  F_law_stands : Fun K "_law_stands" "_law_stands" s_law_stands a.law_stands d.law_stands
  b_law_stands : Binds K d.law_stands ["_law_plan", "_law_rows", "_law_held"] []
  m_law_stands : mg "_law_stands" = some (.ref a.law_stands)
  F_Plan_leave : Fun K "leave" "Plan.leave" s_Plan_leave a.Plan_leave d.Plan_leave
  b_Plan_leave : Binds K d.Plan_leave ["self", "name"] []
  F_law_leaves : Fun K "_law_leaves" "_law_leaves" s_law_leaves a.law_leaves d.law_leaves
  b_law_leaves : Binds K d.law_leaves ["_law_plan", "_law_rows", "_law_held", "_law_n"] []
  m_law_leaves : mg "_law_leaves" = some (.ref a.law_leaves)
  F_law : Fun K "law" "law" s_law a.law d.law
  b_law : Binds K d.law ["_law_script"] []
  m_law : mg "law" = some (.ref a.law)
  z_dict : mg "dict" = none
  z_int : mg "int" = none
  z_isinstance : mg "isinstance" = none
  z_len : mg "len" = none
  z_list : mg "list" = none
  z_max : mg "max" = none
  z_range : mg "range" = none
  z_str : mg "str" = none
  c_GAP : ∃ t, mg "GAP" = some (.str "." t)
  c_MOST_NAME : ∃ t, mg "MOST_NAME" = some (.int 12 t)
  c_MOST_ROWS : ∃ t, mg "MOST_ROWS" = some (.int 40 t)
  c_MOST_SIGNS : ∃ t, mg "MOST_SIGNS" = some (.int 60 t)
  c_SEAT : ∃ t, mg "SEAT" = some (.str "o" t)
  c_SIGNS : ∃ t, mg "SIGNS" = some (.str "abcdefghijklmnopqrstuvwxyz0123456789-" t)
  x_BadHall : Xc K mg "BadHall" a.C_BadHall
  x_BadLine : Xc K mg "BadLine" a.C_BadLine
  x_BadName : Xc K mg "BadName" a.C_BadName
  x_Known : Xc K mg "Known" a.C_Known
  x_NoSeat : Xc K mg "NoSeat" a.C_NoSeat
  x_Nothing : Xc K mg "Nothing" a.C_Nothing
  x_Taken : Xc K mg "Taken" a.C_Taken
  x_Unknown : Xc K mg "Unknown" a.C_Unknown
  g_NoSeat : mg "NoSeat" = some (.ref a.C_NoSeat)
  g_Nothing : mg "Nothing" = some (.ref a.C_Nothing)
  g_Taken : mg "Taken" = some (.ref a.C_Taken)
  xm_NoSeat_NoSeat : PySem.W.exmOne K (.ref a.C_NoSeat) (.ref a.C_NoSeat) = some true
  xm_NoSeat_Taken : PySem.W.exmOne K (.ref a.C_NoSeat) (.ref a.C_Taken) = some false
  xm_Nothing_Nothing : PySem.W.exmOne K (.ref a.C_Nothing) (.ref a.C_Nothing) = some true
  xm_Taken_NoSeat : PySem.W.exmOne K (.ref a.C_Taken) (.ref a.C_NoSeat) = some false
  xm_Taken_Taken : PySem.W.exmOne K (.ref a.C_Taken) (.ref a.C_Taken) = some true
  cl : Cls K a.C_Plan
  n_hall : NoAttr K a.C_Plan "hall"
  n_held : NoAttr K a.C_Plan "held"
  n_past : NoAttr K a.C_Plan "past"
  me_Plan_groups : Meth K a.C_Plan "groups" a.Plan_groups
  me_Plan_back : Meth K a.C_Plan "back" a.Plan_back
  me_Plan_need_group : Meth K a.C_Plan "need_group" a.Plan_need_group
  me_Plan_seats : Meth K a.C_Plan "seats" a.Plan_seats
  me_Plan_taken : Meth K a.C_Plan "taken" a.Plan_taken
  me_Plan_keep : Meth K a.C_Plan "keep" a.Plan_keep
  me_Plan_given : Meth K a.C_Plan "given" a.Plan_given
  me_Plan_shift : Meth K a.C_Plan "shift" a.Plan_shift
  me_Plan_free : Meth K a.C_Plan "free" a.Plan_free
  me_Plan_who : Meth K a.C_Plan "who" a.Plan_who
  me_Plan_leave : Meth K a.C_Plan "leave" a.Plan_leave
  mkP : Mk K a.C_Plan a.Plan___init__
  m_Plan : mg "Plan" = some (.ref a.C_Plan)
  isC : C8.InsC K a.C_Plan
section
variable {P : Program} {w : World} {K : PySem.W.Frag} {mg : Str → Option Value} {base : Heap} {a : Ad} {d : Fd}
theorem ok_law_row_by (T : Txt K mg a d) : FnOk P w K mg base (L2.CX P w) 1 a.law_row_by d.law_row_by ["_law_n"] (spOf (gm K a) 1 F_law_row_by) := by
  refine T.F_law_row_by.okX sc_law_row_by (fun vs H Q E h => h.1) (fun cdv A outer s H vs Q E hr h => ⟨wS (gm K a) (fun cls d _ H' => E cls d H') fb_law_row_by, ?_, fn_read (N := ["_law_n", "_law_many", "_law_gap", "_law_signs", "_law_place"]) (by decide) h⟩)
  have tk : Takes (cxOf (L2.CX P w) P w K mg base ["_law_n", "_law_many", "_law_gap", "_law_signs", "_law_place"] "_law_row_by" (defScope s_law_row_by) a.law_row_by cdv A outer s H E) (fun cls d _ H => E cls d H) := takes_of rfl rfl rfl rfl
  have hp := passes_of (X := cxOf (L2.CX P w) P w K mg base ["_law_n", "_law_many", "_law_gap", "_law_signs", "_law_place"] "_law_row_by" (defScope s_law_row_by) a.law_row_by cdv A outer s H E) rfl
  have hu := hr.units
  have hu0 := hr.units0
  have hu1 := hu_of hr
  have hu2 := hu2_of hr
  exact (ss_cons (s_asg sc_law_row_by.nd rfl (Or.inl rfl) (d_mod (d_mul (d_var 0) d_int) d_int)) (ss_cons (s_asg sc_law_row_by.nd rfl (Or.inl rfl) (d_mod (d_var 0) d_int)) (ss_cons (s_if (t_eq hu (d_mod (d_div (d_var 0) d_int) d_int) d_int) (ss_one (s_asg sc_law_row_by.nd rfl (Or.inl rfl) (d_sub d_int (d_mod (d_div (d_var 0) d_int) d_int)))) ss_nil) (ss_cons (s_asg sc_law_row_by.nd rfl (Or.inl rfl) (d_add d_int (d_mod (d_div (d_var 0) d_int) d_int))) (ss_cons (s_asg sc_law_row_by.nd rfl (Or.inl rfl) d_str) (ss_cons (s_forR1 hp rfl sc_law_row_by.nd rfl (Or.inl rfl) rfl T.z_range (d_var 1) (ss_one (s_if (PW.pt (d_or (PW.pt (d_and (t_gt (d_mod (d_div (d_var 0) d_int) d_int) d_int) (d_and1 (t_eq hu (d_mod (d_add (d_var 4) (d_div (d_var 0) d_int)) (d_var 2)) d_int)))) (d_or1 (t_eq hu (d_mod (d_mul (d_var 4) (d_var 4)) d_int) (d_mod (d_div (d_var 0) d_int) d_int))))) (ss_one (s_asg sc_law_row_by.nd rfl (Or.inl rfl) (d_add (d_var 3) d_str))) (ss_one (s_asg sc_law_row_by.nd rfl (Or.inl rfl) (d_add (d_var 3) d_str)))))) (ss_one (s_ret (d_var 3)))))))))

theorem ok_law_cell_at (T : Txt K mg a d) : FnOk P w K mg base (L2.CX P w) 1 a.law_cell_at d.law_cell_at ["_law_script", "_law_k"] (spOf (gm K a) 2 F_law_cell_at) := by
  refine T.F_law_cell_at.okX sc_law_cell_at (fun vs H Q E h => h.1) (fun cdv A outer s H vs Q E hr h => ⟨wS (gm K a) (fun cls d _ H' => E cls d H') fb_law_cell_at, ?_, fn_read (N := ["_law_script", "_law_k"]) (by decide) h⟩)
  have tk : Takes (cxOf (L2.CX P w) P w K mg base ["_law_script", "_law_k"] "_law_cell_at" (defScope s_law_cell_at) a.law_cell_at cdv A outer s H E) (fun cls d _ H => E cls d H) := takes_of rfl rfl rfl rfl
  have hp := passes_of (X := cxOf (L2.CX P w) P w K mg base ["_law_script", "_law_k"] "_law_cell_at" (defScope s_law_cell_at) a.law_cell_at cdv A outer s H E) rfl
  have hu := hr.units
  have hu0 := hr.units0
  have hu1 := hu_of hr
  have hu2 := hu2_of hr
  exact (ss_cons (s_if (t_lt hu0 (d_var 1) (d_len T.z_len (d_var 0))) (ss_one (s_ret (d_ix (d_var 0) (d_var 1)))) ss_nil) (ss_one (s_ret d_int)))

theorem ok_law_names_by (T : Txt K mg a d) : FnOk P w K mg base (L2.CX P w) 1 a.law_names_by d.law_names_by ["_law_n", "_law_many"] (spOf (gm K a) 2 F_law_names_by) := by
  refine T.F_law_names_by.okX sc_law_names_by (fun vs H Q E h => h.1) (fun cdv A outer s H vs Q E hr h => ⟨wS (gm K a) (fun cls d _ H' => E cls d H') fb_law_names_by, ?_, fn_read (N := ["_law_n", "_law_many", "_law_some", "_law_size", "_law_at", "_law_word", "_law_names", "_law_k", "_law_sign", "_law_back", "_law_j"]) (by decide) h⟩)
  have tk : Takes (cxOf (L2.CX P w) P w K mg base ["_law_n", "_law_many", "_law_some", "_law_size", "_law_at", "_law_word", "_law_names", "_law_k", "_law_sign", "_law_back", "_law_j"] "_law_names_by" (defScope s_law_names_by) a.law_names_by cdv A outer s H E) (fun cls d _ H => E cls d H) := takes_of rfl rfl rfl rfl
  have hp := passes_of (X := cxOf (L2.CX P w) P w K mg base ["_law_n", "_law_many", "_law_some", "_law_size", "_law_at", "_law_word", "_law_names", "_law_k", "_law_sign", "_law_back", "_law_j"] "_law_names_by" (defScope s_law_names_by) a.law_names_by cdv A outer s H E) rfl
  have hu := hr.units
  have hu0 := hr.units0
  have hu1 := hu_of hr
  have hu2 := hu2_of hr
  exact (ss_cons (s_asg sc_law_names_by.nd rfl (Or.inr rfl) d_str) (ss_cons (s_asg sc_law_names_by.nd rfl (Or.inl rfl) (d_add d_int (d_mod (d_div (d_var 0) d_int) d_int))) (ss_cons (s_asg sc_law_names_by.nd rfl (Or.inl rfl) (d_mod (d_div (d_var 0) d_int) (d_var 3))) (ss_cons (s_asgLcR1I rfl sc_law_names_by.nd rfl rfl (sw_true rfl rfl rfl (by decide +kernel)) rfl T.z_range d_int (blkOk_by (own := [("_law_j", 10)]) (N := ["_law_n", "_law_many", "_law_some", "_law_size", "_law_at", "_law_word", "_law_names", "_law_k", "_law_sign", "_law_back", "_law_j"]) (sc := defScope s_law_names_by) (by decide +kernel)) (fun _ _ _ _ _ => pg_name (i := 10) sc_law_names_by.nd rfl (Or.inl rfl)) (fun _ _ _ _ _ => d_if0) (fun _ _ _ _ _ => (d_ix (d_var 2) (d_mod (d_add (d_div (d_var 0) d_int) (d_mul d_int (d_var 10))) d_int)))) (ss_cons (s_asg sc_law_names_by.nd rfl (Or.inl rfl) (d_new (d_lst (pe_lst d_anil)))) (ss_cons (s_forR1 hp rfl sc_law_names_by.nd rfl (Or.inl rfl) rfl T.z_range (d_var 1) (ss_one (s_if (t_eq hu (d_mod (d_var 0) d_int) d_int) (ss_one (s_app (d_var 6) (d_join d_str (d_sl (d_var 5) d_ponone (d_posome (d_add d_int (d_mod (d_add (d_div (d_var 0) d_int) (d_var 7)) d_int))))) (pe_bm PySem.F.plainAttrs_list PySem.F.slot_list_append PySem.F.type_list_append mt_append (d_var 6) (pa_cons (d_join d_str (d_sl (d_var 5) d_ponone (d_posome (d_add d_int (d_mod (d_add (d_div (d_var 0) d_int) (d_var 7)) d_int))))) pa_nil)))) (ss_one (s_if (t_eq hu (d_mod (d_var 0) d_int) d_int) (ss_cons (s_asg sc_law_names_by.nd rfl (Or.inl rfl) (d_ix (d_var 2) (d_mod (d_add (d_div (d_var 0) d_int) (d_var 7)) d_int))) (ss_cons (s_asg sc_law_names_by.nd rfl (Or.inl rfl) (d_join d_str (d_sl (d_var 5) (d_posome (d_add (d_var 4) d_int)) (d_posome (d_var 3))))) (ss_one (s_app (d_var 6) (d_add (d_add (d_join d_str (d_sl (d_var 5) d_ponone (d_posome (d_var 4)))) (d_var 8)) (d_var 9)) (pe_bm PySem.F.plainAttrs_list PySem.F.slot_list_append PySem.F.type_list_append mt_append (d_var 6) (pa_cons (d_add (d_add (d_join d_str (d_sl (d_var 5) d_ponone (d_posome (d_var 4)))) (d_var 8)) (d_var 9)) pa_nil)))))) (ss_one (s_app (d_var 6) (d_join d_str (d_add (d_sl (d_var 5) (d_posome (d_var 7)) d_ponone) (d_sl (d_var 5) d_ponone (d_posome (d_var 7))))) (pe_bm PySem.F.plainAttrs_list PySem.F.slot_list_append PySem.F.type_list_append mt_append (d_var 6) (pa_cons (d_join d_str (d_add (d_sl (d_var 5) (d_posome (d_var 7)) d_ponone) (d_sl (d_var 5) d_ponone (d_posome (d_var 7))))) pa_nil))))))))) (ss_one (s_ret (d_var 6)))))))))

theorem ok_law_held_by (T : Txt K mg a d) : FnOk P w K mg base (L2.CX P w) 1 a.law_held_by d.law_held_by ["_law_rows", "_law_names", "_law_n"] (spOf (gm K a) 3 F_law_held_by) := by
  refine T.F_law_held_by.okX sc_law_held_by (fun vs H Q E h => h.1) (fun cdv A outer s H vs Q E hr h => ⟨wS (gm K a) (fun cls d _ H' => E cls d H') fb_law_held_by, ?_, fn_readR (N := ["_law_rows", "_law_names", "_law_n", "_law_held", "_law_at", "_law_row", "_law_place", "_law_who", "_law_turned", "_law_name"]) (by decide) h⟩)
  have tk : Takes (cxOf (L2.CX P w) P w K mg base ["_law_rows", "_law_names", "_law_n", "_law_held", "_law_at", "_law_row", "_law_place", "_law_who", "_law_turned", "_law_name"] "_law_held_by" (defScope s_law_held_by) a.law_held_by cdv A outer s H E) (fun cls d _ H => E cls d H) := takes_of rfl rfl rfl rfl
  have hp := passes_of (X := cxOf (L2.CX P w) P w K mg base ["_law_rows", "_law_names", "_law_n", "_law_held", "_law_at", "_law_row", "_law_place", "_law_who", "_law_turned", "_law_name"] "_law_held_by" (defScope s_law_held_by) a.law_held_by cdv A outer s H E) rfl
  have hu := hr.units
  have hu0 := hr.units0
  have hu1 := hu_of hr
  have hu2 := hu2_of hr
  exact (ss_cons (s_asg sc_law_held_by.nd rfl (Or.inl rfl) (d_mod (d_mul (d_var 2) d_int) d_int)) (ss_cons (s_asg sc_law_held_by.nd rfl (Or.inr rfl) (d_new d_dv)) (ss_cons (s_asg sc_law_held_by.nd rfl (Or.inl rfl) d_int) (ss_cons (s_forR1 hp rfl sc_law_held_by.nd rfl (Or.inl rfl) rfl T.z_range (d_len T.z_len (d_var 0)) (ss_one (s_forR1 hp rfl sc_law_held_by.nd rfl (Or.inl rfl) rfl T.z_range (d_len T.z_len (d_ix (d_var 0) (d_var 5))) (ss_one (s_if (t_eq hu (d_ix (d_ix (d_var 0) (d_var 5)) (d_var 6)) d_str) (ss_cons (s_asg sc_law_held_by.nd rfl (Or.inl rfl) (d_mod (d_mod (d_mul (d_add (d_var 2) (d_mul d_int (d_div (d_var 4) (d_add d_int (d_mod (d_var 2) d_int))))) d_int) d_int) (d_add d_int (d_mod (d_div (d_var 2) d_int) d_int)))) (ss_cons (s_if (t_lt hu0 (d_var 7) (d_len T.z_len (d_var 1))) (ss_one (s_app (d_setd' (d_var 3) (d_ix (d_var 1) (d_var 7)) ⟨rfl, rfl, rfl, rfl⟩) (d_tup (pe_tup (d_acons (d_var 5) (d_acons (d_var 6) d_anil)))) (pe_bm PySem.F.plainAttrs_list PySem.F.slot_list_append PySem.F.type_list_append mt_append (d_setd' (d_var 3) (d_ix (d_var 1) (d_var 7)) ⟨rfl, rfl, rfl, rfl⟩) (pa_cons (d_tup (pe_tup (d_acons (d_var 5) (d_acons (d_var 6) d_anil)))) pa_nil)))) ss_nil) (ss_one (s_asg sc_law_held_by.nd rfl (Or.inl rfl) (d_add (d_var 4) d_int))))) ss_nil))))) (ss_thaw (ss_cons (s_asg sc_law_held_by.nd rfl (Or.inl rfl) (d_add (d_sl (d_var 1) (d_posome (d_mod (d_var 2) (d_max2 rfl T.z_max d_int (d_len T.z_len (d_var 1))))) d_ponone) (d_var 1))) (ss_one (s_ret (d_new (d_dictP rfl rfl T.z_dict (d_imm (d_lcL rfl sc_law_held_by.nd (d_var 8) (blkOk_by (own := [("_law_name", 9)]) (N := ["_law_rows", "_law_names", "_law_n", "_law_held", "_law_at", "_law_row", "_law_place", "_law_who", "_law_turned", "_law_name"]) (sc := defScope s_law_held_by) (by decide +kernel)) (fun _ _ _ _ _ => pg_name (i := 9) sc_law_held_by.nd rfl (Or.inl rfl)) (fun _ _ _ _ _ => d_if1 (t_in hu1 (d_var 9) (d_var 3))) (fun _ _ _ _ _ => (d_tup (pe_tup (d_acons (d_var 9) (d_acons (d_dget hu1 (d_var 3) (d_var 9)) d_anil)))))))))))))))))

theorem ok_need_row (T : Txt K mg a d) : FnOk P w K mg base (L2.CX P w) 1 a.need_row d.need_row ["row"] (spOf (gm K a) 1 F_need_row) := by
  refine T.F_need_row.okX sc_need_row (fun vs H Q E h => h.1) (fun cdv A outer s H vs Q E hr h => ⟨wS (gm K a) (fun cls d _ H' => E cls d H') fb_need_row, ?_, fn_read (N := ["row", "sign"]) (by decide) h⟩)
  have tk : Takes (cxOf (L2.CX P w) P w K mg base ["row", "sign"] "need_row" (defScope s_need_row) a.need_row cdv A outer s H E) (fun cls d _ H => E cls d H) := takes_of rfl rfl rfl rfl
  have hp := passes_of (X := cxOf (L2.CX P w) P w K mg base ["row", "sign"] "need_row" (defScope s_need_row) a.need_row cdv A outer s H E) rfl
  have hu := hr.units
  have hu0 := hr.units0
  have hu1 := hu_of hr
  have hu2 := hu2_of hr
  exact (ss_cons (s_if (PW.pt (d_or (d_not (d_test (d_isi kn_str T.z_isinstance (d_var 0) (d_tyName T.z_str PyProof.Rows.boot_str)))) (d_or1 (t_gt (d_len T.z_len (d_var 0)) (d_globI rfl T.c_MOST_SIGNS.choose_spec ⟨_, rfl⟩))))) (ss_one (s_raise rfl tk rfl (pmk_own PySem.F.excBase_ValueError T.x_BadHall.q T.x_BadHall.g T.x_BadHall.k (raises_own T.x_BadHall.b T.x_BadHall.t) rfl))) ss_nil) (ss_one (s_forS hp rfl sc_need_row.nd rfl (Or.inl rfl) (d_var 0) (ss_one (s_if (PW.pt (d_and (t_ne hu (d_var 1) (d_globS rfl T.c_SEAT.choose_spec ⟨_, rfl⟩)) (d_and1 (t_ne hu (d_var 1) (d_globS rfl T.c_GAP.choose_spec ⟨_, rfl⟩))))) (ss_one (s_raise rfl tk rfl (pmk_own PySem.F.excBase_ValueError T.x_BadHall.q T.x_BadHall.g T.x_BadHall.k (raises_own T.x_BadHall.b T.x_BadHall.t) rfl))) ss_nil)))))

theorem ok_need_hall (T : Txt K mg a d) : FnOk P w K mg base (L2.CX P w) 2 a.need_hall d.need_hall ["rows"] (spOf (gm K a) 1 F_need_hall) := by
  refine T.F_need_hall.okX sc_need_hall (fun vs H Q E h => h.1) (fun cdv A outer s H vs Q E hr h => ⟨wS (gm K a) (fun cls d _ H' => E cls d H') fb_need_hall, ?_, fn_read (N := ["rows", "row"]) (by decide) h⟩)
  have tk : Takes (cxOf (L2.CX P w) P w K mg base ["rows", "row"] "need_hall" (defScope s_need_hall) a.need_hall cdv A outer s H E) (fun cls d _ H => E cls d H) := takes_of rfl rfl rfl rfl
  have hp := passes_of (X := cxOf (L2.CX P w) P w K mg base ["rows", "row"] "need_hall" (defScope s_need_hall) a.need_hall cdv A outer s H E) rfl
  have hu := hr.units
  have hu0 := hr.units0
  have hu1 := hu_of hr
  have hu2 := hu2_of hr
  exact (ss_cons (s_if (PW.pt (d_or (d_not (d_test (d_isi kn_list T.z_isinstance (d_var 0) (d_tyName T.z_list PyProof.Rows.boot_list)))) (d_or1 (d_not (d_tchain op_le op_le (pr_cmp _) (pr_cmp _) d_int (d_len T.z_len (d_var 0)) (d_globI rfl T.c_MOST_ROWS.choose_spec ⟨_, rfl⟩)))))) (ss_one (s_raise rfl tk rfl (pmk_own PySem.F.excBase_ValueError T.x_BadHall.q T.x_BadHall.g T.x_BadHall.k (raises_own T.x_BadHall.b T.x_BadHall.t) rfl))) ss_nil) (ss_cons (s_forL hp rfl sc_need_hall.nd rfl (Or.inl rfl) (d_var 0) (ss_one (s_drop (d_call (ok_need_row T) hr T.m_need_row T.F_need_row.kp T.b_need_row tk (d_acons (d_var 1) d_anil) (acons_len anil_len))))) (ss_one (s_ret (d_imm (d_list rfl T.z_list (d_var 0)))))))

theorem ok_Plan___init__ (T : Txt K mg a d) : FnOk P w K mg base (L2.CX P w) 3 a.Plan___init__ d.Plan___init__ ["self", "rows"] (spOf (gm K a) 2 F_Plan___init__) := by
  refine T.F_Plan___init__.okX sc_Plan___init__ (fun vs H Q E h => h.1) (fun cdv A outer s H vs Q E hr h => ⟨wS (gm K a) (fun cls d _ H' => E cls d H') fb_Plan___init__, ?_, fn_readR (N := ["self", "rows"]) (by decide) h⟩)
  have tk : Takes (cxOf (L2.CX P w) P w K mg base ["self", "rows"] "Plan.__init__" (defScope s_Plan___init__) a.Plan___init__ cdv A outer s H E) (fun cls d _ H => E cls d H) := takes_of rfl rfl rfl rfl
  have hp := passes_of (X := cxOf (L2.CX P w) P w K mg base ["self", "rows"] "Plan.__init__" (defScope s_Plan___init__) a.Plan___init__ cdv A outer s H E) rfl
  have hu := hr.units
  have hu0 := hr.units0
  have hu1 := hu_of hr
  have hu2 := hu2_of hr
  exact (ss_cons (s_fld T.cl T.n_hall (d_var 0) (d_call (ok_need_hall T) hr T.m_need_hall T.F_need_hall.kp T.b_need_hall tk (d_acons (d_var 1) d_anil) (acons_len anil_len))) (ss_cons (s_fld T.cl T.n_held (d_var 0) (d_imm d_dk)) (ss_one (s_fld T.cl T.n_past (d_var 0) (d_new (d_lst (pe_lst d_anil)))))))

theorem ok_number_of (T : Txt K mg a d) : FnOk P w K mg base (L2.CX P w) 1 a.number_of d.number_of ["word"] (spOf (gm K a) 1 F_number_of) := by
  refine T.F_number_of.okX sc_number_of (fun vs H Q E h => h.1) (fun cdv A outer s H vs Q E hr h => ⟨wS (gm K a) (fun cls d _ H' => E cls d H') fb_number_of, ?_, fn_read (N := ["word", "sign"]) (by decide) h⟩)
  have tk : Takes (cxOf (L2.CX P w) P w K mg base ["word", "sign"] "number_of" (defScope s_number_of) a.number_of cdv A outer s H E) (fun cls d _ H => E cls d H) := takes_of rfl rfl rfl rfl
  have hp := passes_of (X := cxOf (L2.CX P w) P w K mg base ["word", "sign"] "number_of" (defScope s_number_of) a.number_of cdv A outer s H E) rfl
  have hu := hr.units
  have hu0 := hr.units0
  have hu1 := hu_of hr
  have hu2 := hu2_of hr
  exact (ss_cons (s_if (d_not (d_tchain op_le op_le (pr_cmp _) (pr_cmp _) d_int (d_len T.z_len (d_var 0)) d_int)) (ss_one (s_raise rfl tk rfl (pmk_own PySem.F.excBase_ValueError T.x_BadLine.q T.x_BadLine.g T.x_BadLine.k (raises_own T.x_BadLine.b T.x_BadLine.t) rfl))) ss_nil) (ss_cons (s_forS hp rfl sc_number_of.nd rfl (Or.inl rfl) (d_var 0) (ss_one (s_if (t_notInS (d_var 1) d_str) (ss_one (s_raise rfl tk rfl (pmk_own PySem.F.excBase_ValueError T.x_BadLine.q T.x_BadLine.g T.x_BadLine.k (raises_own T.x_BadLine.b T.x_BadLine.t) rfl))) ss_nil))) (ss_cons (s_if (PW.pt (d_and (t_eq hu (d_len T.z_len (d_var 0)) d_int) (d_and1 (t_eq hu (d_ix (d_var 0) d_int) d_str)))) (ss_one (s_raise rfl tk rfl (pmk_own PySem.F.excBase_ValueError T.x_BadLine.q T.x_BadLine.g T.x_BadLine.k (raises_own T.x_BadLine.b T.x_BadLine.t) rfl))) ss_nil) (ss_one (s_ret (d_int1 T.z_int (d_var 0)))))))

theorem ok_spot_of (T : Txt K mg a d) : FnOk P w K mg base (L2.CX P w) 2 a.spot_of d.spot_of ["word"] (spOf (gm K a) 1 F_spot_of) := by
  refine T.F_spot_of.okX sc_spot_of (fun vs H Q E h => h.1) (fun cdv A outer s H vs Q E hr h => ⟨wS (gm K a) (fun cls d _ H' => E cls d H') fb_spot_of, ?_, fn_read (N := ["word", "parts"]) (by decide) h⟩)
  have tk : Takes (cxOf (L2.CX P w) P w K mg base ["word", "parts"] "spot_of" (defScope s_spot_of) a.spot_of cdv A outer s H E) (fun cls d _ H => E cls d H) := takes_of rfl rfl rfl rfl
  have hp := passes_of (X := cxOf (L2.CX P w) P w K mg base ["word", "parts"] "spot_of" (defScope s_spot_of) a.spot_of cdv A outer s H E) rfl
  have hu := hr.units
  have hu0 := hr.units0
  have hu1 := hu_of hr
  have hu2 := hu2_of hr
  exact (ss_cons (s_asg sc_spot_of.nd rfl (Or.inl rfl) (d_imm (d_split (d_var 0) d_str))) (ss_cons (s_if (t_ne hu (d_len T.z_len (d_var 1)) d_int) (ss_one (s_raise rfl tk rfl (pmk_own PySem.F.excBase_ValueError T.x_BadLine.q T.x_BadLine.g T.x_BadLine.k (raises_own T.x_BadLine.b T.x_BadLine.t) rfl))) ss_nil) (ss_one (s_ret (d_tup (pe_tup (d_acons (d_call (ok_number_of T) hr T.m_number_of T.F_number_of.kp T.b_number_of tk (d_acons (d_ix (d_var 1) d_int) d_anil) (acons_len anil_len)) (d_acons (d_call (ok_number_of T) hr T.m_number_of T.F_number_of.kp T.b_number_of tk (d_acons (d_ix (d_var 1) d_int) d_anil) (acons_len anil_len)) d_anil))))))))

theorem ok_parted (T : Txt K mg a d) : FnOk P w K mg base (L2.CX P w) 3 a.parted d.parted ["line"] (spOf (gm K a) 1 F_parted) := by
  refine T.F_parted.okX sc_parted (fun vs H Q E h => h.1) (fun cdv A outer s H vs Q E hr h => ⟨wS (gm K a) (fun cls d _ H' => E cls d H') fb_parted, ?_, fn_read (N := ["line", "parts", "spots", "k", "word"]) (by decide) h⟩)
  have tk : Takes (cxOf (L2.CX P w) P w K mg base ["line", "parts", "spots", "k", "word"] "parted" (defScope s_parted) a.parted cdv A outer s H E) (fun cls d _ H => E cls d H) := takes_of rfl rfl rfl rfl
  have hp := passes_of (X := cxOf (L2.CX P w) P w K mg base ["line", "parts", "spots", "k", "word"] "parted" (defScope s_parted) a.parted cdv A outer s H E) rfl
  have hu := hr.units
  have hu0 := hr.units0
  have hu1 := hu_of hr
  have hu2 := hu2_of hr
  exact (ss_cons (s_asg sc_parted.nd rfl (Or.inl rfl) (d_imm (d_split (d_var 0) d_str))) (ss_cons (s_if (t_ne hu (d_len T.z_len (d_var 1)) d_int) (ss_one (s_raise rfl tk rfl (pmk_own PySem.F.excBase_ValueError T.x_BadLine.q T.x_BadLine.g T.x_BadLine.k (raises_own T.x_BadLine.b T.x_BadLine.t) rfl))) ss_nil) (ss_cons (s_asgLcLI rfl sc_parted.nd rfl rfl (sw_true rfl rfl rfl (by decide +kernel)) (d_imm (d_split (d_ix (d_var 1) d_int) d_str)) (blkOk_by (own := [("word", 4)]) (N := ["line", "parts", "spots", "k", "word"]) (sc := defScope s_parted) (by decide +kernel)) (fun _ _ _ _ _ => pg_name (i := 4) sc_parted.nd rfl (Or.inl rfl)) (fun _ _ _ _ _ => d_if0) (fun _ _ _ _ _ => (d_call (ok_spot_of T) hr T.m_spot_of T.F_spot_of.kp T.b_spot_of takes0 (d_acons (d_var 4) d_anil) (acons_len anil_len)))) (ss_cons (s_forR2 hp rfl sc_parted.nd rfl (Or.inl rfl) rfl T.z_range d_int (d_len T.z_len (d_var 2)) (ss_one (s_if (d_not (t_lt hu0 (d_ix (d_var 2) (d_sub (d_var 3) d_int)) (d_ix (d_var 2) (d_var 3)))) (ss_one (s_raise rfl tk rfl (pmk_own PySem.F.excBase_ValueError T.x_BadLine.q T.x_BadLine.g T.x_BadLine.k (raises_own T.x_BadLine.b T.x_BadLine.t) rfl))) ss_nil))) (ss_one (s_ret (d_tup (pe_tup (d_acons (d_ix (d_var 1) d_int) (d_acons (d_var 2) d_anil))))))))))

theorem ok_need_name (T : Txt K mg a d) : FnOk P w K mg base (L2.CX P w) 1 a.need_name d.need_name ["name"] (spOf (gm K a) 1 F_need_name) := by
  refine T.F_need_name.okX sc_need_name (fun vs H Q E h => h.1) (fun cdv A outer s H vs Q E hr h => ⟨wS (gm K a) (fun cls d _ H' => E cls d H') fb_need_name, ?_, fn_read (N := ["name", "sign"]) (by decide) h⟩)
  have tk : Takes (cxOf (L2.CX P w) P w K mg base ["name", "sign"] "need_name" (defScope s_need_name) a.need_name cdv A outer s H E) (fun cls d _ H => E cls d H) := takes_of rfl rfl rfl rfl
  have hp := passes_of (X := cxOf (L2.CX P w) P w K mg base ["name", "sign"] "need_name" (defScope s_need_name) a.need_name cdv A outer s H E) rfl
  have hu := hr.units
  have hu0 := hr.units0
  have hu1 := hu_of hr
  have hu2 := hu2_of hr
  exact (ss_cons (s_if (PW.pt (d_or (d_not (d_test (d_isi kn_str T.z_isinstance (d_var 0) (d_tyName T.z_str PyProof.Rows.boot_str)))) (d_or1 (d_not (d_tchain op_le op_le (pr_cmp _) (pr_cmp _) d_int (d_len T.z_len (d_var 0)) (d_globI rfl T.c_MOST_NAME.choose_spec ⟨_, rfl⟩)))))) (ss_one (s_raise rfl tk rfl (pmk_own PySem.F.excBase_ValueError T.x_BadName.q T.x_BadName.g T.x_BadName.k (raises_own T.x_BadName.b T.x_BadName.t) rfl))) ss_nil) (ss_one (s_forS hp rfl sc_need_name.nd rfl (Or.inl rfl) (d_var 0) (ss_one (s_if (t_notInS (d_var 1) (d_globS rfl T.c_SIGNS.choose_spec ⟨_, rfl⟩)) (ss_one (s_raise rfl tk rfl (pmk_own PySem.F.excBase_ValueError T.x_BadName.q T.x_BadName.g T.x_BadName.k (raises_own T.x_BadName.b T.x_BadName.t) rfl))) ss_nil)))))

theorem ok_is_seat (T : Txt K mg a d) : FnOk P w K mg base (L2.CX P w) 1 a.is_seat d.is_seat ["rows", "row", "place"] (spOf (gm K a) 3 F_is_seat) := by
  refine T.F_is_seat.okX sc_is_seat (fun vs H Q E h => h.1) (fun cdv A outer s H vs Q E hr h => ⟨wS (gm K a) (fun cls d _ H' => E cls d H') fb_is_seat, ?_, fn_read (N := ["rows", "row", "place"]) (by decide) h⟩)
  have tk : Takes (cxOf (L2.CX P w) P w K mg base ["rows", "row", "place"] "is_seat" (defScope s_is_seat) a.is_seat cdv A outer s H E) (fun cls d _ H => E cls d H) := takes_of rfl rfl rfl rfl
  have hp := passes_of (X := cxOf (L2.CX P w) P w K mg base ["rows", "row", "place"] "is_seat" (defScope s_is_seat) a.is_seat cdv A outer s H E) rfl
  have hu := hr.units
  have hu0 := hr.units0
  have hu1 := hu_of hr
  have hu2 := hu2_of hr
  exact (ss_cons (s_if (PW.pt (d_or (d_not (d_tchain op_le op_lt (pr_cmp _) (pr_cmp _) d_int (d_var 1) (d_len T.z_len (d_var 0)))) (d_or1 (d_not (d_tchain op_le op_lt (pr_cmp _) (pr_cmp _) d_int (d_var 2) (d_len T.z_len (d_ix (d_var 0) (d_var 1)))))))) (ss_one (s_ret d_bl)) ss_nil) (ss_one (s_ret (d_eq hu (d_ix (d_ix (d_var 0) (d_var 1)) (d_var 2)) (d_globS rfl T.c_SEAT.choose_spec ⟨_, rfl⟩)))))

theorem ok_read (T : Txt K mg a d) : FnOk P w K mg base (L2.CX P w) 5 a.read d.read ["rows", "lines"] (spOf (gm K a) 2 F_read) := by
  refine T.F_read.okX sc_read (fun vs H Q E h => h.1) (fun cdv A outer s H vs Q E hr h => ⟨wS (gm K a) (fun cls d _ H' => E cls d H') fb_read, ?_, fn_readR (N := ["rows", "lines", "plan", "held", "taken", "line", "pair", "spot"]) (by decide) h⟩)
  have tk : Takes (cxOf (L2.CX P w) P w K mg base ["rows", "lines", "plan", "held", "taken", "line", "pair", "spot"] "read" (defScope s_read) a.read cdv A outer s H E) (fun cls d _ H => E cls d H) := takes_of rfl rfl rfl rfl
  have hp := passes_of (X := cxOf (L2.CX P w) P w K mg base ["rows", "lines", "plan", "held", "taken", "line", "pair", "spot"] "read" (defScope s_read) a.read cdv A outer s H E) rfl
  have hu := hr.units
  have hu0 := hr.units0
  have hu1 := hu_of hr
  have hu2 := hu2_of hr
  exact (ss_cons (s_asg sc_read.nd rfl (Or.inl rfl) (d_make T.mkP (ok_Plan___init__ T) hr T.m_Plan T.b_Plan___init__ tk (d_acons (d_var 0) d_anil) (succ_len (acons_len anil_len)))) (ss_cons (s_asg sc_read.nd rfl (Or.inl rfl) (d_new d_dk)) (ss_cons (s_asg sc_read.nd rfl (Or.inl rfl) (d_new d_dt)) (ss_cons (s_forL hp rfl sc_read.nd rfl (Or.inl rfl) (d_var 1) (ss_cons (s_asg sc_read.nd rfl (Or.inl rfl) (d_call (ok_parted T) (hr.mono (by decide)) T.m_parted T.F_parted.kp T.b_parted tk (d_acons (d_var 5) d_anil) (acons_len anil_len))) (ss_cons (s_drop (d_call (ok_need_name T) (hr.mono (by decide)) T.m_need_name T.F_need_name.kp T.b_need_name tk (d_acons (d_ix (d_var 6) d_int) d_anil) (acons_len anil_len))) (ss_cons (s_if (t_in hu1 (d_ix (d_var 6) d_int) (d_var 3)) (ss_one (s_raise rfl tk rfl (pmk_own PySem.F.excBase_ValueError T.x_Known.q T.x_Known.g T.x_Known.k (raises_own T.x_Known.b T.x_Known.t) rfl))) ss_nil) (ss_cons (s_forL hp rfl sc_read.nd rfl (Or.inl rfl) (d_ix (d_var 6) d_int) (ss_cons (s_if (d_not (d_test (d_call (ok_is_seat T) (hr.mono (by decide)) T.m_is_seat T.F_is_seat.kp T.b_is_seat tk (d_acons (d_fld T.cl T.n_hall (d_var 2)) (d_acons (d_ix (d_var 7) d_int) (d_acons (d_ix (d_var 7) d_int) d_anil))) (acons_len (acons_len (acons_len anil_len)))))) (ss_one (s_raise rfl tk rfl (pmk_own PySem.F.excBase_ValueError T.x_NoSeat.q T.x_NoSeat.g T.x_NoSeat.k (raises_own T.x_NoSeat.b T.x_NoSeat.t) rfl))) ss_nil) (ss_one (s_if (t_in hu1 (d_var 7) (d_var 4)) (ss_one (s_raise rfl tk rfl (pmk_own PySem.F.excBase_ValueError T.x_Taken.q T.x_Taken.g T.x_Taken.k (raises_own T.x_Taken.b T.x_Taken.t) rfl))) ss_nil)))) (ss_cons (s_forL hp rfl sc_read.nd rfl (Or.inl rfl) (d_ix (d_var 6) d_int) (ss_one (s_dput hu1 (d_var 4) (d_var 7) d_bl))) (ss_one (s_dput hu1 (d_var 3) (d_ix (d_var 6) d_int) (d_ix (d_var 6) d_int))))))))) (ss_cons (s_fld T.cl T.n_held (d_var 2) (d_frz (d_var 3))) (ss_one (s_ret (d_var 2))))))))

theorem ok_law_lines (T : Txt K mg a d) : FnOk P w K mg base (L2.CX P w) 1 a.law_lines d.law_lines ["_law_held"] (spOf (gm K a) 1 F_law_lines) := by
  refine T.F_law_lines.okX sc_law_lines (fun vs H Q E h => h.1) (fun cdv A outer s H vs Q E hr h => ⟨wS (gm K a) (fun cls d _ H' => E cls d H') fb_law_lines, ?_, fn_read (N := ["_law_held", "_law_lines_here", "_law_name", "_law_spot"]) (by decide) h⟩)
  have tk : Takes (cxOf (L2.CX P w) P w K mg base ["_law_held", "_law_lines_here", "_law_name", "_law_spot"] "_law_lines" (defScope s_law_lines) a.law_lines cdv A outer s H E) (fun cls d _ H => E cls d H) := takes_of rfl rfl rfl rfl
  have hp := passes_of (X := cxOf (L2.CX P w) P w K mg base ["_law_held", "_law_lines_here", "_law_name", "_law_spot"] "_law_lines" (defScope s_law_lines) a.law_lines cdv A outer s H E) rfl
  have hu := hr.units
  have hu0 := hr.units0
  have hu1 := hu_of hr
  have hu2 := hu2_of hr
  exact (ss_cons (s_asg sc_law_lines.nd rfl (Or.inl rfl) (d_new (d_lst (pe_lst d_anil)))) (ss_cons (s_forL hp rfl sc_law_lines.nd rfl (Or.inl rfl) (d_imm (d_list rfl T.z_list (d_var 0))) (ss_one (s_app (d_var 1) (d_add (d_add (d_var 2) d_str) (d_join d_str (d_imm (d_lcL rfl sc_law_lines.nd (d_dget hu1 (d_var 0) (d_var 2)) (blkOk_by (own := [("_law_spot", 3)]) (N := ["_law_held", "_law_lines_here", "_law_name", "_law_spot"]) (sc := defScope s_law_lines) (by decide +kernel)) (fun _ _ _ _ _ => pg_name (i := 3) sc_law_lines.nd rfl (Or.inl rfl)) (fun _ _ _ _ _ => d_if0) (fun _ _ _ _ _ => (d_add (d_add (d_str1 T.z_str (d_ix (d_var 3) d_int)) d_str) (d_str1 T.z_str (d_ix (d_var 3) d_int)))))))) (pe_bm PySem.F.plainAttrs_list PySem.F.slot_list_append PySem.F.type_list_append mt_append (d_var 1) (pa_cons (d_add (d_add (d_var 2) d_str) (d_join d_str (d_imm (d_lcL rfl sc_law_lines.nd (d_dget hu1 (d_var 0) (d_var 2)) (blkOk_by (own := [("_law_spot", 3)]) (N := ["_law_held", "_law_lines_here", "_law_name", "_law_spot"]) (sc := defScope s_law_lines) (by decide +kernel)) (fun _ _ _ _ _ => pg_name (i := 3) sc_law_lines.nd rfl (Or.inl rfl)) (fun _ _ _ _ _ => d_if0) (fun _ _ _ _ _ => (d_add (d_add (d_str1 T.z_str (d_ix (d_var 3) d_int)) d_str) (d_str1 T.z_str (d_ix (d_var 3) d_int)))))))) pa_nil))))) (ss_one (s_ret (d_var 1)))))

theorem ok_Plan_groups (T : Txt K mg a d) : FnOk P w K mg base (L2.CX P w) 1 a.Plan_groups d.Plan_groups ["self"] (spOf (gm K a) 1 F_Plan_groups) := by
  refine T.F_Plan_groups.okX sc_Plan_groups (fun vs H Q E h => h.1) (fun cdv A outer s H vs Q E hr h => ⟨wS (gm K a) (fun cls d _ H' => E cls d H') fb_Plan_groups, ?_, fn_read (N := ["self"]) (by decide) h⟩)
  have tk : Takes (cxOf (L2.CX P w) P w K mg base ["self"] "Plan.groups" (defScope s_Plan_groups) a.Plan_groups cdv A outer s H E) (fun cls d _ H => E cls d H) := takes_of rfl rfl rfl rfl
  have hp := passes_of (X := cxOf (L2.CX P w) P w K mg base ["self"] "Plan.groups" (defScope s_Plan_groups) a.Plan_groups cdv A outer s H E) rfl
  have hu := hr.units
  have hu0 := hr.units0
  have hu1 := hu_of hr
  have hu2 := hu2_of hr
  exact (ss_one (s_ret (d_imm (d_list rfl T.z_list (d_fld T.cl T.n_held (d_var 0))))))

theorem ok_Plan_back (T : Txt K mg a d) : FnOk P w K mg base (L2.CX P w) 1 a.Plan_back d.Plan_back ["self"] (spOf (gm K a) 1 F_Plan_back) := by
  refine T.F_Plan_back.okX sc_Plan_back (fun vs H Q E h => h.1) (fun cdv A outer s H vs Q E hr h => ⟨wS (gm K a) (fun cls d _ H' => E cls d H') fb_Plan_back, ?_, fn_read (N := ["self"]) (by decide) h⟩)
  have tk : Takes (cxOf (L2.CX P w) P w K mg base ["self"] "Plan.back" (defScope s_Plan_back) a.Plan_back cdv A outer s H E) (fun cls d _ H => E cls d H) := takes_of rfl rfl rfl rfl
  have hp := passes_of (X := cxOf (L2.CX P w) P w K mg base ["self"] "Plan.back" (defScope s_Plan_back) a.Plan_back cdv A outer s H E) rfl
  have hu := hr.units
  have hu0 := hr.units0
  have hu1 := hu_of hr
  have hu2 := hu2_of hr
  exact (ss_cons (s_if (t_eq hu (d_len T.z_len (d_fld T.cl T.n_past (d_var 0))) d_int) (ss_one (s_raise rfl tk rfl (pmk_own PySem.F.excBase_ValueError T.x_Nothing.q T.x_Nothing.g T.x_Nothing.k (raises_own T.x_Nothing.b T.x_Nothing.t) rfl))) ss_nil) (ss_one (s_fld T.cl T.n_held (d_var 0) (d_pop (d_fld T.cl T.n_past (d_var 0)) (pe_bm0 PySem.F.plainAttrs_list PySem.F.slot_list_pop PySem.F.type_list_pop mt_pop (d_fld T.cl T.n_past (d_var 0)))))))

theorem ok_law_nothing (T : Txt K mg a d) : FnOk P w K mg base (L2.CX P w) 2 a.law_nothing d.law_nothing ["_law_plan"] (spOf (gm K a) 1 F_law_nothing) := by
  refine T.F_law_nothing.okX sc_law_nothing (fun vs H Q E h => h.1) (fun cdv A outer s H vs Q E hr h => ⟨wS (gm K a) (fun cls d _ H' => E cls d H') fb_law_nothing, ?_, fn_read (N := ["_law_plan"]) (by decide) h⟩)
  have tk : Takes (cxOf (L2.CX P w) P w K mg base ["_law_plan"] "_law_nothing" (defScope s_law_nothing) a.law_nothing cdv A outer s H E) (fun cls d _ H => E cls d H) := takes_of rfl rfl rfl rfl
  have hp := passes_of (X := cxOf (L2.CX P w) P w K mg base ["_law_plan"] "_law_nothing" (defScope s_law_nothing) a.law_nothing cdv A outer s H E) rfl
  have hu := hr.units
  have hu0 := hr.units0
  have hu1 := hu_of hr
  have hu2 := hu2_of hr
  exact (ss_cons (s_try (U := [.nothing]) rfl rfl tk (fun W2 pn xe tk2 hp => (ss_one (s_drop (d_meth0 T.cl T.me_Plan_back (ok_Plan_back T) hr T.b_Plan_back tk2 (d_var 0))))) (HdsOk.cons ⟨rfl, by decide, Or.inl T.g_Nothing⟩ (fun _ _ _ _ _ _ _ => (ss_one (s_ret d_bl))) HdsOk.nil) (HdR.cons (by simp only [List.forall_mem_cons]; exact ⟨T.xm_Nothing_Nothing, fun _ h => nomatch h⟩) HdR.nil) (by simp only [List.forall_mem_cons]; exact ⟨quiet_c1 _, fun _ h => nomatch h⟩)) (ss_one (s_ret d_bl)))

theorem ok_law_taken (T : Txt K mg a d) : FnOk P w K mg base (L2.CX P w) 1 a.law_taken d.law_taken ["_law_held"] (spOf (gm K a) 1 F_law_taken) := by
  refine T.F_law_taken.okX sc_law_taken (fun vs H Q E h => h.1) (fun cdv A outer s H vs Q E hr h => ⟨wS (gm K a) (fun cls d _ H' => E cls d H') fb_law_taken, ?_, fn_read (N := ["_law_held", "_law_taken_here", "_law_name", "_law_spot"]) (by decide) h⟩)
  have tk : Takes (cxOf (L2.CX P w) P w K mg base ["_law_held", "_law_taken_here", "_law_name", "_law_spot"] "_law_taken" (defScope s_law_taken) a.law_taken cdv A outer s H E) (fun cls d _ H => E cls d H) := takes_of rfl rfl rfl rfl
  have hp := passes_of (X := cxOf (L2.CX P w) P w K mg base ["_law_held", "_law_taken_here", "_law_name", "_law_spot"] "_law_taken" (defScope s_law_taken) a.law_taken cdv A outer s H E) rfl
  have hu := hr.units
  have hu0 := hr.units0
  have hu1 := hu_of hr
  have hu2 := hu2_of hr
  exact (ss_cons (s_asg sc_law_taken.nd rfl (Or.inl rfl) (d_new d_dt)) (ss_cons (s_forL hp rfl sc_law_taken.nd rfl (Or.inl rfl) (d_imm (d_list rfl T.z_list (d_var 0))) (ss_one (s_forL hp rfl sc_law_taken.nd rfl (Or.inl rfl) (d_dget hu1 (d_var 0) (d_var 2)) (ss_one (s_dput hu1 (d_var 1) (d_var 3) (d_var 2)))))) (ss_one (s_ret (d_var 1)))))

theorem ok_law_due (T : Txt K mg a d) : FnOk P w K mg base (L2.CX P w) 2 a.law_due d.law_due ["_law_rows", "_law_held", "_law_name", "_law_row", "_law_first"] (spOf (gm K a) 5 F_law_due) := by
  refine T.F_law_due.okX sc_law_due (fun vs H Q E h => h.1) (fun cdv A outer s H vs Q E hr h => ⟨wS (gm K a) (fun cls d _ H' => E cls d H') fb_law_due, ?_, fn_read (N := ["_law_rows", "_law_held", "_law_name", "_law_row", "_law_first", "_law_taken_here", "_law_due_here", "_law_k", "_law_spot"]) (by decide) h⟩)
  have tk : Takes (cxOf (L2.CX P w) P w K mg base ["_law_rows", "_law_held", "_law_name", "_law_row", "_law_first", "_law_taken_here", "_law_due_here", "_law_k", "_law_spot"] "_law_due" (defScope s_law_due) a.law_due cdv A outer s H E) (fun cls d _ H => E cls d H) := takes_of rfl rfl rfl rfl
  have hp := passes_of (X := cxOf (L2.CX P w) P w K mg base ["_law_rows", "_law_held", "_law_name", "_law_row", "_law_first", "_law_taken_here", "_law_due_here", "_law_k", "_law_spot"] "_law_due" (defScope s_law_due) a.law_due cdv A outer s H E) rfl
  have hu := hr.units
  have hu0 := hr.units0
  have hu1 := hu_of hr
  have hu2 := hu2_of hr
  exact (ss_cons (s_asg sc_law_due.nd rfl (Or.inr rfl) (d_call (ok_law_taken T) hr T.m_law_taken T.F_law_taken.kp T.b_law_taken tk (d_acons (d_var 1) d_anil) (acons_len anil_len))) (ss_cons (s_asgLcR1I rfl sc_law_due.nd rfl rfl (sw_true rfl rfl rfl (by decide +kernel)) rfl T.z_range (d_len T.z_len (d_dget hu1 (d_var 1) (d_var 2))) (blkOk_by (own := [("_law_k", 7)]) (N := ["_law_rows", "_law_held", "_law_name", "_law_row", "_law_first", "_law_taken_here", "_law_due_here", "_law_k", "_law_spot"]) (sc := defScope s_law_due) (by decide +kernel)) (fun _ _ _ _ _ => pg_name (i := 7) sc_law_due.nd rfl (Or.inl rfl)) (fun _ _ _ _ _ => d_if0) (fun _ _ _ _ _ => (d_tup (pe_tup (d_acons (d_var 3) (d_acons (d_add (d_var 4) (d_var 7)) d_anil)))))) (ss_cons (s_if (PW.pt (d_or (t_lt hu0 (d_var 3) d_int) (d_or (t_ge (d_var 3) (d_len T.z_len (d_var 0))) (d_or (t_lt hu0 (d_var 4) d_int) (d_or1 (t_gt (d_add (d_var 4) (d_len T.z_len (d_var 6))) (d_len T.z_len (d_ix (d_var 0) (d_var 3))))))))) (ss_one (s_ret d_str)) ss_nil) (ss_cons (s_if (t_lt hu0 (d_count (d_sl (d_ix (d_var 0) (d_var 3)) (d_posome (d_var 4)) (d_posome (d_add (d_var 4) (d_len T.z_len (d_var 6))))) d_str (pe_m1 PySem.F.slot_str_count PySem.F.type_str_count mt_count (d_sl (d_ix (d_var 0) (d_var 3)) (d_posome (d_var 4)) (d_posome (d_add (d_var 4) (d_len T.z_len (d_var 6))))) d_str)) (d_len T.z_len (d_var 6))) (ss_one (s_ret d_str)) ss_nil) (ss_cons (s_if (t_gt (d_len T.z_len (d_imm (d_lcL rfl sc_law_due.nd (d_var 6) (blkOk_by (own := [("_law_spot", 8)]) (N := ["_law_rows", "_law_held", "_law_name", "_law_row", "_law_first", "_law_taken_here", "_law_due_here", "_law_k", "_law_spot"]) (sc := defScope s_law_due) (by decide +kernel)) (fun _ _ _ _ _ => pg_name (i := 8) sc_law_due.nd rfl (Or.inl rfl)) (fun _ _ _ _ _ => d_if1 (t_ne hu (SP.d_get2 hu1 (d_var 5) (d_var 8) (d_var 2) ⟨rfl, rfl, rfl, rfl⟩) (d_var 2))) (fun _ _ _ _ _ => (d_var 8))))) d_int) (ss_one (s_ret d_str)) ss_nil) (ss_one (s_ret (d_var 6))))))))

theorem ok_Plan_need_group (T : Txt K mg a d) : FnOk P w K mg base (L2.CX P w) 1 a.Plan_need_group d.Plan_need_group ["self", "name"] (spOf (gm K a) 2 F_Plan_need_group) := by
  refine T.F_Plan_need_group.okX sc_Plan_need_group (fun vs H Q E h => h.1) (fun cdv A outer s H vs Q E hr h => ⟨wS (gm K a) (fun cls d _ H' => E cls d H') fb_Plan_need_group, ?_, fn_read (N := ["self", "name"]) (by decide) h⟩)
  have tk : Takes (cxOf (L2.CX P w) P w K mg base ["self", "name"] "Plan.need_group" (defScope s_Plan_need_group) a.Plan_need_group cdv A outer s H E) (fun cls d _ H => E cls d H) := takes_of rfl rfl rfl rfl
  have hp := passes_of (X := cxOf (L2.CX P w) P w K mg base ["self", "name"] "Plan.need_group" (defScope s_Plan_need_group) a.Plan_need_group cdv A outer s H E) rfl
  have hu := hr.units
  have hu0 := hr.units0
  have hu1 := hu_of hr
  have hu2 := hu2_of hr
  exact (ss_one (s_if (PW.pt (d_or (d_not (d_test (d_isi kn_str T.z_isinstance (d_var 1) (d_tyName T.z_str PyProof.Rows.boot_str)))) (d_or1 (t_notIn hu1 (d_var 1) (d_fld T.cl T.n_held (d_var 0)))))) (ss_one (s_raise rfl tk rfl (pmk_own PySem.F.excBase_ValueError T.x_Unknown.q T.x_Unknown.g T.x_Unknown.k (raises_own T.x_Unknown.b T.x_Unknown.t) rfl))) ss_nil))

theorem ok_Plan_seats (T : Txt K mg a d) : FnOk P w K mg base (L2.CX P w) 2 a.Plan_seats d.Plan_seats ["self", "name"] (spOf (gm K a) 2 F_Plan_seats) := by
  refine T.F_Plan_seats.okX sc_Plan_seats (fun vs H Q E h => h.1) (fun cdv A outer s H vs Q E hr h => ⟨wS (gm K a) (fun cls d _ H' => E cls d H') fb_Plan_seats, ?_, fn_read (N := ["self", "name"]) (by decide) h⟩)
  have tk : Takes (cxOf (L2.CX P w) P w K mg base ["self", "name"] "Plan.seats" (defScope s_Plan_seats) a.Plan_seats cdv A outer s H E) (fun cls d _ H => E cls d H) := takes_of rfl rfl rfl rfl
  have hp := passes_of (X := cxOf (L2.CX P w) P w K mg base ["self", "name"] "Plan.seats" (defScope s_Plan_seats) a.Plan_seats cdv A outer s H E) rfl
  have hu := hr.units
  have hu0 := hr.units0
  have hu1 := hu_of hr
  have hu2 := hu2_of hr
  exact (ss_cons (s_drop (d_meth T.cl T.me_Plan_need_group (ok_Plan_need_group T) hr T.b_Plan_need_group tk (d_var 0) (d_acons (d_var 1) d_anil) (succ_len (acons_len anil_len)))) (ss_one (s_ret (d_imm (d_list rfl T.z_list (d_dget hu1 (d_fld T.cl T.n_held (d_var 0)) (d_var 1)))))))

theorem ok_spots_of (T : Txt K mg a d) : FnOk P w K mg base (L2.CX P w) 1 a.spots_of d.spots_of ["run", "size"] (spOf (gm K a) 2 F_spots_of) := by
  refine T.F_spots_of.okX sc_spots_of (fun vs H Q E h => h.1) (fun cdv A outer s H vs Q E hr h => ⟨wS (gm K a) (fun cls d _ H' => E cls d H') fb_spots_of, ?_, fn_read (N := ["run", "size", "k"]) (by decide) h⟩)
  have tk : Takes (cxOf (L2.CX P w) P w K mg base ["run", "size", "k"] "spots_of" (defScope s_spots_of) a.spots_of cdv A outer s H E) (fun cls d _ H => E cls d H) := takes_of rfl rfl rfl rfl
  have hp := passes_of (X := cxOf (L2.CX P w) P w K mg base ["run", "size", "k"] "spots_of" (defScope s_spots_of) a.spots_of cdv A outer s H E) rfl
  have hu := hr.units
  have hu0 := hr.units0
  have hu1 := hu_of hr
  have hu2 := hu2_of hr
  exact (ss_one (s_ret (d_imm (d_lcR1 rfl sc_spots_of.nd rfl T.z_range (d_var 1) (blkOk_by (own := [("k", 2)]) (N := ["run", "size", "k"]) (sc := defScope s_spots_of) (by decide +kernel)) (fun _ _ _ _ _ => pg_name (i := 2) sc_spots_of.nd rfl (Or.inl rfl)) (fun _ _ _ _ _ => d_if0) (fun _ _ _ _ _ => (d_tup (pe_tup (d_acons (d_ix (d_var 0) d_int) (d_acons (d_add (d_ix (d_var 0) d_int) (d_var 2)) d_anil)))))))))

theorem ok_Plan_taken (T : Txt K mg a d) : FnOk P w K mg base (L2.CX P w) 1 a.Plan_taken d.Plan_taken ["self"] (spOf (gm K a) 1 F_Plan_taken) := by
  refine T.F_Plan_taken.okX sc_Plan_taken (fun vs H Q E h => h.1) (fun cdv A outer s H vs Q E hr h => ⟨wS (gm K a) (fun cls d _ H' => E cls d H') fb_Plan_taken, ?_, fn_read (N := ["self", "found", "name", "spot"]) (by decide) h⟩)
  have tk : Takes (cxOf (L2.CX P w) P w K mg base ["self", "found", "name", "spot"] "Plan.taken" (defScope s_Plan_taken) a.Plan_taken cdv A outer s H E) (fun cls d _ H => E cls d H) := takes_of rfl rfl rfl rfl
  have hp := passes_of (X := cxOf (L2.CX P w) P w K mg base ["self", "found", "name", "spot"] "Plan.taken" (defScope s_Plan_taken) a.Plan_taken cdv A outer s H E) rfl
  have hu := hr.units
  have hu0 := hr.units0
  have hu1 := hu_of hr
  have hu2 := hu2_of hr
  exact (ss_cons (s_asg sc_Plan_taken.nd rfl (Or.inl rfl) (d_new d_dt)) (ss_cons (s_forL hp rfl sc_Plan_taken.nd rfl (Or.inl rfl) (d_imm (d_list rfl T.z_list (d_fld T.cl T.n_held (d_var 0)))) (ss_one (s_forL hp rfl sc_Plan_taken.nd rfl (Or.inl rfl) (d_dget hu1 (d_fld T.cl T.n_held (d_var 0)) (d_var 2)) (ss_one (s_dput hu1 (d_var 1) (d_var 3) (d_var 2)))))) (ss_one (s_ret (d_var 1)))))

theorem ok_Plan_keep (T : Txt K mg a d) : FnOk P w K mg base (L2.CX P w) 1 a.Plan_keep d.Plan_keep ["self", "held"] (spOf (gm K a) 2 F_Plan_keep) := by
  refine T.F_Plan_keep.okX sc_Plan_keep (fun vs H Q E h => h.1) (fun cdv A outer s H vs Q E hr h => ⟨wS (gm K a) (fun cls d _ H' => E cls d H') fb_Plan_keep, ?_, fn_read (N := ["self", "held"]) (by decide) h⟩)
  have tk : Takes (cxOf (L2.CX P w) P w K mg base ["self", "held"] "Plan.keep" (defScope s_Plan_keep) a.Plan_keep cdv A outer s H E) (fun cls d _ H => E cls d H) := takes_of rfl rfl rfl rfl
  have hp := passes_of (X := cxOf (L2.CX P w) P w K mg base ["self", "held"] "Plan.keep" (defScope s_Plan_keep) a.Plan_keep cdv A outer s H E) rfl
  have hu := hr.units
  have hu0 := hr.units0
  have hu1 := hu_of hr
  have hu2 := hu2_of hr
  exact (ss_cons (s_app (d_fld T.cl T.n_past (d_var 0)) (d_fld T.cl T.n_held (d_var 0)) (pe_bm PySem.F.plainAttrs_list PySem.F.slot_list_append PySem.F.type_list_append mt_append (d_fld T.cl T.n_past (d_var 0)) (pa_cons (d_fld T.cl T.n_held (d_var 0)) pa_nil))) (ss_one (s_fld T.cl T.n_held (d_var 0) (d_var 1))))

theorem ok_Plan_given (T : Txt K mg a d) : FnOk P w K mg base (L2.CX P w) 2 a.Plan_given d.Plan_given ["self", "name", "spots"] (spOf (gm K a) 3 F_Plan_given) := by
  refine T.F_Plan_given.okX sc_Plan_given (fun vs H Q E h => h.1) (fun cdv A outer s H vs Q E hr h => ⟨wS (gm K a) (fun cls d _ H' => E cls d H') fb_Plan_given, ?_, fn_read (N := ["self", "name", "spots", "held"]) (by decide) h⟩)
  have tk : Takes (cxOf (L2.CX P w) P w K mg base ["self", "name", "spots", "held"] "Plan.given" (defScope s_Plan_given) a.Plan_given cdv A outer s H E) (fun cls d _ H => E cls d H) := takes_of rfl rfl rfl rfl
  have hp := passes_of (X := cxOf (L2.CX P w) P w K mg base ["self", "name", "spots", "held"] "Plan.given" (defScope s_Plan_given) a.Plan_given cdv A outer s H E) rfl
  have hu := hr.units
  have hu0 := hr.units0
  have hu1 := hu_of hr
  have hu2 := hu2_of hr
  exact (ss_cons (s_asg sc_Plan_given.nd rfl (Or.inl rfl) (d_new (d_dict hu T.z_dict (d_fld T.cl T.n_held (d_var 0))))) (ss_cons (s_dput hu1 (d_var 3) (d_var 1) (d_var 2)) (ss_cons (s_drop (d_meth T.cl T.me_Plan_keep (ok_Plan_keep T) hr T.b_Plan_keep tk (d_var 0) (d_acons (d_frz (d_var 3)) d_anil) (succ_len (acons_len anil_len)))) (ss_one (s_ret (d_imm (d_list rfl T.z_list (d_var 2))))))))

theorem ok_Plan_shift (T : Txt K mg a d) : FnOk P w K mg base (L2.CX P w) 3 a.Plan_shift d.Plan_shift ["self", "name", "row", "first"] (spOf (gm K a) 4 F_Plan_shift) := by
  refine T.F_Plan_shift.okX sc_Plan_shift (fun vs H Q E h => h.1) (fun cdv A outer s H vs Q E hr h => ⟨wS (gm K a) (fun cls d _ H' => E cls d H') fb_Plan_shift, ?_, fn_read (N := ["self", "name", "row", "first", "spots", "spot", "taken"]) (by decide) h⟩)
  have tk : Takes (cxOf (L2.CX P w) P w K mg base ["self", "name", "row", "first", "spots", "spot", "taken"] "Plan.shift" (defScope s_Plan_shift) a.Plan_shift cdv A outer s H E) (fun cls d _ H => E cls d H) := takes_of rfl rfl rfl rfl
  have hp := passes_of (X := cxOf (L2.CX P w) P w K mg base ["self", "name", "row", "first", "spots", "spot", "taken"] "Plan.shift" (defScope s_Plan_shift) a.Plan_shift cdv A outer s H E) rfl
  have hu := hr.units
  have hu0 := hr.units0
  have hu1 := hu_of hr
  have hu2 := hu2_of hr
  exact (ss_cons (s_drop (d_meth T.cl T.me_Plan_need_group (ok_Plan_need_group T) (hr.mono (by decide)) T.b_Plan_need_group tk (d_var 0) (d_acons (d_var 1) d_anil) (succ_len (acons_len anil_len)))) (ss_cons (s_asg sc_Plan_shift.nd rfl (Or.inl rfl) (d_call (ok_spots_of T) (hr.mono (by decide)) T.m_spots_of T.F_spots_of.kp T.b_spots_of tk (d_acons (d_tup (pe_tup (d_acons (d_var 2) (d_acons (d_var 3) (d_acons d_int d_anil))))) (d_acons (d_len T.z_len (d_dget hu1 (d_fld T.cl T.n_held (d_var 0)) (d_var 1))) d_anil)) (acons_len (acons_len anil_len)))) (ss_cons (s_forL hp rfl sc_Plan_shift.nd rfl (Or.inl rfl) (d_var 4) (ss_one (s_if (d_not (d_test (d_call (ok_is_seat T) (hr.mono (by decide)) T.m_is_seat T.F_is_seat.kp T.b_is_seat tk (d_acons (d_fld T.cl T.n_hall (d_var 0)) (d_acons (d_ix (d_var 5) d_int) (d_acons (d_ix (d_var 5) d_int) d_anil))) (acons_len (acons_len (acons_len anil_len)))))) (ss_one (s_raise rfl tk rfl (pmk_own PySem.F.excBase_ValueError T.x_NoSeat.q T.x_NoSeat.g T.x_NoSeat.k (raises_own T.x_NoSeat.b T.x_NoSeat.t) rfl))) ss_nil))) (ss_cons (s_asg sc_Plan_shift.nd rfl (Or.inl rfl) (d_meth0 T.cl T.me_Plan_taken (ok_Plan_taken T) (hr.mono (by decide)) T.b_Plan_taken tk (d_var 0))) (ss_cons (s_forL hp rfl sc_Plan_shift.nd rfl (Or.inl rfl) (d_var 4) (ss_one (s_if (PW.pt (d_and (t_in hu1 (d_var 5) (d_var 6)) (d_and1 (t_ne hu (d_dget hu1 (d_var 6) (d_var 5)) (d_var 1))))) (ss_one (s_raise rfl tk rfl (pmk_own PySem.F.excBase_ValueError T.x_Taken.q T.x_Taken.g T.x_Taken.k (raises_own T.x_Taken.b T.x_Taken.t) rfl))) ss_nil))) (ss_one (s_ret (d_meth T.cl T.me_Plan_given (ok_Plan_given T) hr T.b_Plan_given tk (d_var 0) (d_acons (d_var 1) (d_acons (d_var 4) d_anil)) (succ_len (acons_len (acons_len anil_len)))))))))))

theorem ok_law_shifted (T : Txt K mg a d) : FnOk P w K mg base (L2.CX P w) 4 a.law_shifted d.law_shifted ["_law_plan", "_law_name", "_law_row", "_law_first"] (spOf (gm K a) 4 F_law_shifted) := by
  refine T.F_law_shifted.okX sc_law_shifted (fun vs H Q E h => h.1) (fun cdv A outer s H vs Q E hr h => ⟨wS (gm K a) (fun cls d _ H' => E cls d H') fb_law_shifted, ?_, fn_read (N := ["_law_plan", "_law_name", "_law_row", "_law_first"]) (by decide) h⟩)
  have tk : Takes (cxOf (L2.CX P w) P w K mg base ["_law_plan", "_law_name", "_law_row", "_law_first"] "_law_shifted" (defScope s_law_shifted) a.law_shifted cdv A outer s H E) (fun cls d _ H => E cls d H) := takes_of rfl rfl rfl rfl
  have hp := passes_of (X := cxOf (L2.CX P w) P w K mg base ["_law_plan", "_law_name", "_law_row", "_law_first"] "_law_shifted" (defScope s_law_shifted) a.law_shifted cdv A outer s H E) rfl
  have hu := hr.units
  have hu0 := hr.units0
  have hu1 := hu_of hr
  have hu2 := hu2_of hr
  exact (ss_one (s_try (U := [.noseat, .taken]) rfl rfl tk (fun W2 pn xe tk2 hp => (ss_one (s_ret (d_meth T.cl T.me_Plan_shift (ok_Plan_shift T) hr T.b_Plan_shift tk2 (d_var 0) (d_acons (d_var 1) (d_acons (d_var 2) (d_acons (d_var 3) d_anil))) (succ_len (acons_len (acons_len (acons_len anil_len)))))))) (HdsOk.cons ⟨rfl, by decide, Or.inl T.g_NoSeat⟩ (fun _ _ _ _ _ _ _ => (ss_one (s_ret d_str))) (HdsOk.cons ⟨rfl, by decide, Or.inl T.g_Taken⟩ (fun _ _ _ _ _ _ _ => (ss_one (s_ret d_str))) HdsOk.nil)) (HdR.cons (by simp only [List.forall_mem_cons]; exact ⟨T.xm_NoSeat_NoSeat, T.xm_Taken_NoSeat, fun _ h => nomatch h⟩) (HdR.cons (by simp only [List.forall_mem_cons]; exact ⟨T.xm_NoSeat_Taken, T.xm_Taken_Taken, fun _ h => nomatch h⟩) HdR.nil)) (by simp only [List.forall_mem_cons]; exact ⟨quiet_c1 _, quiet_c1 _, fun _ h => nomatch h⟩)))

theorem ok_blocks_in (T : Txt K mg a d) : FnOk P w K mg base (L2.CX P w) 1 a.blocks_in d.blocks_in ["row", "line"] (spOf (gm K a) 2 F_blocks_in) := by
  refine T.F_blocks_in.okX sc_blocks_in (fun vs H Q E h => h.1) (fun cdv A outer s H vs Q E hr h => ⟨wS (gm K a) (fun cls d _ H' => E cls d H') fb_blocks_in, ?_, fn_read (N := ["row", "line", "found", "many", "place"]) (by decide) h⟩)
  have tk : Takes (cxOf (L2.CX P w) P w K mg base ["row", "line", "found", "many", "place"] "blocks_in" (defScope s_blocks_in) a.blocks_in cdv A outer s H E) (fun cls d _ H => E cls d H) := takes_of rfl rfl rfl rfl
  have hp := passes_of (X := cxOf (L2.CX P w) P w K mg base ["row", "line", "found", "many", "place"] "blocks_in" (defScope s_blocks_in) a.blocks_in cdv A outer s H E) rfl
  have hu := hr.units
  have hu0 := hr.units0
  have hu1 := hu_of hr
  have hu2 := hu2_of hr
  exact (ss_cons (s_asg sc_blocks_in.nd rfl (Or.inl rfl) (d_new (d_lst (pe_lst d_anil)))) (ss_cons (s_asg sc_blocks_in.nd rfl (Or.inl rfl) d_int) (ss_cons (s_forR1 hp rfl sc_blocks_in.nd rfl (Or.inl rfl) rfl T.z_range (d_add (d_len T.z_len (d_var 1)) d_int) (ss_one (s_if (PW.pt (d_and (t_lt hu0 (d_var 4) (d_len T.z_len (d_var 1))) (d_and1 (t_eq hu (d_ix (d_var 1) (d_var 4)) (d_globS rfl T.c_SEAT.choose_spec ⟨_, rfl⟩))))) (ss_one (s_asg sc_blocks_in.nd rfl (Or.inl rfl) (d_add (d_var 3) d_int))) (ss_cons (s_if (t_gt (d_var 3) d_int) (ss_one (s_app (d_var 2) (d_tup (pe_tup (d_acons (d_var 0) (d_acons (d_sub (d_var 4) (d_var 3)) (d_acons (d_var 3) d_anil))))) (pe_bm PySem.F.plainAttrs_list PySem.F.slot_list_append PySem.F.type_list_append mt_append (d_var 2) (pa_cons (d_tup (pe_tup (d_acons (d_var 0) (d_acons (d_sub (d_var 4) (d_var 3)) (d_acons (d_var 3) d_anil))))) pa_nil)))) ss_nil) (ss_one (s_asg sc_blocks_in.nd rfl (Or.inl rfl) d_int)))))) (ss_one (s_ret (d_var 2))))))

theorem ok_blocks_of (T : Txt K mg a d) : FnOk P w K mg base (L2.CX P w) 2 a.blocks_of d.blocks_of ["rows"] (spOf (gm K a) 1 F_blocks_of) := by
  refine T.F_blocks_of.okX sc_blocks_of (fun vs H Q E h => h.1) (fun cdv A outer s H vs Q E hr h => ⟨wS (gm K a) (fun cls d _ H' => E cls d H') fb_blocks_of, ?_, fn_read (N := ["rows", "found", "row"]) (by decide) h⟩)
  have tk : Takes (cxOf (L2.CX P w) P w K mg base ["rows", "found", "row"] "blocks_of" (defScope s_blocks_of) a.blocks_of cdv A outer s H E) (fun cls d _ H => E cls d H) := takes_of rfl rfl rfl rfl
  have hp := passes_of (X := cxOf (L2.CX P w) P w K mg base ["rows", "found", "row"] "blocks_of" (defScope s_blocks_of) a.blocks_of cdv A outer s H E) rfl
  have hu := hr.units
  have hu0 := hr.units0
  have hu1 := hu_of hr
  have hu2 := hu2_of hr
  exact (ss_cons (s_asg sc_blocks_of.nd rfl (Or.inl rfl) (d_imm (d_lst (pe_lst d_anil)))) (ss_cons (s_forR1 hp rfl sc_blocks_of.nd rfl (Or.inl rfl) rfl T.z_range (d_len T.z_len (d_var 0)) (ss_one (s_asg sc_blocks_of.nd rfl (Or.inl rfl) (d_add (d_var 1) (d_call (ok_blocks_in T) hr T.m_blocks_in T.F_blocks_in.kp T.b_blocks_in tk (d_acons (d_var 2) (d_acons (d_ix (d_var 0) (d_var 2)) d_anil)) (acons_len (acons_len anil_len))))))) (ss_one (s_ret (d_var 1)))))

theorem ok_runs_in (T : Txt K mg a d) : FnOk P w K mg base (L2.CX P w) 1 a.runs_in d.runs_in ["block", "taken"] (spOf (gm K a) 2 F_runs_in) := by
  refine T.F_runs_in.okX sc_runs_in (fun vs H Q E h => h.1) (fun cdv A outer s H vs Q E hr h => ⟨wS (gm K a) (fun cls d _ H' => E cls d H') fb_runs_in, ?_, fn_read (N := ["block", "taken", "found", "many", "place"]) (by decide) h⟩)
  have tk : Takes (cxOf (L2.CX P w) P w K mg base ["block", "taken", "found", "many", "place"] "runs_in" (defScope s_runs_in) a.runs_in cdv A outer s H E) (fun cls d _ H => E cls d H) := takes_of rfl rfl rfl rfl
  have hp := passes_of (X := cxOf (L2.CX P w) P w K mg base ["block", "taken", "found", "many", "place"] "runs_in" (defScope s_runs_in) a.runs_in cdv A outer s H E) rfl
  have hu := hr.units
  have hu0 := hr.units0
  have hu1 := hu_of hr
  have hu2 := hu2_of hr
  exact (ss_cons (s_asg sc_runs_in.nd rfl (Or.inl rfl) (d_new (d_lst (pe_lst d_anil)))) (ss_cons (s_asg sc_runs_in.nd rfl (Or.inl rfl) d_int) (ss_cons (s_forR2 hp rfl sc_runs_in.nd rfl (Or.inl rfl) rfl T.z_range (d_ix (d_var 0) d_int) (d_add (d_add (d_ix (d_var 0) d_int) (d_ix (d_var 0) d_int)) d_int) (ss_one (s_if (PW.pt (d_and (t_lt hu0 (d_var 4) (d_add (d_ix (d_var 0) d_int) (d_ix (d_var 0) d_int))) (d_and1 (t_notIn hu1 (d_tup (pe_tup (d_acons (d_ix (d_var 0) d_int) (d_acons (d_var 4) d_anil)))) (d_var 1))))) (ss_one (s_asg sc_runs_in.nd rfl (Or.inl rfl) (d_add (d_var 3) d_int))) (ss_cons (s_if (t_gt (d_var 3) d_int) (ss_one (s_app (d_var 2) (d_tup (pe_tup (d_acons (d_ix (d_var 0) d_int) (d_acons (d_sub (d_var 4) (d_var 3)) (d_acons (d_var 3) d_anil))))) (pe_bm PySem.F.plainAttrs_list PySem.F.slot_list_append PySem.F.type_list_append mt_append (d_var 2) (pa_cons (d_tup (pe_tup (d_acons (d_ix (d_var 0) d_int) (d_acons (d_sub (d_var 4) (d_var 3)) (d_acons (d_var 3) d_anil))))) pa_nil)))) ss_nil) (ss_one (s_asg sc_runs_in.nd rfl (Or.inl rfl) d_int)))))) (ss_one (s_ret (d_var 2))))))

theorem ok_runs_of (T : Txt K mg a d) : FnOk P w K mg base (L2.CX P w) 3 a.runs_of d.runs_of ["rows", "taken"] (spOf (gm K a) 2 F_runs_of) := by
  refine T.F_runs_of.okX sc_runs_of (fun vs H Q E h => h.1) (fun cdv A outer s H vs Q E hr h => ⟨wS (gm K a) (fun cls d _ H' => E cls d H') fb_runs_of, ?_, fn_read (N := ["rows", "taken", "found", "block"]) (by decide) h⟩)
  have tk : Takes (cxOf (L2.CX P w) P w K mg base ["rows", "taken", "found", "block"] "runs_of" (defScope s_runs_of) a.runs_of cdv A outer s H E) (fun cls d _ H => E cls d H) := takes_of rfl rfl rfl rfl
  have hp := passes_of (X := cxOf (L2.CX P w) P w K mg base ["rows", "taken", "found", "block"] "runs_of" (defScope s_runs_of) a.runs_of cdv A outer s H E) rfl
  have hu := hr.units
  have hu0 := hr.units0
  have hu1 := hu_of hr
  have hu2 := hu2_of hr
  exact (ss_cons (s_asg sc_runs_of.nd rfl (Or.inl rfl) (d_imm (d_lst (pe_lst d_anil)))) (ss_cons (s_forL hp rfl sc_runs_of.nd rfl (Or.inl rfl) (d_call (ok_blocks_of T) hr T.m_blocks_of T.F_blocks_of.kp T.b_blocks_of tk (d_acons (d_var 0) d_anil) (acons_len anil_len)) (ss_one (s_asg sc_runs_of.nd rfl (Or.inl rfl) (d_add (d_var 2) (d_call (ok_runs_in T) (hr.mono (by decide)) T.m_runs_in T.F_runs_in.kp T.b_runs_in tk (d_acons (d_var 3) (d_acons (d_var 1) d_anil)) (acons_len (acons_len anil_len))))))) (ss_one (s_ret (d_var 2)))))

theorem ok_Plan_free (T : Txt K mg a d) : FnOk P w K mg base (L2.CX P w) 4 a.Plan_free d.Plan_free ["self"] (spOf (gm K a) 1 F_Plan_free) := by
  refine T.F_Plan_free.okX sc_Plan_free (fun vs H Q E h => h.1) (fun cdv A outer s H vs Q E hr h => ⟨wS (gm K a) (fun cls d _ H' => E cls d H') fb_Plan_free, ?_, fn_read (N := ["self"]) (by decide) h⟩)
  have tk : Takes (cxOf (L2.CX P w) P w K mg base ["self"] "Plan.free" (defScope s_Plan_free) a.Plan_free cdv A outer s H E) (fun cls d _ H => E cls d H) := takes_of rfl rfl rfl rfl
  have hp := passes_of (X := cxOf (L2.CX P w) P w K mg base ["self"] "Plan.free" (defScope s_Plan_free) a.Plan_free cdv A outer s H E) rfl
  have hu := hr.units
  have hu0 := hr.units0
  have hu1 := hu_of hr
  have hu2 := hu2_of hr
  exact (ss_one (s_ret (d_call (ok_runs_of T) hr T.m_runs_of T.F_runs_of.kp T.b_runs_of tk (d_acons (d_fld T.cl T.n_hall (d_var 0)) (d_acons (d_meth0 T.cl T.me_Plan_taken (ok_Plan_taken T) (hr.mono (by decide)) T.b_Plan_taken tk (d_var 0)) d_anil)) (acons_len (acons_len anil_len)))))

theorem ok_law_runs (T : Txt K mg a d) : FnOk P w K mg base (L2.CX P w) 1 a.law_runs d.law_runs ["_law_rows", "_law_taken_here"] (spOf (gm K a) 2 F_law_runs) := by
  refine T.F_law_runs.okX sc_law_runs (fun vs H Q E h => h.1) (fun cdv A outer s H vs Q E hr h => ⟨wS (gm K a) (fun cls d _ H' => E cls d H') fb_law_runs, ?_, fn_read (N := ["_law_rows", "_law_taken_here", "_law_runs_here", "_law_row", "_law_many", "_law_place"]) (by decide) h⟩)
  have tk : Takes (cxOf (L2.CX P w) P w K mg base ["_law_rows", "_law_taken_here", "_law_runs_here", "_law_row", "_law_many", "_law_place"] "_law_runs" (defScope s_law_runs) a.law_runs cdv A outer s H E) (fun cls d _ H => E cls d H) := takes_of rfl rfl rfl rfl
  have hp := passes_of (X := cxOf (L2.CX P w) P w K mg base ["_law_rows", "_law_taken_here", "_law_runs_here", "_law_row", "_law_many", "_law_place"] "_law_runs" (defScope s_law_runs) a.law_runs cdv A outer s H E) rfl
  have hu := hr.units
  have hu0 := hr.units0
  have hu1 := hu_of hr
  have hu2 := hu2_of hr
  exact (ss_cons (s_asg sc_law_runs.nd rfl (Or.inl rfl) (d_new (d_lst (pe_lst d_anil)))) (ss_cons (s_forR1 hp rfl sc_law_runs.nd rfl (Or.inl rfl) rfl T.z_range (d_len T.z_len (d_var 0)) (ss_cons (s_asg sc_law_runs.nd rfl (Or.inl rfl) d_int) (ss_one (s_forR1 hp rfl sc_law_runs.nd rfl (Or.inl rfl) rfl T.z_range (d_add (d_len T.z_len (d_ix (d_var 0) (d_var 3))) d_int) (ss_one (s_if (PW.pt (d_and (t_lt hu0 (d_var 5) (d_len T.z_len (d_ix (d_var 0) (d_var 3)))) (d_and (t_eq hu (d_ix (d_ix (d_var 0) (d_var 3)) (d_var 5)) d_str) (d_and1 (t_notIn hu1 (d_tup (pe_tup (d_acons (d_var 3) (d_acons (d_var 5) d_anil)))) (d_var 1)))))) (ss_one (s_asg sc_law_runs.nd rfl (Or.inl rfl) (d_add (d_var 4) d_int))) (ss_cons (s_if (t_gt (d_var 4) d_int) (ss_one (s_app (d_var 2) (d_tup (pe_tup (d_acons (d_var 3) (d_acons (d_sub (d_var 5) (d_var 4)) (d_acons (d_var 4) d_anil))))) (pe_bm PySem.F.plainAttrs_list PySem.F.slot_list_append PySem.F.type_list_append mt_append (d_var 2) (pa_cons (d_tup (pe_tup (d_acons (d_var 3) (d_acons (d_sub (d_var 5) (d_var 4)) (d_acons (d_var 4) d_anil))))) pa_nil)))) ss_nil) (ss_one (s_asg sc_law_runs.nd rfl (Or.inl rfl) d_int))))))))) (ss_one (s_ret (d_var 2)))))

theorem ok_Plan_who (T : Txt K mg a d) : FnOk P w K mg base (L2.CX P w) 2 a.Plan_who d.Plan_who ["self", "row", "place"] (spOf (gm K a) 3 F_Plan_who) := by
  refine T.F_Plan_who.okX sc_Plan_who (fun vs H Q E h => h.1) (fun cdv A outer s H vs Q E hr h => ⟨wS (gm K a) (fun cls d _ H' => E cls d H') fb_Plan_who, ?_, fn_read (N := ["self", "row", "place"]) (by decide) h⟩)
  have tk : Takes (cxOf (L2.CX P w) P w K mg base ["self", "row", "place"] "Plan.who" (defScope s_Plan_who) a.Plan_who cdv A outer s H E) (fun cls d _ H => E cls d H) := takes_of rfl rfl rfl rfl
  have hp := passes_of (X := cxOf (L2.CX P w) P w K mg base ["self", "row", "place"] "Plan.who" (defScope s_Plan_who) a.Plan_who cdv A outer s H E) rfl
  have hu := hr.units
  have hu0 := hr.units0
  have hu1 := hu_of hr
  have hu2 := hu2_of hr
  exact (ss_cons (s_if (d_not (d_test (d_call (ok_is_seat T) hr T.m_is_seat T.F_is_seat.kp T.b_is_seat tk (d_acons (d_fld T.cl T.n_hall (d_var 0)) (d_acons (d_var 1) (d_acons (d_var 2) d_anil))) (acons_len (acons_len (acons_len anil_len)))))) (ss_one (s_raise rfl tk rfl (pmk_own PySem.F.excBase_ValueError T.x_NoSeat.q T.x_NoSeat.g T.x_NoSeat.k (raises_own T.x_NoSeat.b T.x_NoSeat.t) rfl))) ss_nil) (ss_one (s_ret (SP.d_get1 hu1 (d_meth0 T.cl T.me_Plan_taken (ok_Plan_taken T) hr T.b_Plan_taken tk (d_var 0)) (d_tup (pe_tup (d_acons (d_var 1) (d_acons (d_var 2) d_anil)))) ⟨rfl, rfl, rfl, rfl⟩))))

theorem ok_law_stands (T : Txt K mg a d) : FnOk P w K mg base (L2.CX P w) 5 a.law_stands d.law_stands ["_law_plan", "_law_rows", "_law_held"] (spOf (gm K a) 3 F_law_stands) := by
  refine T.F_law_stands.okX sc_law_stands (fun vs H Q E h => h.1) (fun cdv A outer s H vs Q E hr h => ⟨wS (gm K a) (fun cls d _ H' => E cls d H') fb_law_stands, ?_, fn_read (N := ["_law_plan", "_law_rows", "_law_held", "_law_taken_here", "_law_name", "_law_row", "_law_place"]) (by decide) h⟩)
  have tk : Takes (cxOf (L2.CX P w) P w K mg base ["_law_plan", "_law_rows", "_law_held", "_law_taken_here", "_law_name", "_law_row", "_law_place"] "_law_stands" (defScope s_law_stands) a.law_stands cdv A outer s H E) (fun cls d _ H => E cls d H) := takes_of rfl rfl rfl rfl
  have hp := passes_of (X := cxOf (L2.CX P w) P w K mg base ["_law_plan", "_law_rows", "_law_held", "_law_taken_here", "_law_name", "_law_row", "_law_place"] "_law_stands" (defScope s_law_stands) a.law_stands cdv A outer s H E) rfl
  have hu := hr.units
  have hu0 := hr.units0
  have hu1 := hu_of hr
  have hu2 := hu2_of hr
  exact (ss_cons (s_asg sc_law_stands.nd rfl (Or.inl rfl) (d_call (ok_law_taken T) (hr.mono (by decide)) T.m_law_taken T.F_law_taken.kp T.b_law_taken tk (d_acons (d_var 2) d_anil) (acons_len anil_len))) (ss_cons (s_if (PW.pt (d_or (t_ne hu (d_meth0 T.cl T.me_Plan_groups (ok_Plan_groups T) (hr.mono (by decide)) T.b_Plan_groups tk (d_var 0)) (d_imm (d_list rfl T.z_list (d_var 2)))) (d_or1 (t_ne hu (d_meth0 T.cl T.me_Plan_free (ok_Plan_free T) hr T.b_Plan_free tk (d_var 0)) (d_call (ok_law_runs T) (hr.mono (by decide)) T.m_law_runs T.F_law_runs.kp T.b_law_runs tk (d_acons (d_var 1) (d_acons (d_var 3) d_anil)) (acons_len (acons_len anil_len))))))) (ss_one (s_ret d_bl)) ss_nil) (ss_cons (s_forL hp rfl sc_law_stands.nd rfl (Or.inl rfl) (d_imm (d_list rfl T.z_list (d_var 2))) (ss_one (s_if (t_ne hu (d_meth T.cl T.me_Plan_seats (ok_Plan_seats T) (hr.mono (by decide)) T.b_Plan_seats tk (d_var 0) (d_acons (d_var 4) d_anil) (succ_len (acons_len anil_len))) (d_dget hu1 (d_var 2) (d_var 4))) (ss_one (s_ret d_bl)) ss_nil))) (ss_cons (s_forR1 hp rfl sc_law_stands.nd rfl (Or.inl rfl) rfl T.z_range (d_len T.z_len (d_var 1)) (ss_one (s_forR1 hp rfl sc_law_stands.nd rfl (Or.inl rfl) rfl T.z_range (d_len T.z_len (d_ix (d_var 1) (d_var 5))) (ss_one (s_if (PW.pt (d_and (t_eq hu (d_ix (d_ix (d_var 1) (d_var 5)) (d_var 6)) d_str) (d_and1 (t_eq hu (d_mod (d_add (d_add (d_var 5) (d_var 6)) (d_len T.z_len (d_ix (d_var 1) d_int))) d_int) d_int)))) (ss_one (s_if (t_ne hu (d_meth T.cl T.me_Plan_who (ok_Plan_who T) (hr.mono (by decide)) T.b_Plan_who tk (d_var 0) (d_acons (d_var 5) (d_acons (d_var 6) d_anil)) (succ_len (acons_len (acons_len anil_len)))) (SP.d_get1 hu1 (d_var 3) (d_tup (pe_tup (d_acons (d_var 5) (d_acons (d_var 6) d_anil)))) ⟨rfl, rfl, rfl, rfl⟩)) (ss_one (s_ret d_bl)) ss_nil)) ss_nil))))) (ss_one (s_ret d_bl))))))

theorem ok_Plan_leave (T : Txt K mg a d) : FnOk P w K mg base (L2.CX P w) 2 a.Plan_leave d.Plan_leave ["self", "name"] (spOf (gm K a) 2 F_Plan_leave) := by
  refine T.F_Plan_leave.okX sc_Plan_leave (fun vs H Q E h => h.1) (fun cdv A outer s H vs Q E hr h => ⟨wS (gm K a) (fun cls d _ H' => E cls d H') fb_Plan_leave, ?_, fn_read (N := ["self", "name", "held", "other", "spots"]) (by decide) h⟩)
  have tk : Takes (cxOf (L2.CX P w) P w K mg base ["self", "name", "held", "other", "spots"] "Plan.leave" (defScope s_Plan_leave) a.Plan_leave cdv A outer s H E) (fun cls d _ H => E cls d H) := takes_of rfl rfl rfl rfl
  have hp := passes_of (X := cxOf (L2.CX P w) P w K mg base ["self", "name", "held", "other", "spots"] "Plan.leave" (defScope s_Plan_leave) a.Plan_leave cdv A outer s H E) rfl
  have hu := hr.units
  have hu0 := hr.units0
  have hu1 := hu_of hr
  have hu2 := hu2_of hr
  exact (ss_cons (s_drop (d_meth T.cl T.me_Plan_need_group (ok_Plan_need_group T) hr T.b_Plan_need_group tk (d_var 0) (d_acons (d_var 1) d_anil) (succ_len (acons_len anil_len)))) (ss_cons (s_asg sc_Plan_leave.nd rfl (Or.inl rfl) (d_new d_dk)) (ss_cons (s_forL hp rfl sc_Plan_leave.nd rfl (Or.inl rfl) (d_imm (d_list rfl T.z_list (d_fld T.cl T.n_held (d_var 0)))) (ss_one (s_if (t_ne hu (d_var 3) (d_var 1)) (ss_one (s_dput hu1 (d_var 2) (d_var 3) (d_dget hu1 (d_fld T.cl T.n_held (d_var 0)) (d_var 3)))) ss_nil))) (ss_cons (s_asg sc_Plan_leave.nd rfl (Or.inl rfl) (d_imm (d_list rfl T.z_list (d_dget hu1 (d_fld T.cl T.n_held (d_var 0)) (d_var 1))))) (ss_cons (s_drop (d_meth T.cl T.me_Plan_keep (ok_Plan_keep T) hr T.b_Plan_keep tk (d_var 0) (d_acons (d_frz (d_var 2)) d_anil) (succ_len (acons_len anil_len)))) (ss_one (s_ret (d_var 4))))))))

theorem ok_law_leaves (T : Txt K mg a d) : FnOk P w K mg base (L2.CX P w) 6 a.law_leaves d.law_leaves ["_law_plan", "_law_rows", "_law_held", "_law_n"] (spOf (gm K a) 4 F_law_leaves) := by
  refine T.F_law_leaves.okX sc_law_leaves (fun vs H Q E h => h.1) (fun cdv A outer s H vs Q E hr h => ⟨wS (gm K a) (fun cls d _ H' => E cls d H') fb_law_leaves, ?_, fn_read (N := ["_law_plan", "_law_rows", "_law_held", "_law_n", "_law_gone", "_law_told", "_law_left", "_law_other"]) (by decide) h⟩)
  have tk : Takes (cxOf (L2.CX P w) P w K mg base ["_law_plan", "_law_rows", "_law_held", "_law_n", "_law_gone", "_law_told", "_law_left", "_law_other"] "_law_leaves" (defScope s_law_leaves) a.law_leaves cdv A outer s H E) (fun cls d _ H => E cls d H) := takes_of rfl rfl rfl rfl
  have hp := passes_of (X := cxOf (L2.CX P w) P w K mg base ["_law_plan", "_law_rows", "_law_held", "_law_n", "_law_gone", "_law_told", "_law_left", "_law_other"] "_law_leaves" (defScope s_law_leaves) a.law_leaves cdv A outer s H E) rfl
  have hu := hr.units
  have hu0 := hr.units0
  have hu1 := hu_of hr
  have hu2 := hu2_of hr
  exact (ss_cons (s_asg sc_law_leaves.nd rfl (Or.inr rfl) (d_ix (d_imm (d_list rfl T.z_list (d_var 2))) (d_mod (d_var 3) (d_len T.z_len (d_var 2))))) (ss_cons (s_asg sc_law_leaves.nd rfl (Or.inl rfl) (d_meth T.cl T.me_Plan_leave (ok_Plan_leave T) (hr.mono (by decide)) T.b_Plan_leave tk (d_var 0) (d_acons (d_var 4) d_anil) (succ_len (acons_len anil_len)))) (ss_cons (s_asg sc_law_leaves.nd rfl (Or.inl rfl) (d_imm (d_dictP rfl rfl T.z_dict (d_imm (d_lcL rfl sc_law_leaves.nd (d_imm (d_list rfl T.z_list (d_var 2))) (blkOk_by (own := [("_law_other", 7)]) (N := ["_law_plan", "_law_rows", "_law_held", "_law_n", "_law_gone", "_law_told", "_law_left", "_law_other"]) (sc := defScope s_law_leaves) (by decide +kernel)) (fun _ _ _ _ _ => pg_name (i := 7) sc_law_leaves.nd rfl (Or.inl rfl)) (fun _ _ _ _ _ => d_if1 (t_ne hu (d_var 7) (d_var 4))) (fun _ _ _ _ _ => (d_tup (pe_tup (d_acons (d_var 7) (d_acons (d_dget hu1 (d_var 2) (d_var 7)) d_anil)))))))))) (ss_cons (s_if (PW.pt (d_or (d_not (d_test (d_isi kn_list T.z_isinstance (d_var 5) (d_tyName T.z_list PyProof.Rows.boot_list)))) (d_or (t_ne hu (d_var 5) (d_dget hu1 (d_var 2) (d_var 4))) (d_or1 (d_not (d_test (d_call (ok_law_stands T) hr T.m_law_stands T.F_law_stands.kp T.b_law_stands tk (d_acons (d_var 0) (d_acons (d_var 1) (d_acons (d_var 6) d_anil))) (acons_len (acons_len (acons_len anil_len)))))))))) (ss_one (s_ret d_bl)) ss_nil) (ss_one (s_ret (d_andV (d_is (d_meth0 T.cl T.me_Plan_back (ok_Plan_back T) (hr.mono (by decide)) T.b_Plan_back tk (d_var 0)) d_non) (d_oneV (d_call (ok_law_stands T) hr T.m_law_stands T.F_law_stands.kp T.b_law_stands tk (d_acons (d_var 0) (d_acons (d_var 1) (d_acons (d_var 2) d_anil))) (acons_len (acons_len (acons_len anil_len))))))))))))

theorem ok_law (T : Txt K mg a d) : FnOk P w K mg base (L2.CX P w) 7 a.law d.law ["_law_script"] (spOf (gm K a) 1 F_law) := by
  refine T.F_law.okX sc_law (fun vs H Q E h => h.1) (fun cdv A outer s H vs Q E hr h => ⟨wS (gm K a) (fun cls d _ H' => E cls d H') fb_law, ?_, fn_read (N := ["_law_script", "_law_rows", "_law_names", "_law_held", "_law_plan", "_law_name", "_law_row", "_law_first", "_law_spots", "_law_due_here", "_law_ahead", "_law_told", "_law_found", "_law_j"]) (by decide) h⟩)
  have tk : Takes (cxOf (L2.CX P w) P w K mg base ["_law_script", "_law_rows", "_law_names", "_law_held", "_law_plan", "_law_name", "_law_row", "_law_first", "_law_spots", "_law_due_here", "_law_ahead", "_law_told", "_law_found", "_law_j"] "law" (defScope s_law) a.law cdv A outer s H E) (fun cls d _ H => E cls d H) := takes_of rfl rfl rfl rfl
  have hp := passes_of (X := cxOf (L2.CX P w) P w K mg base ["_law_script", "_law_rows", "_law_names", "_law_held", "_law_plan", "_law_name", "_law_row", "_law_first", "_law_spots", "_law_due_here", "_law_ahead", "_law_told", "_law_found", "_law_j"] "law" (defScope s_law) a.law cdv A outer s H E) rfl
  have hu := hr.units
  have hu0 := hr.units0
  have hu1 := hu_of hr
  have hu2 := hu2_of hr
  exact (ss_cons (s_asgLcR1I rfl sc_law.nd rfl rfl (sw_true rfl rfl rfl (by decide +kernel)) rfl T.z_range (d_add d_int (d_mod (d_call (ok_law_cell_at T) (hr.mono (by decide)) T.m_law_cell_at T.F_law_cell_at.kp T.b_law_cell_at tk (d_acons (d_var 0) (d_acons d_int d_anil)) (acons_len (acons_len anil_len))) d_int)) (blkOk_by (own := [("_law_j", 13)]) (N := ["_law_script", "_law_rows", "_law_names", "_law_held", "_law_plan", "_law_name", "_law_row", "_law_first", "_law_spots", "_law_due_here", "_law_ahead", "_law_told", "_law_found", "_law_j"]) (sc := defScope s_law) (by decide +kernel)) (fun _ _ _ _ _ => pg_name (i := 13) sc_law.nd rfl (Or.inl rfl)) (fun _ _ _ _ _ => d_if0) (fun _ _ _ _ _ => (d_call (ok_law_row_by T) (hr.mono (by decide)) T.m_law_row_by T.F_law_row_by.kp T.b_law_row_by takes0 (d_acons (d_call (ok_law_cell_at T) (hr.mono (by decide)) T.m_law_cell_at T.F_law_cell_at.kp T.b_law_cell_at takes0 (d_acons (d_var 0) (d_acons (d_add d_int (d_var 13)) d_anil)) (acons_len (acons_len anil_len))) d_anil) (acons_len anil_len)))) (ss_cons (s_if (t_eq hu (d_mod (d_div (d_call (ok_law_cell_at T) (hr.mono (by decide)) T.m_law_cell_at T.F_law_cell_at.kp T.b_law_cell_at tk (d_acons (d_var 0) (d_acons d_int d_anil)) (acons_len (acons_len anil_len))) d_int) d_int) d_int) (ss_one (s_asgLcR1I rfl sc_law.nd rfl rfl (sw_true rfl rfl rfl (by decide +kernel)) rfl T.z_range d_int (blkOk_by (own := [("_law_j", 13)]) (N := ["_law_script", "_law_rows", "_law_names", "_law_held", "_law_plan", "_law_name", "_law_row", "_law_first", "_law_spots", "_law_due_here", "_law_ahead", "_law_told", "_law_found", "_law_j"]) (sc := defScope s_law) (by decide +kernel)) (fun _ _ _ _ _ => pg_name (i := 13) sc_law.nd rfl (Or.inl rfl)) (fun _ _ _ _ _ => d_if0) (fun _ _ _ _ _ => (d_sl (d_call (ok_law_row_by T) (hr.mono (by decide)) T.m_law_row_by T.F_law_row_by.kp T.b_law_row_by takes0 (d_acons (d_add (d_call (ok_law_cell_at T) (hr.mono (by decide)) T.m_law_cell_at T.F_law_cell_at.kp T.b_law_cell_at takes0 (d_acons (d_var 0) (d_acons (d_add d_int (d_mod (d_var 13) d_int)) d_anil)) (acons_len (acons_len anil_len))) (d_mul d_int (d_var 13))) d_anil) (acons_len anil_len)) d_ponone (d_posome d_int))))) ss_nil) (ss_cons (s_asg sc_law.nd rfl (Or.inl rfl) (d_call (ok_law_names_by T) (hr.mono (by decide)) T.m_law_names_by T.F_law_names_by.kp T.b_law_names_by tk (d_acons (d_call (ok_law_cell_at T) (hr.mono (by decide)) T.m_law_cell_at T.F_law_cell_at.kp T.b_law_cell_at tk (d_acons (d_var 0) (d_acons d_int d_anil)) (acons_len (acons_len anil_len))) (d_acons (d_add d_int (d_mod (d_call (ok_law_cell_at T) (hr.mono (by decide)) T.m_law_cell_at T.F_law_cell_at.kp T.b_law_cell_at tk (d_acons (d_var 0) (d_acons d_int d_anil)) (acons_len (acons_len anil_len))) d_int)) d_anil)) (acons_len (acons_len anil_len)))) (ss_cons (s_asg sc_law.nd rfl (Or.inl rfl) (d_call (ok_law_held_by T) (hr.mono (by decide)) T.m_law_held_by T.F_law_held_by.kp T.b_law_held_by tk (d_acons (d_var 1) (d_acons (d_var 2) (d_acons (d_div (d_call (ok_law_cell_at T) (hr.mono (by decide)) T.m_law_cell_at T.F_law_cell_at.kp T.b_law_cell_at tk (d_acons (d_var 0) (d_acons d_int d_anil)) (acons_len (acons_len anil_len))) d_int) d_anil))) (acons_len (acons_len (acons_len anil_len))))) (ss_cons (s_asg sc_law.nd rfl (Or.inl rfl) (d_call (ok_read T) (hr.mono (by decide)) T.m_read T.F_read.kp T.b_read tk (d_acons (d_imm (d_list rfl T.z_list (d_var 1))) (d_acons (d_call (ok_law_lines T) (hr.mono (by decide)) T.m_law_lines T.F_law_lines.kp T.b_law_lines tk (d_acons (d_var 3) d_anil) (acons_len anil_len)) d_anil)) (acons_len (acons_len anil_len)))) (ss_cons (s_if (d_not (d_test (d_isiC T.isC T.z_isinstance (d_var 4) (pe_glob (v := .ref a.C_Plan) rfl T.m_Plan rfl)))) (ss_one (s_ret d_bl)) ss_nil) (ss_cons (s_if (t_eq hu (d_len T.z_len (d_var 3)) d_int) (ss_one (s_ret (d_andV (d_eq hu (d_meth0 T.cl T.me_Plan_groups (ok_Plan_groups T) (hr.mono (by decide)) T.b_Plan_groups tk (d_var 4)) (d_imm (d_lst (pe_lst d_anil)))) (d_oneV (d_call (ok_law_nothing T) (hr.mono (by decide)) T.m_law_nothing T.F_law_nothing.kp T.b_law_nothing tk (d_acons (d_var 4) d_anil) (acons_len anil_len)))))) ss_nil) (ss_cons (s_asg sc_law.nd rfl (Or.inl rfl) (d_ix (d_imm (d_list rfl T.z_list (d_var 3))) (d_mod (d_call (ok_law_cell_at T) (hr.mono (by decide)) T.m_law_cell_at T.F_law_cell_at.kp T.b_law_cell_at tk (d_acons (d_var 0) (d_acons d_int d_anil)) (acons_len (acons_len anil_len))) (d_len T.z_len (d_var 3))))) (ss_cons (s_asg sc_law.nd rfl (Or.inl rfl) (d_sub (d_mod (d_call (ok_law_cell_at T) (hr.mono (by decide)) T.m_law_cell_at T.F_law_cell_at.kp T.b_law_cell_at tk (d_acons (d_var 0) (d_acons d_int d_anil)) (acons_len (acons_len anil_len))) (d_add (d_len T.z_len (d_var 1)) d_int)) d_int)) (ss_cons (s_asg sc_law.nd rfl (Or.inl rfl) (d_sub (d_mod (d_call (ok_law_cell_at T) (hr.mono (by decide)) T.m_law_cell_at T.F_law_cell_at.kp T.b_law_cell_at tk (d_acons (d_var 0) (d_acons d_int d_anil)) (acons_len (acons_len anil_len))) d_int) d_int)) (ss_cons (s_if (t_gt (d_mod (d_div (d_call (ok_law_cell_at T) (hr.mono (by decide)) T.m_law_cell_at T.F_law_cell_at.kp T.b_law_cell_at tk (d_acons (d_var 0) (d_acons d_int d_anil)) (acons_len (acons_len anil_len))) d_int) d_int) d_int) (ss_cons (s_asg sc_law.nd rfl (Or.inl rfl) (d_ix (d_imm (d_listVals rfl T.z_list (d_var 3))) (d_mod (d_div (d_call (ok_law_cell_at T) (hr.mono (by decide)) T.m_law_cell_at T.F_law_cell_at.kp T.b_law_cell_at tk (d_acons (d_var 0) (d_acons d_int d_anil)) (acons_len (acons_len anil_len))) d_int) (d_len T.z_len (d_var 3))))) (ss_cons (s_asg sc_law.nd rfl (Or.inl rfl) (d_ix (d_ix (d_var 8) (d_mod (d_call (ok_law_cell_at T) (hr.mono (by decide)) T.m_law_cell_at T.F_law_cell_at.kp T.b_law_cell_at tk (d_acons (d_var 0) (d_acons d_int d_anil)) (acons_len (acons_len anil_len))) (d_len T.z_len (d_var 8)))) d_int)) (ss_one (s_asg sc_law.nd rfl (Or.inl rfl) (d_sub (d_add (d_ix (d_ix (d_var 8) (d_mod (d_call (ok_law_cell_at T) (hr.mono (by decide)) T.m_law_cell_at T.F_law_cell_at.kp T.b_law_cell_at tk (d_acons (d_var 0) (d_acons d_int d_anil)) (acons_len (acons_len anil_len))) (d_len T.z_len (d_var 8)))) d_int) (d_mod (d_div (d_call (ok_law_cell_at T) (hr.mono (by decide)) T.m_law_cell_at T.F_law_cell_at.kp T.b_law_cell_at tk (d_acons (d_var 0) (d_acons d_int d_anil)) (acons_len (acons_len anil_len))) d_int) d_int)) d_int))))) ss_nil) (ss_cons (s_asg sc_law.nd rfl (Or.inl rfl) (d_call (ok_law_due T) (hr.mono (by decide)) T.m_law_due T.F_law_due.kp T.b_law_due tk (d_acons (d_var 1) (d_acons (d_var 3) (d_acons (d_var 5) (d_acons (d_var 6) (d_acons (d_var 7) d_anil))))) (acons_len (acons_len (acons_len (acons_len (acons_len anil_len))))))) (ss_cons (s_asg sc_law.nd rfl (Or.inl rfl) (d_imm (d_dict hu T.z_dict (d_var 3)))) (ss_cons (s_asg sc_law.nd rfl (Or.inl rfl) (d_meth T.cl T.me_Plan_seats (ok_Plan_seats T) (hr.mono (by decide)) T.b_Plan_seats tk (d_var 4) (d_acons (d_var 5) d_anil) (succ_len (acons_len anil_len)))) (ss_cons (s_asg sc_law.nd rfl (Or.inl rfl) (d_call (ok_law_shifted T) (hr.mono (by decide)) T.m_law_shifted T.F_law_shifted.kp T.b_law_shifted tk (d_acons (d_var 4) (d_acons (d_var 5) (d_acons (d_var 6) (d_acons (d_var 7) d_anil)))) (acons_len (acons_len (acons_len (acons_len anil_len)))))) (ss_cons (s_if (t_ne hu (d_var 11) (d_dget hu1 (d_var 10) (d_var 5))) (ss_one (s_ret d_bl)) ss_nil) (ss_cons (s_if (PW.pt (d_or (t_ne hu (d_isi kn_list T.z_isinstance (d_var 12) (d_tyName T.z_list PyProof.Rows.boot_list)) (d_isi kn_list T.z_isinstance (d_var 9) (d_tyName T.z_list PyProof.Rows.boot_list))) (d_or1 (t_ne hu (d_var 12) (d_var 9))))) (ss_one (s_ret d_bl)) ss_nil) (ss_cons (s_if (d_test (d_isi kn_list T.z_isinstance (d_var 9) (d_tyName T.z_list PyProof.Rows.boot_list))) (ss_one (s_dput hu1 (d_var 3) (d_var 5) (d_var 9))) ss_nil) (ss_cons (s_if (d_not (d_test (d_call (ok_law_stands T) (hr.mono (by decide)) T.m_law_stands T.F_law_stands.kp T.b_law_stands tk (d_acons (d_var 4) (d_acons (d_var 1) (d_acons (d_var 3) d_anil))) (acons_len (acons_len (acons_len anil_len)))))) (ss_one (s_ret d_bl)) ss_nil) (ss_cons (s_if (d_not (d_test (d_call (ok_law_leaves T) hr T.m_law_leaves T.F_law_leaves.kp T.b_law_leaves tk (d_acons (d_var 4) (d_acons (d_var 1) (d_acons (d_var 3) (d_acons (d_div (d_call (ok_law_cell_at T) (hr.mono (by decide)) T.m_law_cell_at T.F_law_cell_at.kp T.b_law_cell_at tk (d_acons (d_var 0) (d_acons d_int d_anil)) (acons_len (acons_len anil_len))) d_int) d_anil)))) (acons_len (acons_len (acons_len (acons_len anil_len))))))) (ss_one (s_ret d_bl)) ss_nil) (ss_cons (s_if (d_test (d_isi kn_list T.z_isinstance (d_var 9) (d_tyName T.z_list PyProof.Rows.boot_list))) (ss_one (s_ret (d_andV (d_is (d_meth0 T.cl T.me_Plan_back (ok_Plan_back T) (hr.mono (by decide)) T.b_Plan_back tk (d_var 4)) d_non) (d_andV (d_call (ok_law_stands T) (hr.mono (by decide)) T.m_law_stands T.F_law_stands.kp T.b_law_stands tk (d_acons (d_var 4) (d_acons (d_var 1) (d_acons (d_var 10) d_anil))) (acons_len (acons_len (acons_len anil_len)))) (d_oneV (d_call (ok_law_nothing T) (hr.mono (by decide)) T.m_law_nothing T.F_law_nothing.kp T.b_law_nothing tk (d_acons (d_var 4) d_anil) (acons_len anil_len))))))) ss_nil) (ss_one (s_ret (d_call (ok_law_nothing T) (hr.mono (by decide)) T.m_law_nothing T.F_law_nothing.kp T.b_law_nothing tk (d_acons (d_var 4) d_anil) (acons_len anil_len)))))))))))))))))))))))))

end
end LW
namespace LW
open PySem L2 SP
def cell (ns : List Int) (k : Nat) : Int := ns.getD k 0
theorem cell_at (ns : List Int) (k : Nat) (μ : Mu) (hμ : Low μ) : F_law_cell_at [.im (.scr ns), .im (.int k)] μ = .ok (.im (.int (cell ns k))) μ := by
  refine dFn_im0 hμ ?_
  unfold fb_law_cell_at
  by_cases h : k < ns.length
  · simp [h, atI_int, cell]
  · simp [h, cell]
theorem cell_atI (ns : List Int) (i : Int) (μ : Mu) (hμ : Low μ) (hi : 0 ≤ i) : F_law_cell_at [.im (.scr ns), .im (.int i)] μ = .ok (.im (.int (cell ns i.toNat))) μ := by
  obtain ⟨k, rfl⟩ := Int.eq_ofNat_of_zero_le hi
  exact cell_at ns k μ hμ
theorem need_row (bs : List Bool) (hb : bs.length ≤ 60) (μ : Mu) (hμ : Low μ) : F_need_row [.im (.str (rowS bs))] μ = .ok (.im .non) μ := by
  suffices hs : ∃ ρ, fb_need_row ([Sv.im (.str (rowS bs))].map some ++ List.replicate 1 none) μ = .nx ρ (μ ++ []) by
    obtain ⟨ρ, e⟩ := hs
    exact dFn_nx hμ e
  unfold fb_need_row
  have h1 : ¬ (60 : Int) < bs.length := by omega
  simp [h1]
  obtain ⟨ρ', μ', e, v, e1, e2⟩ := loop_nx (i := 1) (body := sIf (dAndT (dTest (dOp2 (p2 gNe) (dVar 1) (dC (.str "o")))) (dTest (dOp2 (p2 gNe) (dVar 1) (dC (.str "."))))) (sRaise .hall) sNext) (ds := bs.map fun b => D.str (sgS b)) (ρ := [some (.im (.str (rowS bs))), none]) (μ := μ)
    (fun k ρ μ' => ∃ v : Option Sv, ρ = [some (.im (.str (rowS bs))), v] ∧ μ' = μ) ⟨none, rfl, rfl⟩ (by
      rintro k d ρ μ' hd ⟨v, rfl, rfl⟩
      obtain ⟨b, hb, rfl⟩ := map_get hd
      cases b <;> simp)
  subst e1 e2
  exact ⟨_, e⟩
theorem need_hall (hs : List (List Bool)) (h1 : 1 ≤ hs.length) (h2 : hs.length ≤ 40) (hb : ∀ b ∈ hs, b.length ≤ 60) (μ : Mu) (hμ : Low μ) : F_need_hall [.im (dHall hs)] μ = .ok (.im (dHall hs)) μ := by
  refine dFn_im0 hμ ?_
  unfold fb_need_hall
  have e1 : (1 : Int) ≤ hs.length := by omega
  have e2 : (hs.length : Int) ≤ 40 := by omega
  simp [e1, e2]
  refine loop_then (fun o => o = O.rt (.im (dHall hs)) μ) (fun k ρ μ' => ∃ v : Option Sv, ρ = [some (.im (dHall hs)), v] ∧ μ' = μ) ⟨none, rfl, rfl⟩ ?_ ?_
  · rintro k d ρ μ' hd ⟨v, rfl, rfl⟩
    obtain ⟨b, hb2, rfl⟩ := map_get hd
    have := need_row b (hb b (List.mem_of_getElem? hb2)) _ hμ
    simp [this]
  · rintro ρ μ' ⟨v, rfl, rfl⟩
    simp
theorem is_seat (hs : List (List Bool)) (r i : Int) (μ : Mu) (hμ : Low μ) : F_is_seat [.im (dHall hs), .im (.int r), .im (.int i)] μ = .ok (.im (.bl (seatB hs r i))) μ := by
  refine dFn_im0 hμ ?_
  unfold fb_is_seat
  by_cases h1 : 0 ≤ r
  · by_cases h2 : r < hs.length
    · have g := hall_get h1 h2
      have g5 := fun (h : (hs.getD r.toNat []).length ≤ i) => seat_right (hs := hs) (r := r) (i := i) h
      have g6 := fun (h : 0 ≤ i) => seat_in (hs := hs) (r := r) (i := i) h1 h
      generalize hs.getD r.toNat [] = bs at g g5 g6
      by_cases h3 : 0 ≤ i
      · by_cases h4 : i < bs.length
        · have g2 := row_get h3 h4
          rw [g6 h3] at g2
          simp [h1, h2, h3, h4, g, g2]
        · have g4 := g5 (by omega)
          simp [h1, h2, h3, h4, g, g4]
      · have g4 := seat_left (hs := hs) (r := r) (i := i) (by omega)
        simp [h1, h2, h3, g, g4]
    · have g4 := seat_over (hs := hs) (r := r) (i := i) (by omega)
      simp [h1, h2, g4]
  · have g4 := seat_neg (hs := hs) (r := r) (i := i) (by omega)
    simp [h1, g4]
theorem blocks_in (r : Int) (bs : List Bool) (hb : bs.length ≤ 60) (μ : Mu) (hμ : Low μ) : F_blocks_in [.im (.int r), .im (.str (rowS bs))] μ = .ok (.im (dRuns (gob r bs 0 0))) μ := by
  suffices hs : ∃ z, fb_blocks_in ([Sv.im (.int r), .im (.str (rowS bs))].map some ++ List.replicate 3 none) μ = .rt (.rf μ.length) (μ ++ .lst ((gob r bs 0 0).map dRun) :: z) by
    obtain ⟨z, e⟩ := hs
    exact dFn_lst hμ e
  unfold fb_blocks_in
  simp
  rw [if_pos (in62_small (by omega) (by omega))]
  refine loop_then (fun o => ∃ z, o = O.rt (.rf μ.length) (μ ++ .lst ((gob r bs 0 0).map dRun) :: z))
    (fun k ρ μ' => ∃ (f : List Rn) (m : Nat) (v : Option Sv), m ≤ k ∧ (k ≤ bs.length → f ++ gob r (bs.drop k) k m = gob r bs 0 0) ∧ (bs.length < k → f = gob r bs 0 0) ∧ ρ = [some (.im (.int r)), some (.im (.str (rowS bs))), some (.rf μ.length), some (.im (.int m)), v] ∧ μ' = μ ++ [.lst (f.map dRun)])
    ⟨[], 0, none, Nat.le_refl _, by simp, by simp, rfl, rfl⟩ ?_ ?_
  · rintro k d ρ μ' hd ⟨f, m, v, hm, h1, h2, rfl, rfl⟩
    obtain ⟨hk, rfl⟩ := range_get hd
    have hk : k < bs.length + 1 := by omega
    have h1 := h1 (by omega)
    have hl : f.length < maxN := by
      have e := congrArg List.length h1
      have := gob_len r bs 0 0
      rw [List.length_append] at e
      simp only [maxN]; omega
    have go : ∀ (f' : List Rn) (m' : Nat) (v' : Option Sv) , m' ≤ k + 1 → (k + 1 ≤ bs.length → f' ++ gob r (bs.drop (k + 1)) (k + 1) m' = gob r bs 0 0) → (bs.length < k + 1 → f' = gob r bs 0 0) → ∀ {o : O}, o = .nx [some (.im (.int r)), some (.im (.str (rowS bs))), some (.rf μ.length), some (.im (.int (m' : Int))), v'] (μ ++ [.lst (f'.map dRun)]) →
        ∃ ρ' μ', o = .nx ρ' μ' ∧ ∃ (f : List Rn) (m : Nat) (v : Option Sv), m ≤ k + 1 ∧ (k + 1 ≤ bs.length → f ++ gob r (bs.drop (k + 1)) (k + 1) m = gob r bs 0 0) ∧ (bs.length < k + 1 → f = gob r bs 0 0) ∧ ρ' = [some (.im (.int r)), some (.im (.str (rowS bs))), some (.rf μ.length), some (.im (.int m)), v] ∧ μ' = μ ++ [.lst (f.map dRun)] :=
      fun f' m' v' q1 q2 q3 _ e => ⟨_, _, e, f', m', v', q1, q2, q3, rfl, rfl⟩
    by_cases hk2 : k < bs.length
    · have g := row_get (bs := bs) (i := (k : Int)) (by omega) (by omega)
      have hd : bs.drop k = bs.getD k false :: bs.drop (k + 1) := by
        rw [List.drop_eq_getElem_cons hk2, List.getD_eq_getElem?_getD, List.getElem?_eq_getElem hk2]; rfl
      rw [hd] at h1
      rw [Int.toNat_natCast] at g
      cases hb2 : bs.getD k false with
      | true =>
        rw [hb2] at h1 g
        exact go f (m + 1) (some (.im (.int k))) (by omega) (fun _ => h1) (fun _ => by omega) (by simp [hk2, g])
      | false =>
        rw [hb2] at h1 g
        by_cases hm0 : 0 < m
        · refine go (f ++ [(r, (k : Int) - m, (m : Int))]) 0 (some (.im (.int k))) (by omega) (fun _ => ?_) (fun _ => by omega) (by simp [hk2, g, hm0, hl, dRun])
          rw [← h1]
          simp [gob, hm0]
        · refine go f 0 (some (.im (.int k))) (by omega) (fun _ => ?_) (fun _ => by omega) (by simp [hk2, g, hm0])
          rw [← h1]
          simp [gob, hm0]
    · have hk3 : k = bs.length := by omega
      subst hk3
      rw [List.drop_length] at h1
      by_cases hm0 : 0 < m
      · refine go (f ++ [(r, (bs.length : Int) - m, (m : Int))]) 0 (some (.im (.int bs.length))) (by omega) (fun _ => by omega) (fun _ => ?_) (by simp [hm0, hl, dRun])
        rw [← h1]
        simp [gob, hm0]
      · refine go f 0 (some (.im (.int bs.length))) (by omega) (fun _ => by omega) (fun _ => ?_) (by simp [hm0])
        rw [← h1]
        simp [gob, hm0]
  · rintro ρ μ' ⟨f, m, v, hm, h1, h2, rfl, rfl⟩
    rw [range_len] at h2
    rw [h2 (by omega)]
    exact ⟨[], by simp⟩
theorem blocks_of (hs : List (List Bool)) (h2 : hs.length ≤ 40) (hb : ∀ b ∈ hs, b.length ≤ 60) (μ : Mu) (hμ : Low μ) : F_blocks_of [.im (dHall hs)] μ = .ok (.im (dRuns (blks 0 hs))) μ := by
  refine dFn_im0 hμ ?_
  unfold fb_blocks_of
  simp
  rw [if_pos (in62_small (by omega) (by omega))]
  refine loop_then (fun o => o = O.rt (.im (dRuns (blks 0 hs))) μ)
    (fun k ρ μ' => ∃ (f : List Rn) (v : Option Sv), (k ≤ hs.length → f ++ blks k (hs.drop k) = blks 0 hs) ∧ ρ = [some (.im (dHall hs)), some (.im (dRuns f)), v] ∧ μ' = μ) ⟨[], none, by simp, rfl, rfl⟩ ?_ ?_
  · rintro k d ρ μ' hd ⟨f, v, h1, rfl, rfl⟩
    obtain ⟨hk, rfl⟩ := range_get hd
    have hk : k < hs.length := by omega
    have h1 := h1 (by omega)
    have g := hall_get (hs := hs) (i := (k : Int)) (by omega) (by omega)
    rw [Int.toNat_natCast] at g
    have hd : hs.drop k = hs.getD k [] :: hs.drop (k + 1) := by
      rw [List.drop_eq_getElem_cons hk, List.getD_eq_getElem?_getD, List.getElem?_eq_getElem hk]; rfl
    rw [hd] at h1
    have hbk : (hs.getD k []).length ≤ 60 := by
      rw [List.getD_eq_getElem?_getD, List.getElem?_eq_getElem hk]
      exact hb _ (List.getElem_mem hk)
    have e := blocks_in k (hs.getD k []) hbk _ hμ
    simp only [blks] at h1
    have hl : f.length + (gob k (hs.getD k []) 0 0).length ≤ maxN := by
      have e := congrArg List.length h1
      have := blks_len hs 0 hb
      rw [List.length_append, List.length_append] at e
      simp only [maxN]; omega
    generalize hs.getD k [] = bs at g h1 hl hbk e
    refine ⟨[some (.im (dHall hs)), some (.im (dRuns (f ++ gob k bs 0 0))), some (.im (.int k))], _, by simp [g, e, dRuns, hl], f ++ gob k bs 0 0, some (.im (.int k)), fun _ => ?_, rfl, rfl⟩
    rw [← h1, List.append_assoc]; simp
  · rintro ρ μ' ⟨f, v, h1, rfl, rfl⟩
    rw [range_len] at h1
    have h1 := h1 (by omega)
    have : f = blks 0 hs := by simpa [blks] using h1
    simp [this]
theorem runs_in (t : Tk) (r : Int) (s m : Nat) (hs : s + m ≤ 100) (μ : Mu) (hμ : Low μ) : F_runs_in [.im (.tup [.int r, .int s, .int m]), .im (.dt (t.map kT))] μ = .ok (.im (dRuns (gob r (fl t r s m) s 0))) μ := by
  suffices hs : ∃ z, fb_runs_in ([Sv.im (.tup [.int r, .int s, .int m]), .im (.dt (t.map kT))].map some ++ List.replicate 3 none) μ = .rt (.rf μ.length) (μ ++ .lst ((gob r (fl t r s m) s 0).map dRun) :: z) by
    obtain ⟨z, e⟩ := hs
    exact dFn_lst hμ e
  have i1 : in62 (s : Int) = true := in62_small (by omega) (by omega)
  have i2 : in62 ((s : Int) + (m : Int) + 1) = true := in62_small (by omega) (by omega)
  unfold fb_runs_in
  simp [i1, i2]
  have hn : ((s : Int) + (m : Int) + 1).toNat - s = m + 1 := by omega
  rw [hn]
  refine loop_then (fun o => ∃ z, o = O.rt (.rf μ.length) (μ ++ .lst ((gob r (fl t r s m) s 0).map dRun) :: z))
    (fun k ρ μ' => ∃ (f : List Rn) (c : Nat) (v : Option Sv), c ≤ k ∧ (k ≤ m → f ++ gob r ((fl t r s m).drop k) (s + k) c = gob r (fl t r s m) s 0) ∧ (m < k → f = gob r (fl t r s m) s 0) ∧ ρ = [some (.im (.tup [.int r, .int s, .int m])), some (.im (.dt (t.map kT))), some (.rf μ.length), some (.im (.int c)), v] ∧ μ' = μ ++ [.lst (f.map dRun)])
    ⟨[], 0, none, Nat.le_refl _, by simp, by simp, rfl, rfl⟩ ?_ ?_
  · rintro k d ρ μ' hd ⟨f, c, v, hm, h1, h2, rfl, rfl⟩
    obtain ⟨hk, rfl⟩ := range_get hd
    have h1 := h1 (by omega)
    have hl : f.length < maxN := by
      have e := congrArg List.length h1
      have := gob_len r (fl t r s m) s 0
      rw [List.length_append] at e
      rw [fl_len] at this
      simp only [maxN]; omega
    obtain ⟨p, hp⟩ : ∃ p : Int, (s : Int) + (k : Int) = p := ⟨_, rfl⟩
    have hp2 : p - c = ((s + k : Nat) : Int) - c := by omega
    have go : ∀ (f' : List Rn) (m' : Nat) (v' : Option Sv) , m' ≤ k + 1 → (k + 1 ≤ m → f' ++ gob r ((fl t r s m).drop (k + 1)) (s + (k + 1)) m' = gob r (fl t r s m) s 0) → (m < k + 1 → f' = gob r (fl t r s m) s 0) → ∀ {o : O}, o = .nx [some (.im (.tup [.int r, .int s, .int m])), some (.im (.dt (t.map kT))), some (.rf μ.length), some (.im (.int (m' : Int))), v'] (μ ++ [.lst (f'.map dRun)]) →
        ∃ ρ' μ', o = .nx ρ' μ' ∧ ∃ (f : List Rn) (c : Nat) (v : Option Sv), c ≤ k + 1 ∧ (k + 1 ≤ m → f ++ gob r ((fl t r s m).drop (k + 1)) (s + (k + 1)) c = gob r (fl t r s m) s 0) ∧ (m < k + 1 → f = gob r (fl t r s m) s 0) ∧ ρ' = [some (.im (.tup [.int r, .int s, .int m])), some (.im (.dt (t.map kT))), some (.rf μ.length), some (.im (.int c)), v] ∧ μ' = μ ++ [.lst (f.map dRun)] :=
      fun f' m' v' q1 q2 q3 _ e => ⟨_, _, e, f', m', v', q1, q2, q3, rfl, rfl⟩
    rw [hp]
    by_cases hk2 : k < m
    · rw [fl_get t r s m k hk2] at h1
      have hc : p < (s : Int) + m := by omega
      have e2 : ((s + k : Nat) : Int) = p := by omega
      rw [e2] at h1
      cases hb2 : inT t (r, p) with
      | false =>
        rw [hb2] at h1
        exact go f (c + 1) (some (.im (.int p))) (by omega) (fun _ => h1) (fun _ => by omega) (by simp [hc, hb2])
      | true =>
        rw [hb2] at h1
        by_cases hm0 : 0 < c
        · refine go (f ++ [(r, p - c, (c : Int))]) 0 (some (.im (.int p))) (by omega) (fun _ => ?_) (fun _ => by omega) (by simp [hc, hb2, hm0, hl, dRun])
          rw [← h1, ← e2]
          simp [gob, hm0, Nat.add_assoc]
        · refine go f 0 (some (.im (.int p))) (by omega) (fun _ => ?_) (fun _ => by omega) (by simp [hc, hb2, hm0])
          rw [← h1]
          simp [gob, hm0, Nat.add_assoc]
    · have hk3 : k = m := by omega
      have hc : ¬ p < (s : Int) + m := by omega
      have hdr : (fl t r s m).drop k = [] := by rw [hk3]; exact List.drop_eq_nil_of_le (by simp)
      rw [hdr] at h1
      by_cases hm0 : 0 < c
      · refine go (f ++ [(r, p - c, (c : Int))]) 0 (some (.im (.int p))) (by omega) (fun _ => by omega) (fun _ => ?_) (by simp [hc, hm0, hl, dRun])
        rw [← h1, hp2]
        simp [gob, hm0]
      · refine go f 0 (some (.im (.int p))) (by omega) (fun _ => by omega) (fun _ => ?_) (by simp [hc, hm0])
        rw [← h1]
        simp [gob, hm0]
  · rintro ρ μ' ⟨f, c, v, hm, h1, h2, rfl, rfl⟩
    rw [range_len] at h2
    rw [h2 (by omega)]
    exact ⟨[], by simp⟩
theorem runs_of (hs : List (List Bool)) (t : Tk) (h2 : hs.length ≤ 40) (hb : ∀ b ∈ hs, b.length ≤ 60) (μ : Mu) (hμ : Low μ) : F_runs_of [.im (dHall hs), .im (.dt (t.map kT))] μ = .ok (.im (dRuns (blks 0 (frH t 0 hs)))) μ := by
  refine dFn_im0 hμ ?_
  have e := blocks_of hs h2 hb μ hμ
  have hr := runs_hall t hs 0
  rw [show ((0 : Nat) : Int) = 0 from rfl] at hr
  have hlen := blks_len (frH t 0 hs) 0 (frH_mem t hs 0 hb)
  rw [frH_len] at hlen
  unfold fb_runs_of
  simp [e, dRuns]
  refine loop_then (fun o => o = O.rt (.im (dRuns (blks 0 (frH t 0 hs)))) μ)
    (fun k ρ μ' => ∃ (f : List Rn) (v : Option Sv), f ++ ((blks 0 hs).drop k).flatMap (SP.rIn t) = blks 0 (frH t 0 hs) ∧ ρ = [some (.im (dHall hs)), some (.im (.dt (t.map kT))), some (.im (.lst (f.map dRun))), v] ∧ μ' = μ) ⟨[], none, by simpa using hr, rfl, rfl⟩ ?_ ?_
  · rintro k d ρ μ' hd ⟨f, v, h1, rfl, rfl⟩
    obtain ⟨x, hx, rfl⟩ := map_get hd
    obtain ⟨hk, hdr⟩ := go_at hx
    rw [hdr, List.flatMap_cons] at h1
    have good := blks_good hs [] x (List.mem_of_getElem? hx)
    simp only [List.nil_append] at good
    have hbl : (hs.getD x.1.toNat []).length ≤ 60 := by
      rw [List.getD_eq_getElem?_getD, List.getElem?_eq_getElem good.2.1]
      exact hb _ (List.getElem_mem good.2.1)
    obtain ⟨r, s, m⟩ := x
    have g := good.2.2
    have g1 := g.s0
    have g2 := g.m1
    have g3 := g.hi
    simp only at g1 g2 g3 hbl
    obtain ⟨s', rfl⟩ := Int.eq_ofNat_of_zero_le g1
    obtain ⟨m', rfl⟩ := Int.eq_ofNat_of_zero_le (show 0 ≤ m by omega)
    have ei := runs_in t r s' m' (by omega) _ hμ
    have hri : SP.rIn t (r, (s' : Int), (m' : Int)) = gob r (fl t r s' m') s' 0 := by simp [SP.rIn]
    rw [hri] at h1
    have hl : f.length + (gob r (fl t r s' m') s' 0).length ≤ maxN := by
      have e := congrArg List.length h1
      rw [List.length_append, List.length_append] at e
      simp only [maxN]; omega
    refine ⟨[some (.im (dHall hs)), some (.im (.dt (t.map kT))), some (.im (.lst ((f ++ gob r (fl t r s' m') s' 0).map dRun))), some (.im (.tup [.int r, .int s', .int m']))], _, by simp [dRun, ei, dRuns, hl], f ++ gob r (fl t r s' m') s' 0, _, ?_, rfl, rfl⟩
    rw [← h1, List.append_assoc]
  · rintro ρ μ' ⟨f, v, h1, rfl, rfl⟩
    rw [List.length_map, List.drop_length, List.flatMap_nil, List.append_nil] at h1
    simp [h1, dRuns]
end LW

namespace LW
open PySem L2 SP
theorem need_name (s : Str) (h : goodN s) (μ : Mu) (hμ : Low μ) : F_need_name [.im (.str s)] μ = .ok (.im .non) μ := by
  suffices hs : ∃ ρ, fb_need_name ([Sv.im (.str s)].map some ++ List.replicate 1 none) μ = .nx ρ (μ ++ []) by
    obtain ⟨ρ, e⟩ := hs
    exact dFn_nx hμ e
  obtain ⟨h1, h2, h3⟩ := h
  have e1 : (1 : Int) ≤ s.length := by omega
  have e2 : (s.length : Int) ≤ 12 := by omega
  unfold fb_need_name
  simp [e1, e2]
  refine loop_end (fun o => ∃ ρ, o = O.nx ρ μ) (fun k ρ μ' => ∃ v : Option Sv, ρ = [some (.im (.str s)), v] ∧ μ' = μ) ⟨none, rfl, rfl⟩ ?_ ?_
  · rintro k d ρ μ' hd ⟨v, rfl, rfl⟩
    obtain ⟨c, hc, rfl⟩ := map_get hd
    have := h3 c (List.mem_of_getElem? hc)
    simp [this]
  · rintro ρ μ' ⟨v, rfl, rfl⟩
    exact ⟨_, rfl⟩
theorem spots_of (r a x : Int) (k : Nat) (hk : k ≤ 100000) (μ : Mu) (hμ : Low μ) : F_spots_of [.im (.tup [.int r, .int a, .int x]), .im (.int k)] μ = .ok (.im (dSp (rowOf r a k))) μ := by
  refine dFn_im0 hμ ?_
  have i1 : in62 (k : Int) = true := in62_small (by omega) (by omega)
  have i2 : k ≤ maxN := by simp only [maxN]; omega
  unfold fb_spots_of
  simp [i1, i2]
  rw [lc_end_range (g := fun j => dPl (r, a + (j : Int))) (by intro j hj; simp [dPl])]
  simp [dSp, rowOf, Function.comp_def]
theorem names_by (n : Int) (many : Nat) (h : many ≤ 12) (μ : Mu) (hμ : Low μ) : F_law_names_by [.im (.int n), .im (.int many)] μ = .ok (.im (.lst ((namesL n many).map D.str))) μ := by
  suffices hs : ∃ z, fb_law_names_by ([Sv.im (.int n), .im (.int many)].map some ++ List.replicate 9 none) μ = .rt (.rf μ.length) (μ ++ .lst ((namesL n many).map D.str) :: z) by
    obtain ⟨z, e⟩ := hs
    exact dFn_lst hμ e
  have m0 : 0 < 1 + n / 3 % 12 := by omega
  have i1 : in62 (many : Int) = true := in62_small (by omega) (by omega)
  have sx := sign_ix
  unfold fb_law_names_by
  simp [SP.small64, m0, i1]
  have i2 : in62 12 = true := rfl
  simp only [i2]
  simp
  rw [lc_end_range (g := fun j => .str (tx [sg (n / 36 + 5 * (j : Int))])) (by intro j hj; simp [SP.small64, -gIx_str, sx])]
  obtain ⟨W, hW⟩ : ∃ W : List D, W = (wd (n / 36)).map fun c => .str (tx [c]) := ⟨_, rfl⟩
  have hW2 : (List.range 12).map (fun (j : Nat) => D.str (tx [sg (n / 36 + 5 * (j : Int))])) = W := by
    rw [hW]; unfold wd; rw [List.map_map]; rfl
  rw [hW2]
  have hwl := wd_len (n / 36)
  have hwm := wd_mem (n / 36)
  have okW : ∀ l : List Nat, (∀ c ∈ l, c ∈ wd (n / 36)) → okC l := fun l hl c hc => by
    have := (signs_ok c (hwm c (hl c hc))).1; omega
  have jn : ∀ l : List Nat, (∀ c ∈ l, c ∈ wd (n / 36)) → l.length ≤ 1000 → gJoin (rowS []) (.lst (l.map fun c => .str (tx [c]))) = some (.str (tx l)) := fun l h1 h2 => gJoin_ones (okW l h1) (Nat.le_trans h2 (by decide))
  simp [i1]
  refine loop_then (fun o => ∃ z, o = O.rt (.rf μ.length) (μ ++ .lst ((namesL n many).map D.str) :: z))
    (fun k ρ μ' => ∃ (v7 v8 v9 : Option Sv), ρ = [some (.im (.int n)), some (.im (.int many)), some (.im (.str (tx signs))), some (.im (.int (1 + n / 3 % 12))), some (.im (.int (n / 36 % (1 + n / 3 % 12)))), some (.im (.lst W)), some (.rf μ.length), v7, v8, v9, none] ∧ μ' = μ ++ [.lst ((namesL n k).map D.str)])
    ⟨none, none, none, rfl, rfl⟩ ?_ ?_
  · rintro k d ρ μ' hd ⟨v7, v8, v9, rfl, rfl⟩
    obtain ⟨hk, rfl⟩ := range_get hd
    have hk : k < many := by omega
    have hl : (namesL n k).length < maxN := by rw [namesL_len]; simp only [maxN]; omega
    have hnx : namesL n (k + 1) = namesL n k ++ [tx (nameK n (k : Int))] := by
      unfold namesL; rw [List.range_succ, List.map_append]; rfl
    rw [hnx]
    obtain ⟨p, hp⟩ : ∃ p : Int, 0 + (k : Int) = p := ⟨_, rfl⟩
    have hp' : (k : Int) = p := by omega
    rw [hp, hp']
    have p0 : 0 ≤ p := by omega
    have p1 : p < 12 := by omega
    have m1 := Int.emod_nonneg (n / 36) (show (1 + n / 3 % 12) ≠ 0 by omega)
    have m2 := Int.emod_lt_of_pos (n / 36) m0
    by_cases c0 : n % 3 = 0
    · have s1 := sl_to (xs := W) (b := 1 + (n / 3 + p) % 12) (by omega)
      have j1 := jn ((wd (n / 36)).take (1 + (n / 3 + p) % 12).toNat) (fun c hc => List.mem_of_mem_take hc) (by rw [List.length_take]; omega)
      rw [List.map_take, ← hW] at j1
      have e : nameK n p = (wd (n / 36)).take (1 + (n / 3 + p) % 12).toNat := by unfold nameK; rw [if_pos c0]
      rw [e]
      simp [c0, s1, j1, hl]
    · by_cases c1 : n % 3 = 1
      · have e : nameK n p = (wd (n / 36)).take (n / 36 % (1 + n / 3 % 12)).toNat ++ [sg (n / 444 + p)] ++ ((wd (n / 36)).take (1 + n / 3 % 12).toNat).drop (n / 36 % (1 + n / 3 % 12) + 1).toNat := by unfold nameK; rw [if_neg c0, if_pos c1]
        rw [e]
        generalize n / 36 % (1 + n / 3 % 12) = q at m1 m2
        have s1 := sl_to (xs := W) (b := q) (by omega)
        have s2 := sl_lst (xs := W) (a := q + 1) (b := 1 + n / 3 % 12) (by omega) (by omega)
        have j1 := jn ((wd (n / 36)).take q.toNat) (fun c hc => List.mem_of_mem_take hc) (by rw [List.length_take]; omega)
        have j2 := jn (((wd (n / 36)).take (1 + n / 3 % 12).toNat).drop (q + 1).toNat) (fun c hc => List.mem_of_mem_take (List.mem_of_mem_drop hc)) (by rw [List.length_drop, List.length_take]; omega)
        rw [List.map_take, ← hW] at j1
        rw [List.map_drop, List.map_take, ← hW] at j2
        have l1 : ((wd (n / 36)).take q.toNat).length ≤ 12 := by rw [List.length_take]; omega
        have l2 : (((wd (n / 36)).take (1 + n / 3 % 12).toNat).drop (q + 1).toNat).length ≤ 12 := by rw [List.length_drop, List.length_take]; omega
        generalize (wd (n / 36)).take q.toNat = A at j1 l1
        generalize ((wd (n / 36)).take (1 + n / 3 % 12).toNat).drop (q + 1).toNat = B at j2 l2
        have a1 := gAdd_tx (a := A) (b := [sg (n / 444 + p)]) (by simp; omega)
        have a2 := gAdd_tx (a := A ++ [sg (n / 444 + p)]) (b := B) (by simp; omega)
        simp [c1, s1, s2, j1, j2, hl, a1, a2, -gIx_str, sx, -gAdd_str]
      · have s1 := sl_to (xs := W) (b := p) (by omega)
        have s2 := sl_from (xs := W) (a := p) (by omega)
        have e : nameK n p = (wd (n / 36)).drop p.toNat ++ (wd (n / 36)).take p.toNat := by unfold nameK; rw [if_neg c0, if_neg c1]
        have hlen : W.length = 12 := by rw [hW, List.length_map]; exact hwl
        have j1 := jn ((wd (n / 36)).drop p.toNat ++ (wd (n / 36)).take p.toNat) (fun c hc => by
          rcases List.mem_append.mp hc with hc | hc
          · exact List.mem_of_mem_drop hc
          · exact List.mem_of_mem_take hc) (by rw [List.length_append, List.length_drop, List.length_take]; omega)
        rw [List.map_append, List.map_take, List.map_drop, ← hW] at j1
        have a1 : gAdd (.lst (W.drop p.toNat)) (.lst (W.take p.toNat)) = some (.lst (W.drop p.toNat ++ W.take p.toNat)) := by
          rw [gAdd_lst, if_pos]
          rw [List.length_drop, List.length_take]; simp only [maxN]; omega
        rw [e]
        generalize W.drop p.toNat = A at a1 s2 j1
        generalize W.take p.toNat = B at a1 s1 j1
        simp [c0, c1, s1, s2, a1, j1, hl, -gAdd_lst]
  · rintro ρ μ' ⟨v7, v8, v9, rfl, rfl⟩
    rw [range_len]
    exact ⟨[], by simp⟩
end LW

namespace LW
open PySem L2 SP
theorem number_of (i : Int) (h0 : 0 ≤ i) (h : i < 100) (μ : Mu) (hμ : Low μ) : F_number_of [.im (.str (tx (numL i.toNat)))] μ = .ok (.im (.int i)) μ := by
  refine dFn_im0 hμ ?_
  obtain ⟨h1, h2, h3, h4, h5⟩ := num_facts h0 h
  generalize numL i.toNat = L at h1 h2 h3 h4 h5
  have e1 : (1 : Int) ≤ L.length := by omega
  have e2 : (L.length : Int) ≤ 2 := by omega
  unfold fb_number_of
  simp [e1, e2]
  refine loop_then (fun o => o = O.rt (.im (.int i)) μ) (fun k ρ μ' => ∃ v : Option Sv, ρ = [some (.im (.str (tx L))), v] ∧ μ' = μ) ⟨none, rfl, rfl⟩ ?_ ?_
  · rintro k d ρ μ' hd ⟨v, rfl, rfl⟩
    obtain ⟨c, hc, rfl⟩ := map_get hd
    have := h1 c (List.mem_of_getElem? hc)
    have hm : c ∈ [48, 49, 50, 51, 52, 53, 54, 55, 56, 57] := by
      simp only [List.mem_cons, List.not_mem_nil, or_false]; omega
    simp [-List.mem_cons, hm]
  · rintro ρ μ' ⟨v, rfl, rfl⟩
    by_cases hL : L.length = 2
    · match L, hL, h4, h5 with
      | [a, b], _, h4, h5 =>
        have ha : ¬ ((⟨#[a]⟩ : Str) = tx [48]) := fun z => h4 rfl (by
          have := congrArg (fun s : Str => s.cps.toList) z
          simp at this
          simp [this])
        simp [ha, h5]
    · have hL2 : ¬ ((L.length : Int) = 2) := by omega
      simp [hL, hL2, h5]
theorem spot_of (p : Pl) (h : okP p) (μ : Mu) (hμ : Low μ) : F_spot_of [.im (.str (tx (wordL p)))] μ = .ok (.im (dPl p)) μ := by
  refine dFn_im0 hμ ?_
  have e := split_spot μ h
  obtain ⟨a, b, c, d⟩ := h
  have n1 := number_of p.1 a b μ hμ
  have n2 := number_of p.2 c d μ hμ
  unfold fb_spot_of
  simp [e, n1, n2, dPl]
theorem parted (g : Str × List Pl) (hg : goodN g.1) (hne : g.2 ≠ []) (up : g.2.Pairwise lexQ) (h : ∀ p ∈ g.2, okP p) (hl : g.2.length ≤ 2400) (μ : Mu) (hμ : Low μ) : F_parted [.im (.str (lineS g))] μ = .ok (.im (.tup [.str g.1, dSp g.2])) μ := by
  refine dFn_im0 hμ ?_
  have e := split_line μ hg h hl
  have e2 := split_words μ h hne hl
  have hn : g.2.length ≤ maxN := by simp only [maxN]; omega
  unfold fb_parted
  simp [e, e2, hn]
  rw [lc_end_map (fun p => D.str (tx (wordL p))) dPl g.2 (by
    intro p hp
    have := spot_of p (h p hp) μ hμ
    simp [this])]
  have i1 : in62 (g.2.length : Int) = true := in62_small (by omega) (by omega)
  have i2 : in62 1 = true := rfl
  simp [i1, i2]
  refine loop_then (fun o => o = O.rt (.im (.tup [.str g.1, dSp g.2])) μ) (fun k ρ μ' => ∃ v : Option Sv, ρ = [some (.im (.str (lineS g))), some (.im (.lst [.str g.1, .str (tx (joinL [32] (g.2.map wordL)))])), some (.im (.lst (g.2.map dPl))), v, none] ∧ μ' = μ) ⟨none, rfl, rfl⟩ ?_ ?_
  · rintro k d ρ μ' hd ⟨v, rfl, rfl⟩
    obtain ⟨hk, rfl⟩ := range_get hd
    have k1 : k + 1 < g.2.length := by omega
    have ea : atI (g.2.map dPl) (1 + (k : Int)) = some (dPl g.2[k + 1]) := by
      rw [show (1 : Int) + (k : Int) = ((k + 1 : Nat) : Int) by omega, atI_int, List.getElem?_map, List.getElem?_eq_getElem k1]; rfl
    have eb : atI (g.2.map dPl) (1 + (k : Int) - 1) = some (dPl g.2[k]) := by
      rw [show (1 : Int) + (k : Int) - 1 = ((k : Nat) : Int) by omega, atI_int, List.getElem?_map, List.getElem?_eq_getElem (by omega)]; rfl
    have lt : lexQ g.2[k] g.2[k + 1] := List.pairwise_iff_getElem.mp up k (k + 1) (by omega) k1 (by omega)
    have lt2 : g.2[k].1 < g.2[k + 1].1 ∨ g.2[k].1 = g.2[k + 1].1 ∧ g.2[k].2 < g.2[k + 1].2 := lt
    simp [ea, eb, dPl, lt2]
  · rintro ρ μ' ⟨v, rfl, rfl⟩
    simp [dSp]
theorem plan_init (hs : List (List Bool)) (h1 : 1 ≤ hs.length) (h2 : hs.length ≤ 40) (hb : ∀ b ∈ hs, b.length ≤ 60) (μ : Mu) (hμ : Low μ) : F_Plan___init__ [.rf μ.length, .im (dHall hs)] (μ ++ [.ob []]) = .ok (.im .non) (μ ++ [obP hs [] (μ.length + 1), .lst []]) := by
  have e := need_hall hs h1 h2 hb (μ ++ [.ob []]) (hμ.push rfl)
  unfold F_Plan___init__ dFnR fb_Plan___init__
  simp [e, obP, dHeld]
theorem read_lines (hs : List (List Bool)) (h : Held) (R : RH hs h) (h1 : 1 ≤ hs.length) (μ : Mu) (hμ : Low μ) : F_read [.im (dHall hs), .im (.lst (h.map fun g => .str (lineS g)))] μ = .ok (.rf μ.length) (μ ++ [obP hs h (μ.length + 1), .lst [], .fz (dHeld h), .dt ((allP h).map kB)]) := by
  have v := R.v
  have hfew := v.few R.ne
  have hmany := v.many
  have ei := plan_init hs h1 v.h40 v.b60 μ hμ
  have lowA : ∀ (f : Held) (t : List Pl), Low (μ ++ [obP hs [] (μ.length + 1), .lst [], .dk (f.map kH), .dt (t.map kB)]) := fun f t => by
    have a := hμ.push (c := .ob []) rfl
    have b : Low (μ ++ [obP hs [] (μ.length + 1), .lst [], .dk (f.map kH), .dt (t.map kB)]) := by
      unfold Low at hμ ⊢
      rw [List.all_append, Bool.and_eq_true]
      refine ⟨List.all_eq_true.mpr fun x hx => cell_low_mono (by simp) (List.all_eq_true.mp hμ x hx), ?_⟩
      simp [obP, Cell.low, Sv.low]
    exact b
  suffices hh : fb_read ([Sv.im (dHall hs), .im (.lst (h.map fun g => .str (lineS g)))].map some ++ List.replicate 6 none) μ = .rt (.rf μ.length) (μ ++ [obP hs h (μ.length + 1), .lst [], .fz (dHeld h), .dt ((allP h).map kB)]) by
    unfold F_read dFnR
    show (match fb_read ([Sv.im (dHall hs), .im (.lst (h.map fun g => .str (lineS g)))].map some ++ List.replicate 6 none) μ with | .rt v μ1 => _ | .nx _ μ1 => _ | .ex c _ μ1 => _ | _ => _) = _
    rw [hh]
  unfold fb_read
  simp [ei]
  refine loop_then (fun o => o = O.rt (.rf μ.length) (μ ++ [obP hs h (μ.length + 1), .lst [], .fz (dHeld h), .dt ((allP h).map kB)]))
    (fun k ρ μ' => ∃ (v5 v6 v7 : Option Sv), ρ = [some (.im (dHall hs)), some (.im (.lst (h.map fun g => .str (lineS g)))), some (.rf μ.length), some (.rf (μ.length + 2)), some (.rf (μ.length + 3)), v5, v6, v7] ∧ μ' = μ ++ [obP hs [] (μ.length + 1), .lst [], .dk ((h.take k).map kH), .dt ((allP (h.take k)).map kB)])
    ⟨none, none, none, rfl, rfl⟩ ?_ ?_
  · rintro k d ρ μ' hd ⟨v5, v6, v7, rfl, rfl⟩
    obtain ⟨g, hg, rfl⟩ := map_get hd
    have hgm : g ∈ h := List.mem_of_getElem? hg
    have hk := (List.getElem?_eq_some_iff.mp hg).1
    have htk : h.take (k + 1) = h.take k ++ [g] := by
      rw [List.take_add_one, hg]; rfl
    have hsplit : h = h.take k ++ g :: h.drop (k + 1) := by
      have := go_at hg
      rw [← this.2, List.take_append_drop]
    have nn : g.1 ∉ nmsH (h.take k) := by
      have q := v.nn
      rw [hsplit, nms_app] at q
      have := (List.nodup_append.mp q).2.2
      intro z
      exact this _ z _ (by simp [nmsH]) rfl
    have npq : (allP (h.take k) ++ g.2).Nodup := by
      have q := v.np
      rw [hsplit, allP_app, show allP (g :: h.drop (k + 1)) = g.2 ++ allP (h.drop (k + 1)) by unfold allP; rw [List.flatMap_cons], ← List.append_assoc] at q
      exact (List.nodup_append.mp q).1
    have lenA : (allP (h.take k)).length + g.2.length ≤ 2400 := by
      have q := hmany
      rw [hsplit, allP_app, show allP (g :: h.drop (k + 1)) = g.2 ++ allP (h.drop (k + 1)) by unfold allP; rw [List.flatMap_cons], List.length_append, List.length_append] at q
      omega
    have okg : ∀ p ∈ g.2, okP p := fun p hp => v.okP p (allP_mem hgm hp)
    have seg : ∀ p ∈ g.2, seatB hs p.1 p.2 = true := fun p hp => v.se p (allP_mem hgm hp)
    rw [htk, allP_app, show allP [g] = g.2 by simp [allP]]
    have lenT : (h.take k).length < maxN := by rw [List.length_take]; simp only [maxN]; omega
    generalize h.take k = f at nn npq lenA lenT
    generalize allP f = T at npq lenA
    have lo := lowA f T
    have ep := parted g (v.gn g hgm) (R.ne g hgm) (R.up g hgm) okg (v.group_len hgm) _ lo
    have en := need_name g.1 (v.gn g hgm) _ lo
    have es := fun p (hp : p ∈ g.2) => is_seat hs p.1 p.2 _ lo
    have gi := gIn_held f g.1
    rw [decide_eq_false nn] at gi
    simp only [dHeld] at gi
    obtain ⟨x, ps⟩ := g
    simp only at *
    refine nx_intro fun Z hZ => ?_
    simp [ep, en, gi]
    refine loop_then (Nx Z)
      (fun k ρ μ' => ∃ v7, ρ = [some (.im (dHall hs)), some (.im (.lst (h.map fun g => .str (lineS g)))), some (.rf μ.length), some (.rf (μ.length + 2)), some (.rf (μ.length + 3)), some (.im (.str (lineS (x, ps)))), some (.im (.tup [.str x, dSp ps])), v7] ∧ μ' = μ ++ [obP hs [] (μ.length + 1), .lst [], .dk (f.map kH), .dt (T.map kB)]) ⟨_, rfl, rfl⟩ ?_ ?_
    · rintro j d ρ μ' hd ⟨v7, rfl, rfl⟩
      obtain ⟨p, hp, rfl⟩ := map_get hd
      have hpm := List.mem_of_getElem? hp
      have e1 := es p hpm
      rw [seg p hpm] at e1
      have nT : p ∉ T := fun z => (List.nodup_append.mp npq).2.2 p z p hpm rfl
      have e2 := gIn_kB T p.1 p.2
      rw [decide_eq_false nT] at e2
      simp [obP] at e1
      simp [dPl, obP, e1, e2]
    · rintro ρ μ' ⟨v7, rfl, rfl⟩
      simp
      refine loop_then (Nx Z)
        (fun k ρ μ' => ∃ v7, ρ = [some (.im (dHall hs)), some (.im (.lst (h.map fun g => .str (lineS g)))), some (.rf μ.length), some (.rf (μ.length + 2)), some (.rf (μ.length + 3)), some (.im (.str (lineS (x, ps)))), some (.im (.tup [.str x, dSp ps])), v7] ∧ μ' = μ ++ [obP hs [] (μ.length + 1), .lst [], .dk (f.map kH), .dt ((T ++ ps.take k).map kB)]) ⟨_, rfl, by simp⟩ ?_ ?_
      · rintro j d ρ μ' hd ⟨v7, rfl, rfl⟩
        obtain ⟨p, hp, rfl⟩ := map_get hd
        have hj := (List.getElem?_eq_some_iff.mp hp).1
        have hpm := List.mem_of_getElem? hp
        have htp : ps.take (j + 1) = ps.take j ++ [p] := by rw [List.take_add_one, hp]; rfl
        have nT : (p.1, p.2) ∉ T ++ ps.take j := by
          have hsp : ps = ps.take j ++ p :: ps.drop (j + 1) := by
            have := go_at hp
            rw [← this.2, List.take_append_drop]
          rw [hsp, ← List.append_assoc] at npq
          intro z
          exact (List.nodup_append.mp npq).2.2 _ z p List.mem_cons_self rfl
        have lT : (T ++ ps.take j).length < maxN := by rw [List.length_append, List.length_take]; simp only [maxN]; omega
        have e := fun ρ => putCell_kB (ks := T ++ ps.take j) (n := μ.length + 3) (a := p.1) (b := p.2) (ρ := ρ) (μ := μ ++ [obP hs [] (μ.length + 1), .lst [], .dk (f.map kH), .dt ((T ++ ps.take j).map kB)]) (by simp) lT nT
        rw [htp, ← List.append_assoc]
        generalize T ++ ps.take j = T2 at e
        refine nx_intro fun Y hY => ?_
        simp [dPl, e]
        exact Nx.mk (hY _ _ ⟨_, rfl, by simp⟩)
      · rintro ρ μ' ⟨v7, rfl, rfl⟩
        rw [List.length_map, List.take_length]
        have e := fun ρ => putCell_held (h := f) (n := μ.length + 2) (x := x) (ps := ps) (ρ := ρ) (μ := μ ++ [obP hs [] (μ.length + 1), .lst [], .dk (f.map kH), .dt ((T ++ ps).map kB)]) (by simp) lenT
        rw [putH_new ps nn] at e
        generalize T ++ ps = T2 at e hZ
        simp [e]
        exact Nx.mk (hZ _ _ ⟨_, _, _, rfl, by simp⟩)
  · rintro ρ μ' ⟨v5, v6, v7, rfl, rfl⟩
    rw [List.length_map, List.take_length]
    simp [obP, dHeld]
end LW

namespace LW
open PySem L2 SP
theorem plan_taken {μ : Mu} {n m : Nat} {hs : List (List Bool)} {h : Held} {past : List Held} (P : PL μ n m hs h past) (v : VH hs h) : F_Plan_taken [.rf n] μ = .ok (.im (.dt ((takL h).map kT))) μ := by
  suffices hh : ∃ z, fb_Plan_taken ([Sv.rf n].map some ++ List.replicate 3 none) μ = .rt (.rf μ.length) (μ ++ .dt ((takL h).map kT) :: z) by
    obtain ⟨z, e⟩ := hh
    exact dFn_dt P.lo e
  have ob := fun r => get_app (r := r) P.ob
  have hmany := v.many
  unfold fb_Plan_taken
  simp [ob, obP]
  refine loop_then (fun o => ∃ z, o = O.rt (.rf μ.length) (μ ++ .dt ((takL h).map kT) :: z))
    (fun k ρ μ' => ∃ (v2 v3 : Option Sv), ρ = [some (.rf n), some (.rf μ.length), v2, v3] ∧ μ' = μ ++ [.dt ((takL (h.take k)).map kT)]) ⟨none, none, rfl, rfl⟩ ?_ ?_
  · rintro k d ρ μ' hd ⟨v2, v3, rfl, rfl⟩
    obtain ⟨x, hx, rfl⟩ := map_get hd
    unfold nmsH at hx
    rw [List.getElem?_map] at hx
    cases hg : h[k]? with
    | none => rw [hg] at hx; cases hx
    | some g =>
      rw [hg] at hx
      obtain rfl : g.1 = x := Option.some.inj hx
      have hgm : g ∈ h := List.mem_of_getElem? hg
      have htk : h.take (k + 1) = h.take k ++ [g] := by rw [List.take_add_one, hg]; rfl
      have hsplit : h = h.take k ++ g :: h.drop (k + 1) := by
        have := go_at hg
        rw [← this.2, List.take_append_drop]
      have npq : (allP (h.take k) ++ g.2).Nodup := by
        have q := v.np
        rw [hsplit, allP_app, show allP (g :: h.drop (k + 1)) = g.2 ++ allP (h.drop (k + 1)) by unfold allP; rw [List.flatMap_cons], ← List.append_assoc] at q
        exact (List.nodup_append.mp q).1
      have lenA : (allP (h.take k)).length + g.2.length ≤ 2400 := by
        have q := hmany
        rw [hsplit, allP_app, show allP (g :: h.drop (k + 1)) = g.2 ++ allP (h.drop (k + 1)) by unfold allP; rw [List.flatMap_cons], List.length_append, List.length_append] at q
        omega
      rw [htk, takL_app, show takL [g] = g.2.map (fun p => (p, g.1)) by simp [takL]]
      rw [← takL_keys] at npq lenA
      generalize takL (h.take k) = T at npq lenA
      have gd := gDGet_held (getH_mem v.nn hgm)
      refine nx_intro fun Z hZ => ?_
      simp [ob, obP, gd]
      obtain ⟨ρ', μ', e, v3', e1, e2⟩ := loop_nx (i := 3) (ds := g.2.map dPl) (body := SP.sDPut (dVar 1) (dVar 3) (dVar 2)) (ρ := [some (.rf n), some (.rf μ.length), some (.im (.str g.1)), v3]) (μ := μ ++ [.dt (T.map kT)])
        (fun j ρ μ' => ∃ v3, ρ = [some (.rf n), some (.rf μ.length), some (.im (.str g.1)), v3] ∧ μ' = μ ++ [.dt ((T ++ (g.2.take j).map fun p => (p, g.1)).map kT)]) ⟨_, rfl, by simp⟩ (by
          rintro j d ρ μ' hd ⟨v3, rfl, rfl⟩
          obtain ⟨p, hp, rfl⟩ := map_get hd
          have htp : g.2.take (j + 1) = g.2.take j ++ [p] := by rw [List.take_add_one, hp]; rfl
          have nT : inT (T ++ (g.2.take j).map fun p => (p, g.1)) p = false := by
            have hsp : g.2 = g.2.take j ++ p :: g.2.drop (j + 1) := by
              have := go_at hp
              rw [← this.2, List.take_append_drop]
            cases q : inT (T ++ (g.2.take j).map fun p => (p, g.1)) p with
            | false => rfl
            | true =>
              rw [inT_mem, List.map_append, List.map_map] at q
              rw [hsp, ← List.append_assoc] at npq
              refine absurd rfl ((List.nodup_append.mp npq).2.2 p ?_ p List.mem_cons_self)
              simpa [Function.comp_def] using q
          have lT : (T ++ (g.2.take j).map fun p => (p, g.1)).length < maxN := by
            rw [List.length_append, List.length_map, List.length_take]
            rw [List.length_map] at lenA
            simp only [maxN]; omega
          have htp2 : T ++ (g.2.take (j + 1)).map (fun p => (p, g.1)) = (T ++ (g.2.take j).map fun p => (p, g.1)) ++ [(p, g.1)] := by
            rw [htp, List.map_append, ← List.append_assoc]; rfl
          rw [htp2]
          generalize T ++ (g.2.take j).map (fun p => (p, g.1)) = T2 at nT lT
          have e := fun ρ => putCell_tak (t := T2) (n := μ.length) (a := p.1) (b := p.2) (v := g.1) (ρ := ρ) (μ := μ ++ [.dt (T2.map kT)]) (by simp [cTak]) lT
          rw [putT_new _ nT] at e
          refine nx_intro fun Y hY => ?_
          simp [dPl, e]
          exact Nx.mk (hY _ _ ⟨_, rfl, by simp [cTak]⟩))
      rw [e]
      subst e1 e2
      exact Nx.mk (hZ _ _ ⟨_, _, rfl, by rw [List.length_map, List.take_length]⟩)
  · rintro ρ μ' ⟨v2, v3, rfl, rfl⟩
    refine ⟨[], ?_⟩
    unfold nmsH
    rw [List.length_map, List.length_map, List.take_length]
    simp
theorem plan_free {μ : Mu} {n m : Nat} {hs : List (List Bool)} {h : Held} {past : List Held} (P : PL μ n m hs h past) (v : VH hs h) : F_Plan_free [.rf n] μ = .ok (.im (dRuns (freeR hs h))) μ := by
  refine dFn_im0 P.lo ?_
  have e1 := plan_taken P v
  have e2 := runs_of hs (takL h) v.h40 v.b60 μ P.lo
  have ob := P.ob
  unfold fb_Plan_free
  simp [ob, obP, e1]
  simp [e2, freeR]
theorem need_group_ok {μ : Mu} {n m : Nat} {hs : List (List Bool)} {h : Held} {past : List Held} (P : PL μ n m hs h past) {x : Str} (hx : x ∈ nmsH h) : F_Plan_need_group [.rf n, .im (.str x)] μ = .ok (.im .non) μ := by
  suffices hh : ∃ ρ, fb_Plan_need_group ([Sv.rf n, .im (.str x)].map some ++ List.replicate 0 none) μ = .nx ρ (μ ++ []) by
    obtain ⟨ρ, e⟩ := hh
    exact dFn_nx P.lo e
  have ob := P.ob
  have g := gNotIn_held h x
  rw [decide_eq_true hx] at g
  unfold fb_Plan_need_group
  simp [ob, obP, g]
theorem need_group_ex {μ : Mu} {n m : Nat} {hs : List (List Bool)} {h : Held} {past : List Held} (P : PL μ n m hs h past) {x : Str} (hx : x ∉ nmsH h) : F_Plan_need_group [.rf n, .im (.str x)] μ = .ex .unknown μ := by
  suffices hh : ∃ ρ, fb_Plan_need_group ([Sv.rf n, .im (.str x)].map some ++ List.replicate 0 none) μ = .ex .unknown ρ (μ ++ []) by
    obtain ⟨ρ, e⟩ := hh
    exact dFn_ex P.lo e
  have ob := P.ob
  have g := gNotIn_held h x
  rw [decide_eq_false hx] at g
  unfold fb_Plan_need_group
  simp [ob, obP, g]
theorem plan_groups {μ : Mu} {n m : Nat} {hs : List (List Bool)} {h : Held} {past : List Held} (P : PL μ n m hs h past) : F_Plan_groups [.rf n] μ = .ok (.im (.lst ((nmsH h).map D.str))) μ := by
  refine dFn_im0 P.lo ?_
  have ob := P.ob
  unfold fb_Plan_groups
  simp [ob, obP]
theorem plan_seats {μ : Mu} {n m : Nat} {hs : List (List Bool)} {h : Held} {past : List Held} (P : PL μ n m hs h past) {x : Str} {ps : List Pl} (hx : getH h x = some ps) : F_Plan_seats [.rf n, .im (.str x)] μ = .ok (.im (dSp ps)) μ := by
  refine dFn_im0 P.lo ?_
  have ob := P.ob
  have e1 := need_group_ok P (x := x) (List.mem_map.mpr ⟨_, getH_of hx, rfl⟩)
  have e2 := gDGet_held hx
  unfold fb_Plan_seats
  simp [ob, obP, e1, e2, dSp]
theorem plan_seats_ex {μ : Mu} {n m : Nat} {hs : List (List Bool)} {h : Held} {past : List Held} (P : PL μ n m hs h past) {x : Str} (hx : x ∉ nmsH h) : F_Plan_seats [.rf n, .im (.str x)] μ = .ex .unknown μ := by
  suffices hh : ∃ ρ, fb_Plan_seats ([Sv.rf n, .im (.str x)].map some ++ List.replicate 0 none) μ = .ex .unknown ρ (μ ++ []) by
    obtain ⟨ρ, e⟩ := hh
    exact dFn_ex P.lo e
  have ob := P.ob
  have e1 := need_group_ex P hx
  unfold fb_Plan_seats
  simp [ob, obP, e1]
theorem plan_who {μ : Mu} {n m : Nat} {hs : List (List Bool)} {h : Held} {past : List Held} (P : PL μ n m hs h past) (v : VH hs h) {r i : Int} (hq : seatB hs r i = true) : F_Plan_who [.rf n, .im (.int r), .im (.int i)] μ = .ok (.im (dWho (takL h) (r, i))) μ := by
  refine dFn_im0 P.lo ?_
  have ob := P.ob
  have e1 := is_seat hs r i μ P.lo
  rw [hq] at e1
  have e2 := plan_taken P v
  have e3 := dGet_tak (takL h) r i
  unfold fb_Plan_who
  simp [ob, obP, e1, e2, e3, dWho_eq]
theorem plan_who_ex {μ : Mu} {n m : Nat} {hs : List (List Bool)} {h : Held} {past : List Held} (P : PL μ n m hs h past) {r i : Int} (hq : seatB hs r i = false) : F_Plan_who [.rf n, .im (.int r), .im (.int i)] μ = .ex .noseat μ := by
  suffices hh : ∃ ρ, fb_Plan_who ([Sv.rf n, .im (.int r), .im (.int i)].map some ++ List.replicate 0 none) μ = .ex .noseat ρ (μ ++ []) by
    obtain ⟨ρ, e⟩ := hh
    exact dFn_ex P.lo e
  have ob := P.ob
  have e1 := is_seat hs r i μ P.lo
  rw [hq] at e1
  unfold fb_Plan_who
  simp [ob, obP, e1]
end LW

namespace LW
open PySem L2 SP
theorem need_name_bad (s : Str) (h : ¬ goodN s) (μ : Mu) (hμ : Low μ) : F_need_name [.im (.str s)] μ = .ex .name μ := by
  suffices hs : ∃ ρ, fb_need_name ([Sv.im (.str s)].map some ++ List.replicate 1 none) μ = .ex .name ρ (μ ++ []) by
    obtain ⟨ρ, e⟩ := hs
    exact dFn_ex hμ e
  unfold fb_need_name
  by_cases e1 : (1 : Int) ≤ s.length
  · by_cases e2 : (s.length : Int) ≤ 12
    · have h3 : ∃ c ∈ s.cps.toList, c ∉ signs := by
        apply Decidable.byContradiction
        intro z
        refine h ⟨by omega, by omega, fun c hc => ?_⟩
        apply Decidable.byContradiction
        intro w
        exact z ⟨c, hc, w⟩
      simp [e1, e2]
      generalize s.cps.toList = cs at h3
      have key : ∀ (cs : List Nat) (v : Option Sv), (∃ c ∈ cs, c ∉ signs) → ∃ ρ, loopL 1 (sIf (dTest (dOp2 (p2 gNotInS) (dVar 1) (dC (.str (tx signs))))) (sRaise .name) sNext) (cs.map fun c => .str ⟨#[c]⟩) [some (.im (.str s)), v] μ = .ex .name ρ μ := by
        intro cs
        induction cs with
        | nil => rintro v ⟨c, hc, _⟩; cases hc
        | cons a r ih =>
          rintro v ⟨c, hc, hn⟩
          simp only [List.map_cons]
          by_cases ha : a ∈ signs
          · obtain ⟨ρ, e⟩ := ih (some (.im (.str ⟨#[a]⟩))) (by
              rcases List.mem_cons.mp hc with rfl | hc
              · exact absurd ha hn
              · exact ⟨c, hc, hn⟩)
            refine ⟨ρ, ?_⟩
            rw [← e]
            conv => lhs; unfold loopL
            simp [ha]
          · exact ⟨_, loop_cons_ex (ρ' := [some (.im (.str s)), some (.im (.str ⟨#[a]⟩))]) (by simp [ha])⟩
      exact key cs none h3
    · simp [e1, e2]
  · simp [e1]
end LW

namespace LW
open PySem L2 SP
theorem plan_keep {n m : Nat} {hs : List (List Bool)} {h : Held} {past : List Held} {μ : Mu} (P : PL μ n m hs h past) (hl : past.length < 1000) (h' : Held) : F_Plan_keep [.rf n, .im (dHeld h')] μ = .ok (.im .non) (upP μ n m hs (past ++ [h]) h') := by
  suffices hh : ∃ ρ, fb_Plan_keep ([Sv.rf n, .im (dHeld h')].map some ++ List.replicate 0 none) μ = .nx ρ (upP μ n m hs (past ++ [h]) h' ++ []) by
    obtain ⟨ρ, e⟩ := hh
    exact dFn_nx2 (upP_len ..) (P.up _ _).lo e
  have ob := P.ob
  have pa := P.pa
  have l1 : past.length < maxN := by simp only [maxN]; omega
  have ob2 : (μ.set m (.lst (past.map dHeld ++ [dHeld h])))[n]? = some (.ob [("hall", .im (dHall hs)), ("held", .im (dHeld h)), ("past", .rf m)]) := by rw [List.getElem?_set_ne (Ne.symm P.ne)]; exact ob
  unfold fb_Plan_keep
  simp [ob, obP, pa, l1, ob2, upP]
theorem plan_given {n m : Nat} {hs : List (List Bool)} {h : Held} {past : List Held} {μ : Mu} (P : PL μ n m hs h past) (hl : past.length < 1000) (h1 : h.length < 100000) (x : Str) (ps : List Pl) : F_Plan_given [.rf n, .im (.str x), .im (dSp ps)] μ = .ok (.im (dSp ps)) (upP μ n m hs (past ++ [h]) (putH h x ps)) := by
  suffices hh : ∃ r, fb_Plan_given ([Sv.rf n, .im (.str x), .im (dSp ps)].map some ++ List.replicate 1 none) μ = .rt (.im (dSp ps)) (upP μ n m hs (past ++ [h]) (putH h x ps) ++ r) by
    obtain ⟨r, e⟩ := hh
    exact dFn_im2 (upP_len ..) (P.up _ _).lo e
  have ob := fun r => get_app (r := r) P.ob
  obtain ⟨ln, lm⟩ := P.lt
  have l1 : h.length < maxN := by simp only [maxN]; omega
  have e1 := fun ρ => putCell_held (h := h) (n := μ.length) (x := x) (ps := ps) (ρ := ρ) (μ := μ ++ [.dk (h.map kH)]) (by simp) l1
  have lo : Low (μ ++ [.fz (.dk ((putH h x ps).map kH))]) := low_app1 P.lo fun _ => rfl
  have e2 := plan_keep (pl_app P lo) hl (putH h x ps)
  rw [upP_app ln lm] at e2
  have ob0 := P.ob
  have fd : ∀ μ1, fDictD μ1 (some (dHeld h)) = .ok (.dk (h.map kH)) μ1 := fun _ => rfl
  have fl : ∀ μ1 : Mu, fListD μ1 (some (dSp ps)) = .ok (.lst (ps.map dPl)) μ1 := fun _ => rfl
  refine rz_intro (P := fun o => ∃ r, o = .rt (.im (dSp ps)) (upP μ n m hs (past ++ [h]) (putH h x ps) ++ r)) fun Q hQ => ?_
  unfold fb_Plan_given
  unfold dHeld at e2
  simp [ob, ob0, obP, fd, e1, e2, fl]
  exact hQ _ ⟨_, rfl⟩
theorem low_dk (μ : Mu) (hμ : Low μ) (f : Held) : Low (μ ++ [.dk (f.map kH)]) := low_app1 hμ fun _ => rfl
theorem leave_ok {n m : Nat} {hs : List (List Bool)} {h : Held} {past : List Held} {x : Str} {ps : List Pl} {μ : Mu} (P : PL μ n m hs h past) (v : VH hs h) (hl : past.length < 1000) (h1 : h.length < 100000) (hx : getH h x = some ps) :
    F_Plan_leave [.rf n, .im (.str x)] μ = .ok (.im (dSp ps)) (upP μ n m hs (past ++ [h]) (delH h x)) := by
  suffices hh : ∃ r, fb_Plan_leave ([Sv.rf n, .im (.str x)].map some ++ List.replicate 3 none) μ = .rt (.im (dSp ps)) (upP μ n m hs (past ++ [h]) (delH h x) ++ r) by
    obtain ⟨r, e⟩ := hh
    exact dFn_im2 (upP_len ..) (P.up _ _).lo e
  have ob := fun r => get_app (r := r) P.ob
  have ob0 := P.ob
  obtain ⟨ln, lm⟩ := P.lt
  have e1 := need_group_ok P (x := x) (List.mem_map.mpr ⟨_, getH_of hx, rfl⟩)
  have lo : Low (μ ++ [.fz (.dk ((delH h x).map kH))]) := low_app1 P.lo fun _ => rfl
  have e2 := plan_keep (pl_app P lo) hl (delH h x)
  rw [upP_app ln lm] at e2
  have e3 := gDGet_held hx
  have fl : ∀ μ1 : Mu, fListD μ1 (some (dSp ps)) = .ok (.lst (ps.map dPl)) μ1 := fun _ => rfl
  refine rz_intro (P := fun o => ∃ r, o = .rt (.im (dSp ps)) (upP μ n m hs (past ++ [h]) (delH h x) ++ r)) fun Q hQ => ?_
  unfold fb_Plan_leave
  simp [ob, ob0, obP, e1]
  refine loop_then Q (fun k ρ μ' => ∃ v3 : Option Sv, ρ = [some (.rf n), some (.im (.str x)), some (.rf μ.length), v3, none] ∧ μ' = μ ++ [.dk ((delH (h.take k) x).map kH)]) ⟨none, rfl, rfl⟩ ?_ ?_
  · rintro k d ρ μ' hd ⟨v3, rfl, rfl⟩
    obtain ⟨y, hy, rfl⟩ := map_get hd
    unfold nmsH at hy
    rw [List.getElem?_map] at hy
    cases hg : h[k]? with
    | none => rw [hg] at hy; cases hy
    | some g =>
      rw [hg] at hy
      obtain rfl : g.1 = y := Option.some.inj hy
      have hgm := List.mem_of_getElem? hg
      have hk := (List.getElem?_eq_some_iff.mp hg).1
      have htk : h.take (k + 1) = h.take k ++ [g] := by rw [List.take_add_one, hg]; rfl
      have gd := gDGet_held (getH_mem v.nn hgm)
      by_cases hz : g.1 = x
      · have : delH (h.take (k + 1)) x = delH (h.take k) x := by rw [htk]; unfold delH; rw [List.filter_append]; simp [hz]
        rw [this]
        refine nx_intro fun Z hZ => ?_
        simp [hz]
        exact Nx.mk (hZ _ _ ⟨_, rfl, rfl⟩)
      · have e : delH (h.take (k + 1)) x = delH (h.take k) x ++ [g] := by rw [htk]; unfold delH; rw [List.filter_append]; simp [hz]
        have nk : g.1 ∉ nmsH (delH (h.take k) x) := by
          intro z
          obtain ⟨g', hg', e'⟩ := List.mem_map.mp z
          have hs2 : h = h.take k ++ g :: h.drop (k + 1) := by
            have := go_at hg
            rw [← this.2, List.take_append_drop]
          have q := v.nn
          rw [hs2, nms_app] at q
          exact (List.nodup_append.mp q).2.2 g'.1 (List.mem_map_of_mem (List.mem_filter.mp hg').1) g.1 (by simp [nmsH]) e'
        have lk : (delH (h.take k) x).length < maxN := by
          have a := List.length_filter_le (fun g : Str × List Pl => decide (g.1 ≠ x)) (h.take k)
          rw [List.length_take] at a
          unfold delH
          simp only [maxN]; omega
        rw [e]
        generalize delH (h.take k) x = f at nk lk
        have e5 := fun ρ => putCell_held (h := f) (n := μ.length) (x := g.1) (ps := g.2) (ρ := ρ) (μ := μ ++ [.dk (f.map kH)]) (by simp) lk
        rw [putH_new _ nk] at e5
        refine nx_intro fun Z hZ => ?_
        simp [hz, ob, obP, gd, e5]
        exact Nx.mk (hZ _ _ ⟨_, rfl, by simp⟩)
  · rintro ρ μ' ⟨v3, rfl, rfl⟩
    have el : h.take ((nmsH h).map D.str).length = h := by rw [List.length_map]; unfold nmsH; rw [List.length_map, List.take_length]
    rw [el]
    unfold dHeld at e2
    simp [ob, obP, e3, fl, e2]
    exact hQ _ ⟨_, rfl⟩
/-- the groups of a party, one behind the other from a place on -/
def partyH (r : Int) : Int → List (Str × Int) → Held
  | _, [] => []
  | a, p :: ps => (p.1, rowOf r a p.2.toNat) :: partyH r (a + p.2) ps
end LW

namespace LW
open PySem L2 SP
end LW

namespace LW
open PySem L2 SP
theorem join_words {ps : List Pl} (h : ∀ p ∈ ps, okP p) (hl : ps.length ≤ 2400) : gJoin (tx [32]) (.lst (ps.map fun p => .str (tx (wordL p)))) = some (.str (tx (joinL [32] (ps.map wordL)))) := by
  have h1 := words_len ps h
  have := gJoin_tx (s := [32]) (ls := ps.map wordL) (by intro c hc; simp at hc; omega) (by
    intro l hl c hc
    obtain ⟨p, hp, rfl⟩ := List.mem_map.mp hl
    have := word_sign (h p hp) c hc
    omega) (by simp only [List.length_map, List.length_cons, List.length_nil, maxN]; omega)
  rw [List.map_map] at this
  exact this
theorem word_of {p : Pl} (h : okP p) : gAdd (.str (tx (numL p.1.toNat))) (.str (tx [46])) = some (.str (tx (numL p.1.toNat ++ [46]))) ∧ gAdd (.str (tx (numL p.1.toNat ++ [46]))) (.str (tx (numL p.2.toNat))) = some (.str (tx (wordL p))) := by
  obtain ⟨a, b, c, d⟩ := h
  have h1 := (num_facts a b).2.2.1
  have h2 := (num_facts c d).2.2.1
  constructor
  · rw [gAdd_str, if_pos (by rw [tx_len, tx_len]; simp only [List.length_cons, List.length_nil, maxN]; omega), tx_app]
  · rw [gAdd_str, if_pos (by rw [tx_len, tx_len]; simp only [List.length_append, List.length_cons, List.length_nil, maxN]; omega), tx_app]
    simp [wordL]
theorem line_of {g : Str × List Pl} (hg : goodN g.1) (h : ∀ p ∈ g.2, okP p) (hl : g.2.length ≤ 2400) : gAdd (.str g.1) (.str (tx [58, 32])) = some (.str (tx (g.1.cps.toList ++ [58, 32]))) ∧ gAdd (.str (tx (g.1.cps.toList ++ [58, 32]))) (.str (tx (joinL [32] (g.2.map wordL)))) = some (.str (lineS g)) := by
  have h1 := rest_len h
  have h2 := hg.2.1
  have h3 : g.1.cps.toList.length = g.1.length := by simp [Str.length]
  constructor
  · rw [gAdd_str, if_pos (by rw [tx_len]; simp only [List.length_cons, List.length_nil, maxN]; omega)]
    conv => lhs; rw [← tx_of g.1]
    rw [tx_app]
  · rw [gAdd_str, if_pos (by rw [tx_len, tx_len]; simp only [List.length_append, List.length_cons, List.length_nil, maxN, h3]; omega), tx_app]
    unfold lineS lineL
    simp
end LW

namespace LW
open PySem L2 SP
theorem row_by (n : Int) (μ : Mu) (hμ : Low μ) : ∃ bs : List Bool, bs.length ≤ 60 ∧ F_law_row_by [.im (.int n)] μ = .ok (.im (.str (rowS bs))) μ := by
  suffices hs : ∃ bs : List Bool, bs.length ≤ 60 ∧ fb_law_row_by ([Sv.im (.int n)].map some ++ List.replicate 4 none) μ = .rt (.im (.str (rowS bs))) μ by
    obtain ⟨bs, hl, e⟩ := hs
    exact ⟨bs, hl, dFn_im0 hμ e⟩
  unfold fb_law_row_by
  simp [SP.small64]
  generalize n * 48271 % 2147483647 = z
  have hz : 0 < 2 + z / 324 % 7 := by omega
  generalize hm : (if z / 12 % 9 = 1 then 60 - z / 108 % 3 else z % 12) = m
  have hm1 : 0 ≤ m ∧ m ≤ 60 := by subst hm; split <;> omega
  rw [if_pos (in62_small (by omega) (by omega))]
  refine loop_then (fun o => ∃ bs : List Bool, bs.length ≤ 60 ∧ o = O.rt (.im (.str (rowS bs))) μ)
    (fun k ρ μ' => ∃ (bs : List Bool) (v4 : Option Sv), bs.length = k ∧ ρ = [some (.im (.int z)), some (.im (.int m)), some (.im (.int (2 + z / 324 % 7))), some (.im (.str (rowS bs))), v4] ∧ μ' = μ)
    ⟨[], none, rfl, rfl, rfl⟩ ?_ ?_
  · rintro k d ρ μ' hd ⟨bs, v4, hk, rfl, rfl⟩
    obtain ⟨hk2, rfl⟩ := range_get hd
    obtain ⟨p, hp⟩ : ∃ p : Int, 0 + (k : Int) = p := ⟨_, rfl⟩
    have s1 : (SP.small64 p) = true := small64_small (by omega) (by omega)
    rw [hp]
    have hl : bs.length + 1 ≤ maxN := by rw [hk]; simp only [maxN]; omega
    by_cases h1 : 0 < z / 15876 % 3 <;> by_cases h2 : (p + z / 2268) % (2 + z / 324 % 7) = 0 <;> by_cases h3 : p * p % 11 = z / 47628 % 13 <;> simp [s1, hz, h1, h2, h3, hl] <;>
      exact ⟨_, _, ⟨rfl, rfl⟩, bs ++ [_], by rw [List.length_append, hk]; rfl, ⟨_, rfl⟩, rfl⟩
  · rintro ρ μ' ⟨bs, v4, hk, rfl, rfl⟩
    exact ⟨bs, by rw [hk, range_len]; omega, by simp⟩
theorem law_taken {μ : Mu} {d : Nat} {hs : List (List Bool)} {h : Held} (hd : μ[d]? = some (.dk (h.map kH))) (lo : Low μ) (v : VH hs h) : F_law_taken [.rf d] μ = .ok (.im (.dt ((takL h).map kT))) μ := by
  suffices hh : ∃ z, fb_law_taken ([Sv.rf d].map some ++ List.replicate 3 none) μ = .rt (.rf μ.length) (μ ++ .dt ((takL h).map kT) :: z) by
    obtain ⟨z, e⟩ := hh
    exact dFn_dt lo e
  have ob := fun r => get_app (r := r) hd
  have fl : ∀ μ1 : Mu, fListD μ1 (some (.dk (h.map kH))) = .ok (.lst ((nmsH h).map D.str)) μ1 := fun μ1 => fListD_held μ1 h
  have hmany := v.many
  unfold fb_law_taken
  simp [ob, fl]
  refine loop_then (fun o => ∃ z, o = O.rt (.rf μ.length) (μ ++ .dt ((takL h).map kT) :: z))
    (fun k ρ μ' => ∃ (v2 v3 : Option Sv), ρ = [some (.rf d), some (.rf μ.length), v2, v3] ∧ μ' = μ ++ [.dt ((takL (h.take k)).map kT)]) ⟨none, none, rfl, rfl⟩ ?_ ?_
  · rintro k d1 ρ μ' hd1 ⟨v2, v3, rfl, rfl⟩
    obtain ⟨x, hx, rfl⟩ := map_get hd1
    unfold nmsH at hx
    rw [List.getElem?_map] at hx
    cases hg : h[k]? with
    | none => rw [hg] at hx; cases hx
    | some g =>
      rw [hg] at hx
      obtain rfl : g.1 = x := Option.some.inj hx
      have hgm : g ∈ h := List.mem_of_getElem? hg
      have htk : h.take (k + 1) = h.take k ++ [g] := by rw [List.take_add_one, hg]; rfl
      have hsplit : h = h.take k ++ g :: h.drop (k + 1) := by
        have := go_at hg
        rw [← this.2, List.take_append_drop]
      have npq : (allP (h.take k) ++ g.2).Nodup := by
        have q := v.np
        rw [hsplit, allP_app, show allP (g :: h.drop (k + 1)) = g.2 ++ allP (h.drop (k + 1)) by unfold allP; rw [List.flatMap_cons], ← List.append_assoc] at q
        exact (List.nodup_append.mp q).1
      have lenA : (allP (h.take k)).length + g.2.length ≤ 2400 := by
        have q := hmany
        rw [hsplit, allP_app, show allP (g :: h.drop (k + 1)) = g.2 ++ allP (h.drop (k + 1)) by unfold allP; rw [List.flatMap_cons], List.length_append, List.length_append] at q
        omega
      rw [htk, takL_app, show takL [g] = g.2.map (fun p => (p, g.1)) by simp [takL]]
      rw [← takL_keys] at npq lenA
      generalize takL (h.take k) = T at npq lenA
      have gd : gDGet (.dk (h.map kH)) (.str g.1) = some (dSp g.2) := gDGet_held (getH_mem v.nn hgm)
      refine nx_intro fun Z hZ => ?_
      simp [ob, gd]
      obtain ⟨ρ', μ', e, v3', e1, e2⟩ := loop_nx (i := 3) (ds := g.2.map dPl) (body := SP.sDPut (dVar 1) (dVar 3) (dVar 2)) (ρ := [some (.rf d), some (.rf μ.length), some (.im (.str g.1)), v3]) (μ := μ ++ [.dt (T.map kT)])
        (fun j ρ μ' => ∃ v3, ρ = [some (.rf d), some (.rf μ.length), some (.im (.str g.1)), v3] ∧ μ' = μ ++ [.dt ((T ++ (g.2.take j).map fun p => (p, g.1)).map kT)]) ⟨_, rfl, by simp⟩ (by
          rintro j d1 ρ μ' hd1 ⟨v3, rfl, rfl⟩
          obtain ⟨p, hp, rfl⟩ := map_get hd1
          have htp : g.2.take (j + 1) = g.2.take j ++ [p] := by rw [List.take_add_one, hp]; rfl
          have nT : inT (T ++ (g.2.take j).map fun p => (p, g.1)) p = false := by
            have hsp : g.2 = g.2.take j ++ p :: g.2.drop (j + 1) := by
              have := go_at hp
              rw [← this.2, List.take_append_drop]
            cases q : inT (T ++ (g.2.take j).map fun p => (p, g.1)) p with
            | false => rfl
            | true =>
              rw [inT_mem, List.map_append, List.map_map] at q
              rw [hsp, ← List.append_assoc] at npq
              refine absurd rfl ((List.nodup_append.mp npq).2.2 p ?_ p List.mem_cons_self)
              simpa [Function.comp_def] using q
          have lT : (T ++ (g.2.take j).map fun p => (p, g.1)).length < maxN := by
            rw [List.length_append, List.length_map, List.length_take]
            rw [List.length_map] at lenA
            simp only [maxN]; omega
          have htp2 : T ++ (g.2.take (j + 1)).map (fun p => (p, g.1)) = (T ++ (g.2.take j).map fun p => (p, g.1)) ++ [(p, g.1)] := by
            rw [htp, List.map_append, ← List.append_assoc]; rfl
          rw [htp2]
          generalize T ++ (g.2.take j).map (fun p => (p, g.1)) = T2 at nT lT
          have e := fun ρ => putCell_tak (t := T2) (n := μ.length) (a := p.1) (b := p.2) (v := g.1) (ρ := ρ) (μ := μ ++ [.dt (T2.map kT)]) (by simp [cTak]) lT
          rw [putT_new _ nT] at e
          refine nx_intro fun Y hY => ?_
          simp [dPl, e]
          exact Nx.mk (hY _ _ ⟨_, rfl, by simp [cTak]⟩))
      rw [e]
      subst e1 e2
      exact Nx.mk (hZ _ _ ⟨_, _, rfl, by rw [List.length_map, List.take_length]⟩)
  · rintro ρ μ' ⟨v2, v3, rfl, rfl⟩
    refine ⟨[], ?_⟩
    unfold nmsH
    rw [List.length_map, List.length_map, List.take_length]
    simp
theorem law_lines {μ : Mu} {d : Nat} {hs : List (List Bool)} {h : Held} (hd : μ[d]? = some (.dk (h.map kH))) (lo : Low μ) (v : VH hs h) (h1 : h.length < 100000) : F_law_lines [.rf d] μ = .ok (.im (.lst (h.map fun g => .str (lineS g)))) μ := by
  suffices hh : ∃ z, fb_law_lines ([Sv.rf d].map some ++ List.replicate 3 none) μ = .rt (.rf μ.length) (μ ++ .lst (h.map fun g => .str (lineS g)) :: z) by
    obtain ⟨z, e⟩ := hh
    exact dFn_lst lo e
  have ob := fun r => get_app (r := r) hd
  have fl : ∀ μ1 : Mu, fListD μ1 (some (.dk (h.map kH))) = .ok (.lst ((nmsH h).map D.str)) μ1 := fun μ1 => fListD_held μ1 h
  have ok := v.okP
  unfold fb_law_lines
  simp [ob, fl]
  refine loop_then (fun o => ∃ z, o = O.rt (.rf μ.length) (μ ++ .lst (h.map fun g => .str (lineS g)) :: z))
    (fun k ρ μ' => ∃ (v2 : Option Sv), ρ = [some (.rf d), some (.rf μ.length), v2, none] ∧ μ' = μ ++ [.lst ((h.take k).map fun g => .str (lineS g))]) ⟨none, rfl, rfl⟩ ?_ ?_
  · rintro k d1 ρ μ' hd1 ⟨v2, rfl, rfl⟩
    obtain ⟨x, hx, rfl⟩ := map_get hd1
    unfold nmsH at hx
    rw [List.getElem?_map] at hx
    cases hg : h[k]? with
    | none => rw [hg] at hx; cases hx
    | some g =>
      rw [hg] at hx
      obtain rfl : g.1 = x := Option.some.inj hx
      have hgm : g ∈ h := List.mem_of_getElem? hg
      have htk : h.take (k + 1) = h.take k ++ [g] := by rw [List.take_add_one, hg]; rfl
      have hok : ∀ p ∈ g.2, okP p := fun p hp => ok p (allP_mem hgm hp)
      have hgl := v.group_len hgm
      have gd : gDGet (.dk (h.map kH)) (.str g.1) = some (dSp g.2) := gDGet_held (getH_mem v.nn hgm)
      have lk : ((h.take k).map fun g => D.str (lineS g)).length < maxN := by
        rw [List.length_map, List.length_take]; simp only [maxN]; omega
      rw [htk, List.map_append]
      generalize (h.take k).map (fun g => D.str (lineS g)) = L at lk
      obtain ⟨j1, j2⟩ := line_of (v.gn g hgm) hok hgl
      have jw := join_words hok hgl
      have hl2 : g.2.length ≤ maxN := by simp only [maxN]; omega
      refine nx_intro fun Z hZ => ?_
      simp [ob, gd, dSp, hl2, ← gAdd_str, j1]
      rw [lc_end_map dPl (fun p => D.str (tx (wordL p))) g.2 (by
        intro p hp
        have o := hok p hp
        obtain ⟨a, b, c, d⟩ := o
        have w := word_of (hok p hp)
        simp [dPl, gStrE_num a b, gStrE_num c d, sg_dot, ← gAdd_str, w.1, w.2])]
      simp [← gAdd_str, jw, j1, j2, lk]
      exact Nx.mk (hZ _ _ ⟨_, rfl, by simp⟩)
  · rintro ρ μ' ⟨v2, rfl, rfl⟩
    refine ⟨[], ?_⟩
    unfold nmsH
    rw [List.length_map, List.length_map, List.take_length]
    simp
end LW

namespace LW
open PySem L2 SP
theorem frR_drop (t : Tk) (r : Int) (bs : List Bool) {k : Nat} (hk : k < bs.length) : (frR t r 0 bs).drop k = (bs.getD k false && !inT t (r, (k : Int))) :: (frR t r 0 bs).drop (k + 1) := by
  have hk2 : k < (frR t r 0 bs).length := by rw [frR_len]; exact hk
  have g := frR_get t r bs 0 k
  rw [List.getD_eq_getElem?_getD, List.getElem?_eq_getElem hk2] at g
  rw [List.drop_eq_getElem_cons hk2]
  congr 1
  rw [show (0 + k : Nat) = k by omega] at g
  exact g
theorem law_runs_row {t : Tk} {r : Nat} {bs : List Bool} {hs : List (List Bool)} {μ : Mu} {F : List Rn} {v4 v5 : Option Sv} (hr : r < hs.length) (hbs : hs.getD r [] = bs) (hb : bs.length ≤ 60) (hF : F.length + bs.length < 100000) :
    ∃ v4' v5', loopL 5 (sIf (dAndT (dTest (dOp2 (p2 gLtT) (dVar 5) (dOp1 (p1 gLen) (dOp2 (p2 gIx) (dVar 0) (dVar 3))))) (dAndT (dTest (dOp2 (p2 gEq) (dOp2 (p2 gIx) (dOp2 (p2 gIx) (dVar 0) (dVar 3)) (dVar 5)) (dC (.str "o")))) (dTest (dOp2 (p2 gNotIn) (dTup (dACons (dVar 3) (dACons (dVar 5) dANil))) (dVar 1))))) (sAsg 4 (dOp2 (p2 gAdd) (dVar 4) (dC (.int 1)))) (sSeq (sIf (dTest (dOp2 (p2 gGt) (dVar 4) (dC (.int 0)))) (sApp (dVar 2) (dTup (dACons (dVar 3) (dACons (dOp2 (p2 gSub) (dVar 5) (dVar 4)) (dACons (dVar 4) dANil))))) sNext) (sAsg 4 (dC (.int 0)))))
      (rangeD 0 (bs.length + 1)) [some (.im (dHall hs)), some (.im (.dt (t.map kT))), some (.rf μ.length), some (.im (.int (r : Int))), some (.im (.int 0)), v5] (μ ++ [.lst (F.map dRun)]) =
      .nx [some (.im (dHall hs)), some (.im (.dt (t.map kT))), some (.rf μ.length), some (.im (.int (r : Int))), v4', v5'] (μ ++ [.lst ((F ++ gob r (frR t r 0 bs) 0 0).map dRun)]) := by
  have g0 := hall_get (hs := hs) (i := (r : Int)) (by omega) (by omega)
  rw [Int.toNat_natCast, hbs] at g0
  obtain ⟨ρ', μ', e, f, m, v, h1, h2, h3, e1, e2⟩ := loop_nx (i := 5) (ds := rangeD 0 (bs.length + 1)) (body := sIf (dAndT (dTest (dOp2 (p2 gLtT) (dVar 5) (dOp1 (p1 gLen) (dOp2 (p2 gIx) (dVar 0) (dVar 3))))) (dAndT (dTest (dOp2 (p2 gEq) (dOp2 (p2 gIx) (dOp2 (p2 gIx) (dVar 0) (dVar 3)) (dVar 5)) (dC (.str "o")))) (dTest (dOp2 (p2 gNotIn) (dTup (dACons (dVar 3) (dACons (dVar 5) dANil))) (dVar 1))))) (sAsg 4 (dOp2 (p2 gAdd) (dVar 4) (dC (.int 1)))) (sSeq (sIf (dTest (dOp2 (p2 gGt) (dVar 4) (dC (.int 0)))) (sApp (dVar 2) (dTup (dACons (dVar 3) (dACons (dOp2 (p2 gSub) (dVar 5) (dVar 4)) (dACons (dVar 4) dANil))))) sNext) (sAsg 4 (dC (.int 0)))))
    (ρ := [some (.im (dHall hs)), some (.im (.dt (t.map kT))), some (.rf μ.length), some (.im (.int (r : Int))), some (.im (.int 0)), v5]) (μ := μ ++ [.lst (F.map dRun)])
    (fun k ρ μ' => ∃ (f : List Rn) (m : Nat) (v : Option Sv), m ≤ k ∧ (k ≤ bs.length → f ++ gob r ((frR t r 0 bs).drop k) k m = F ++ gob r (frR t r 0 bs) 0 0) ∧ (bs.length < k → f = F ++ gob r (frR t r 0 bs) 0 0) ∧ ρ = [some (.im (dHall hs)), some (.im (.dt (t.map kT))), some (.rf μ.length), some (.im (.int (r : Int))), some (.im (.int m)), v] ∧ μ' = μ ++ [.lst (f.map dRun)])
    ⟨F, 0, v5, Nat.le_refl _, by simp, by simp, rfl, rfl⟩ (by
      rintro k d ρ μ' hd ⟨f, m, v, hm, h1, h2, rfl, rfl⟩
      obtain ⟨hk, rfl⟩ := range_get hd
      have hk : k < bs.length + 1 := by omega
      have h1 := h1 (by omega)
      have hl : f.length < maxN := by
        have e := congrArg List.length h1
        have := gob_len r (frR t r 0 bs) 0 0
        rw [List.length_append, List.length_append] at e
        rw [frR_len] at this
        simp only [maxN]; omega
      have go : ∀ (f' : List Rn) (m' : Nat) (v' : Option Sv) , m' ≤ k + 1 → (k + 1 ≤ bs.length → f' ++ gob r ((frR t r 0 bs).drop (k + 1)) (k + 1) m' = F ++ gob r (frR t r 0 bs) 0 0) → (bs.length < k + 1 → f' = F ++ gob r (frR t r 0 bs) 0 0) → ∀ {o : O}, o = .nx [some (.im (dHall hs)), some (.im (.dt (t.map kT))), some (.rf μ.length), some (.im (.int (r : Int))), some (.im (.int (m' : Int))), v'] (μ ++ [.lst (f'.map dRun)]) →
          ∃ ρ' μ', o = .nx ρ' μ' ∧ ∃ (f : List Rn) (m : Nat) (v : Option Sv), m ≤ k + 1 ∧ (k + 1 ≤ bs.length → f ++ gob r ((frR t r 0 bs).drop (k + 1)) (k + 1) m = F ++ gob r (frR t r 0 bs) 0 0) ∧ (bs.length < k + 1 → f = F ++ gob r (frR t r 0 bs) 0 0) ∧ ρ' = [some (.im (dHall hs)), some (.im (.dt (t.map kT))), some (.rf μ.length), some (.im (.int (r : Int))), some (.im (.int m)), v] ∧ μ' = μ ++ [.lst (f.map dRun)] :=
        fun f' m' v' q1 q2 q3 _ e => ⟨_, _, e, f', m', v', q1, q2, q3, rfl, rfl⟩
      by_cases hk2 : k < bs.length
      · have g := row_get (bs := bs) (i := (k : Int)) (by omega) (by omega)
        rw [frR_drop t r bs hk2] at h1
        rw [Int.toNat_natCast] at g
        cases hb2 : bs.getD k false with
        | true =>
          rw [hb2] at h1 g
          cases hi : inT t ((r : Int), (k : Int)) with
          | false =>
            rw [hi] at h1
            exact go f (m + 1) (some (.im (.int k))) (by omega) (fun _ => h1) (fun _ => by omega) (by simp [hk2, g, g0, hi])
          | true =>
            rw [hi] at h1
            by_cases hm0 : 0 < m
            · refine go (f ++ [((r : Int), (k : Int) - m, (m : Int))]) 0 (some (.im (.int k))) (by omega) (fun _ => ?_) (fun _ => by omega) (by simp [hk2, g, g0, hi, hm0, hl, dRun])
              rw [← h1]
              simp [gob, hm0]
            · refine go f 0 (some (.im (.int k))) (by omega) (fun _ => ?_) (fun _ => by omega) (by simp [hk2, g, g0, hi, hm0])
              rw [← h1]
              simp [gob, hm0]
        | false =>
          rw [hb2] at h1 g
          by_cases hm0 : 0 < m
          · refine go (f ++ [((r : Int), (k : Int) - m, (m : Int))]) 0 (some (.im (.int k))) (by omega) (fun _ => ?_) (fun _ => by omega) (by simp [hk2, g, g0, hm0, hl, dRun])
            rw [← h1]
            simp [gob, hm0]
          · refine go f 0 (some (.im (.int k))) (by omega) (fun _ => ?_) (fun _ => by omega) (by simp [hk2, g, g0, hm0])
            rw [← h1]
            simp [gob, hm0]
      · have hk3 : k = bs.length := by omega
        subst hk3
        rw [show (frR t r 0 bs).drop bs.length = [] by rw [List.drop_eq_nil_of_le (by simp)]] at h1
        by_cases hm0 : 0 < m
        · refine go (f ++ [((r : Int), (bs.length : Int) - m, (m : Int))]) 0 (some (.im (.int bs.length))) (by omega) (fun _ => by omega) (fun _ => ?_) (by simp [g0, hm0, hl, dRun])
          rw [← h1]
          simp [gob, hm0]
        · refine go f 0 (some (.im (.int bs.length))) (by omega) (fun _ => by omega) (fun _ => ?_) (by simp [g0, hm0])
          rw [← h1]
          simp [gob, hm0])
  rw [range_len] at h3
  rw [h3 (by omega)] at e2
  subst e1 e2
  exact ⟨_, _, e⟩
theorem law_runs (hs : List (List Bool)) (t : Tk) (h40 : hs.length ≤ 40) (b60 : ∀ b ∈ hs, b.length ≤ 60) (μ : Mu) (hμ : Low μ) : F_law_runs [.im (dHall hs), .im (.dt (t.map kT))] μ = .ok (.im (dRuns (blks 0 (frH t 0 hs)))) μ := by
  suffices hh : ∃ z, fb_law_runs ([Sv.im (dHall hs), .im (.dt (t.map kT))].map some ++ List.replicate 4 none) μ = .rt (.rf μ.length) (μ ++ .lst ((blks 0 (frH t 0 hs)).map dRun) :: z) by
    obtain ⟨z, e⟩ := hh
    exact dFn_lst hμ e
  have hlen := blks_len (frH t 0 hs) 0 (frH_mem t hs 0 b60)
  rw [frH_len] at hlen
  unfold fb_law_runs
  simp
  rw [if_pos (in62_small (by omega) (by omega))]
  refine loop_then (fun o => ∃ z, o = O.rt (.rf μ.length) (μ ++ .lst ((blks 0 (frH t 0 hs)).map dRun) :: z))
    (fun k ρ μ' => ∃ (F : List Rn) (v3 v4 v5 : Option Sv), (k ≤ hs.length → F ++ blks k ((frH t 0 hs).drop k) = blks 0 (frH t 0 hs)) ∧ ρ = [some (.im (dHall hs)), some (.im (.dt (t.map kT))), some (.rf μ.length), v3, v4, v5] ∧ μ' = μ ++ [.lst (F.map dRun)]) ⟨[], none, none, none, by simp, rfl, rfl⟩ ?_ ?_
  · rintro k d ρ μ' hd ⟨F, v3, v4, v5, h1, rfl, rfl⟩
    obtain ⟨hk, rfl⟩ := range_get hd
    have hk : k < hs.length := by omega
    have h1 := h1 (by omega)
    have g := hall_get (hs := hs) (i := (k : Int)) (by omega) (by omega)
    rw [Int.toNat_natCast] at g
    have hfk : k < (frH t 0 hs).length := by rw [frH_len]; exact hk
    have hdr : (frH t 0 hs).drop k = frR t k 0 (hs.getD k []) :: (frH t 0 hs).drop (k + 1) := by
      rw [List.drop_eq_getElem_cons hfk]
      congr 1
      have q := frH_get t hs 0 k hk
      rw [List.getD_eq_getElem?_getD, List.getElem?_eq_getElem hfk, show (0 + k : Nat) = k by omega] at q
      exact q
    rw [hdr] at h1
    have hbk : (hs.getD k []).length ≤ 60 := by
      rw [List.getD_eq_getElem?_getD, List.getElem?_eq_getElem hk]
      exact b60 _ (List.getElem_mem hk)
    simp only [blks] at h1
    have hF : F.length + (hs.getD k []).length < 100000 := by
      have e := congrArg List.length h1
      rw [List.length_append] at e
      omega
    obtain ⟨v4', v5', e⟩ := law_runs_row (t := t) (μ := μ) (F := F) (v4 := v4) (v5 := v5) hk rfl hbk hF
    generalize hs.getD k [] = bs at g h1 hbk e
    have i2 : in62 ((bs.length : Int) + 1) = true := in62_small (by omega) (by omega)
    refine ⟨[some (.im (dHall hs)), some (.im (.dt (t.map kT))), some (.rf μ.length), some (.im (.int k)), v4', v5'], μ ++ [.lst ((F ++ gob k (frR t k 0 bs) 0 0).map dRun)], ?_, F ++ gob k (frR t k 0 bs) 0 0, _, _, _, fun _ => ?_, rfl, rfl⟩
    · simp [g, i2]
      simpa using e
    · rw [← h1, List.append_assoc]; simp
  · rintro ρ μ' ⟨F, v3, v4, v5, h1, rfl, rfl⟩
    rw [range_len] at h1
    have h1 := h1 (by omega)
    rw [List.drop_eq_nil_of_le (by simp)] at h1
    have : F = blks 0 (frH t 0 hs) := by simpa [blks] using h1
    subst this
    exact ⟨[], by simp⟩
def dBest (o : Option Rn) (k : Nat) : D := match o with
  | some y => dSp (rowOf y.2.1 y.2.2 k)
  | none => .non
def backR (o : Rn) : Rn := (o.2.1, o.2.2, 0 - o.1)
theorem back_neg (r : Rn) : backR (neg3 r) = r := by
  obtain ⟨a, b, c⟩ := r
  simp [backR, neg3]
theorem back_perm (left : List Rn) : ((isort lexC (left.map neg3)).map backR).Perm left := by
  have h := (isort_perm (lt := lexC) (left.map neg3)).map backR
  rw [List.map_map] at h
  have e : left.map (backR ∘ neg3) = left := by
    conv => rhs; rw [← List.map_id left]
    exact List.map_congr_left fun r _ => back_neg r
  rw [e] at h
  exact h
theorem row_piece (r a : Int) (n i s : Nat) (h : i + s ≤ n) : (((rowOf r a n).map dPl).take (i + s)).drop i = (rowOf r (a + i) s).map dPl := by
  unfold rowOf
  rw [List.map_map, List.map_map, ← List.map_take, ← List.map_drop, List.take_range, Nat.min_eq_left h]
  apply List.ext_getElem
  · simp
  · intro j h1 h2
    simp [dPl]
    omega
end LW

namespace LW
open PySem L2 SP
theorem back_ex {n m : Nat} {hs : List (List Bool)} {h : Held} {μ : Mu} (P : PL μ n m hs h []) : F_Plan_back [.rf n] μ = .ex .nothing μ := by
  suffices hh : ∃ ρ, fb_Plan_back ([Sv.rf n].map some ++ List.replicate 0 none) μ = .ex .nothing ρ (μ ++ []) by
    obtain ⟨ρ, e⟩ := hh
    exact dFn_ex P.lo e
  have ob := P.ob
  have pa := P.pa
  unfold fb_Plan_back
  simp [ob, obP, pa]
theorem leave_ex {n m : Nat} {hs : List (List Bool)} {h : Held} {past : List Held} {μ : Mu} {x : Sv} {c : Xn} (P : PL μ n m hs h past) (e : F_Plan_need_group [.rf n, x] μ = .ex c μ) : F_Plan_leave [.rf n, x] μ = .ex c μ := by
  suffices hh : ∃ ρ, fb_Plan_leave ([Sv.rf n, x].map some ++ List.replicate 3 none) μ = .ex c ρ (μ ++ []) by
    obtain ⟨ρ, e⟩ := hh
    exact dFn_ex P.lo e
  have ob := P.ob
  unfold fb_Plan_leave
  simp [ob, obP, e]
theorem shift_ex {n m : Nat} {hs : List (List Bool)} {h : Held} {past : List Held} {μ : Mu} {x r i : Sv} {c : Xn} (P : PL μ n m hs h past) (e : F_Plan_need_group [.rf n, x] μ = .ex c μ) : F_Plan_shift [.rf n, x, r, i] μ = .ex c μ := by
  suffices hh : ∃ ρ, fb_Plan_shift ([Sv.rf n, x, r, i].map some ++ List.replicate 3 none) μ = .ex c ρ (μ ++ []) by
    obtain ⟨ρ, e⟩ := hh
    exact dFn_ex P.lo e
  have ob := P.ob
  unfold fb_Plan_shift
  simp [ob, obP, e]
theorem seats_ex {n m : Nat} {hs : List (List Bool)} {h : Held} {past : List Held} {μ : Mu} {x : Sv} {c : Xn} (P : PL μ n m hs h past) (e : F_Plan_need_group [.rf n, x] μ = .ex c μ) : F_Plan_seats [.rf n, x] μ = .ex c μ := by
  suffices hh : ∃ ρ, fb_Plan_seats ([Sv.rf n, x].map some ++ List.replicate 0 none) μ = .ex c ρ (μ ++ []) by
    obtain ⟨ρ, e⟩ := hh
    exact dFn_ex P.lo e
  have ob := P.ob
  unfold fb_Plan_seats
  simp [ob, obP, e]
theorem shift_noseat {n m : Nat} {hs : List (List Bool)} {h : Held} {past : List Held} {μ : Mu} {x : Str} {ps : List Pl} {r a : Int} (P : PL μ n m hs h past) (hx : getH h x = some ps) (hl : ps.length ≤ 2400) (hn : ∃ j : Nat, j < ps.length ∧ seatB hs r (a + (j : Int)) = false) : F_Plan_shift [.rf n, .im (.str x), .im (.int r), .im (.int a)] μ = .ex .noseat μ := by
  suffices hh : ∃ ρ, fb_Plan_shift ([Sv.rf n, .im (.str x), .im (.int r), .im (.int a)].map some ++ List.replicate 3 none) μ = .ex .noseat ρ (μ ++ []) by
    obtain ⟨ρ, e⟩ := hh
    exact dFn_ex P.lo e
  have ob := P.ob
  have e1 := need_group_ok P (x := x) (List.mem_map.mpr ⟨_, getH_of hx, rfl⟩)
  have e2 := gDGet_held hx
  have e3 := spots_of r a 0 ps.length (by omega) μ P.lo
  have lk : gLen (dSp ps) = some (.int (ps.length : Nat)) := by show some (D.int ((ps.map dPl).length : Nat)) = _; rw [List.length_map]
  have e4 := fun j => is_seat hs r j μ P.lo
  unfold fb_Plan_shift
  simp [ob, obP, e1, e2, lk, e3]
  obtain ⟨j0, hj0, hq⟩ := hn
  have key := loop_any (i := 5) (body := sIf (dNotT (dTest (dCall F_is_seat (dACons (dFld (dVar 0) "hall") (dACons (dOp2 (p2 gIx) (dVar 5) (dC (.int 0))) (dACons (dOp2 (p2 gIx) (dVar 5) (dC (.int 1))) dANil)))))) (sRaise .noseat) sNext)
    (fun k ρ μ' => (∀ j : Nat, j < k → seatB hs r (a + (j : Int)) = true) ∧ ∃ v : Option Sv, ρ = [some (.rf n), some (.im (.str x)), some (.im (.int r)), some (.im (.int a)), some (.im (dSp (rowOf r a ps.length))), v, none] ∧ μ' = μ) (fun o => ∃ ρ, o = .ex .noseat ρ μ) ((rowOf r a ps.length).map dPl) 0
    [some (.rf n), some (.im (.str x)), some (.im (.int r)), some (.im (.int a)), some (.im (dSp (rowOf r a ps.length))), none, none] μ ⟨fun j hj => absurd hj (Nat.not_lt_zero _), none, rfl, rfl⟩ (by
      rintro k d ρ μ' _ hd ⟨al, v, rfl, rfl⟩
      rw [Nat.sub_zero] at hd
      obtain ⟨p, hp, rfl⟩ := map_get hd
      obtain ⟨hk, rfl⟩ := rowOf_get hp
      have q := e4 (a + (k : Int))
      cases hc : seatB hs r (a + (k : Int)) with
      | true =>
        rw [hc] at q
        left
        refine ⟨[some (.rf n), some (.im (.str x)), some (.im (.int r)), some (.im (.int a)), some (.im (dSp (rowOf r a ps.length))), some (.im (dPl (r, a + (k : Int)))), none], μ', .inl ?_, fun j hj => ?_, _, rfl, rfl⟩
        · simp [ob, obP, dPl, q]
        · by_cases z : j < k
          · exact al j z
          · have : j = k := by omega
            rw [this]; exact hc
      | false =>
        rw [hc] at q
        right; right
        refine ⟨.noseat, [some (.rf n), some (.im (.str x)), some (.im (.int r)), some (.im (.int a)), some (.im (dSp (rowOf r a ps.length))), some (.im (dPl (r, a + (k : Int)))), none], μ', ?_, _, rfl⟩
        simp [ob, obP, dPl, q]) (by
      rintro ρ μ' ⟨al, _⟩
      have := al j0 (by rw [List.length_map]; simp [rowOf]; exact hj0)
      rw [hq] at this; cases this)
  obtain ⟨ρ, e⟩ := key
  refine ⟨ρ, ?_⟩
  rw [e]; rfl
theorem shift_taken {n m : Nat} {hs : List (List Bool)} {h : Held} {past : List Held} {μ : Mu} {x : Str} {ps : List Pl} {r a : Int} (P : PL μ n m hs h past) (w : VH hs h) (hx : getH h x = some ps) (hl : ps.length ≤ 2400) (hs1 : ∀ j : Nat, j < ps.length → seatB hs r (a + (j : Int)) = true)
    (hn : ∃ j : Nat, j < ps.length ∧ ∃ y, whoT (takL h) (r, a + (j : Int)) = some y ∧ y ≠ x) : F_Plan_shift [.rf n, .im (.str x), .im (.int r), .im (.int a)] μ = .ex .taken μ := by
  suffices hh : ∃ ρ, fb_Plan_shift ([Sv.rf n, .im (.str x), .im (.int r), .im (.int a)].map some ++ List.replicate 3 none) μ = .ex .taken ρ (μ ++ []) by
    obtain ⟨ρ, e⟩ := hh
    exact dFn_ex P.lo e
  have ob := P.ob
  have e1 := need_group_ok P (x := x) (List.mem_map.mpr ⟨_, getH_of hx, rfl⟩)
  have e2 := gDGet_held hx
  have e3 := spots_of r a 0 ps.length (by omega) μ P.lo
  have lk : gLen (dSp ps) = some (.int (ps.length : Nat)) := by show some (D.int ((ps.map dPl).length : Nat)) = _; rw [List.length_map]
  have e4 := fun j => is_seat hs r j μ P.lo
  have e5 := plan_taken P w
  refine rz_intro (P := fun o => ∃ ρ, o = .ex .taken ρ (μ ++ [])) fun Q hQ => ?_
  unfold fb_Plan_shift
  simp [ob, obP, e1, e2, lk, e3]
  obtain ⟨j0, hj0, y0, hy0, hne⟩ := hn
  refine loop_then Q (fun k ρ μ' => ∃ v : Option Sv, ρ = [some (.rf n), some (.im (.str x)), some (.im (.int r)), some (.im (.int a)), some (.im (dSp (rowOf r a ps.length))), v, none] ∧ μ' = μ) ⟨none, rfl, rfl⟩ ?_ ?_
  · rintro k d ρ μ' hd ⟨v, rfl, rfl⟩
    obtain ⟨p, hp, rfl⟩ := map_get hd
    obtain ⟨hk, rfl⟩ := rowOf_get hp
    have q := e4 (a + (k : Int))
    rw [hs1 k hk] at q
    refine nx_intro fun Z hZ => ?_
    simp [ob, obP, dPl, q]
    exact Nx.mk (hZ _ _ ⟨some (.im (dPl (r, a + (k : Int)))), rfl, rfl⟩)
  · rintro ρ μ' ⟨v, rfl, rfl⟩
    simp [ob, obP, e5]
    have key := loop_any (i := 5) (body := sIf (dAndT (dTest (dOp2 (p2 gIn) (dVar 5) (dVar 6))) (dTest (dOp2 (p2 gNe) (dOp2 (p2 gDGet) (dVar 6) (dVar 5)) (dVar 1)))) (sRaise .taken) sNext)
      (fun k ρ μ1 => (∀ j : Nat, j < k → ∀ y, whoT (takL h) (r, a + (j : Int)) = some y → y = x) ∧ ∃ v : Option Sv, ρ = [some (.rf n), some (.im (.str x)), some (.im (.int r)), some (.im (.int a)), some (.im (dSp (rowOf r a ps.length))), v, some (.im (.dt ((takL h).map kT)))] ∧ μ1 = μ') (fun o => ∃ ρ, o = .ex .taken ρ μ') ((rowOf r a ps.length).map dPl) 0
      [some (.rf n), some (.im (.str x)), some (.im (.int r)), some (.im (.int a)), some (.im (dSp (rowOf r a ps.length))), v, some (.im (.dt ((takL h).map kT)))] μ' ⟨fun j hj => absurd hj (Nat.not_lt_zero _), v, rfl, rfl⟩ (by
        rintro k d ρ μ1 _ hd ⟨al, v, rfl, rfl⟩
        rw [Nat.sub_zero] at hd
        obtain ⟨p, hp, rfl⟩ := map_get hd
        obtain ⟨hk, rfl⟩ := rowOf_get hp
        have g1 := gIn_tak (takL h) r (a + (k : Int))
        cases hw : whoT (takL h) (r, a + (k : Int)) with
        | none =>
          have hi : inT (takL h) (r, a + (k : Int)) = false := by
            rw [← valD_some, valD_tak, hw]; rfl
          left
          refine ⟨[some (.rf n), some (.im (.str x)), some (.im (.int r)), some (.im (.int a)), some (.im (dSp (rowOf r a ps.length))), some (.im (dPl (r, a + (k : Int)))), some (.im (.dt ((takL h).map kT)))], μ1, .inl ?_, fun j hj y hy => ?_, _, rfl, rfl⟩
          · simp [dPl, hi]
          · by_cases z : j < k
            · exact al j z y hy
            · have : j = k := by omega
              rw [this, hw] at hy; cases hy
        | some y =>
          have hi : inT (takL h) (r, a + (k : Int)) = true := by
            rw [← valD_some, valD_tak, hw]; rfl
          have g2 := gDGet_tak hw
          by_cases hyx : y = x
          · left
            refine ⟨[some (.rf n), some (.im (.str x)), some (.im (.int r)), some (.im (.int a)), some (.im (dSp (rowOf r a ps.length))), some (.im (dPl (r, a + (k : Int)))), some (.im (.dt ((takL h).map kT)))], μ1, .inl ?_, fun j hj y' hy => ?_, _, rfl, rfl⟩
            · simp [dPl, hi, g2, hyx]
            · by_cases z : j < k
              · exact al j z y' hy
              · have : j = k := by omega
                rw [this, hw] at hy; cases hy; exact hyx
          · right; right
            refine ⟨.taken, [some (.rf n), some (.im (.str x)), some (.im (.int r)), some (.im (.int a)), some (.im (dSp (rowOf r a ps.length))), some (.im (dPl (r, a + (k : Int)))), some (.im (.dt ((takL h).map kT)))], μ1, ?_, _, rfl⟩
            simp [dPl, hi, g2, hyx]) (by
        rintro ρ μ1 ⟨al, _⟩
        exact absurd (al j0 (by rw [List.length_map]; simp [rowOf]; exact hj0) y0 hy0) hne)
    obtain ⟨ρ, e⟩ := key
    rw [e]
    exact hQ _ ⟨ρ, by rw [List.append_nil]; rfl⟩
end LW

namespace LW
open PySem L2 SP
theorem back_ok {n m : Nat} {hs : List (List Bool)} {h h0 : Held} {past : List Held} {μ : Mu} (P : PL μ n m hs h (past ++ [h0])) : F_Plan_back [.rf n] μ = .ok (.im .non) (upP μ n m hs past h0) := by
  suffices hh : ∃ ρ, fb_Plan_back ([Sv.rf n].map some ++ List.replicate 0 none) μ = .nx ρ (upP μ n m hs past h0 ++ []) by
    obtain ⟨ρ, e⟩ := hh
    exact dFn_nx2 (upP_len ..) (P.up _ _).lo e
  have ob := P.ob
  have pa := P.pa
  rw [List.map_append, List.map_cons, List.map_nil] at pa
  have e1 := pop_last (n := m) (μ := μ) (xs := past.map dHeld) (d := dHeld h0)
  have ob2 : (μ.set m (.lst (past.map dHeld)))[n]? = some (.ob [("hall", .im (dHall hs)), ("held", .im (dHeld h)), ("past", .rf m)]) := by rw [List.getElem?_set_ne (Ne.symm P.ne)]; exact ob
  have nz : ¬ ((past.length : Int) + 1 = 0) := by omega
  unfold fb_Plan_back
  simp [ob, obP, pa, e1, ob2, nz, upP]
theorem shift_ok {n m : Nat} {hs : List (List Bool)} {h : Held} {past : List Held} {μ : Mu} {x : Str} {ps : List Pl} {r a : Int} (P : PL μ n m hs h past) (w : VH hs h) (hpl : past.length < 1000) (h1 : h.length < 100000) (hx : getH h x = some ps) (hl : ps.length ≤ 2400) (hs1 : ∀ j : Nat, j < ps.length → seatB hs r (a + (j : Int)) = true)
    (hn : ∀ j : Nat, j < ps.length → ∀ y, whoT (takL h) (r, a + (j : Int)) = some y → y = x) : F_Plan_shift [.rf n, .im (.str x), .im (.int r), .im (.int a)] μ = .ok (.im (dSp (rowOf r a ps.length))) (upP μ n m hs (past ++ [h]) (putH h x (rowOf r a ps.length))) := by
  suffices hh : ∃ z, fb_Plan_shift ([Sv.rf n, .im (.str x), .im (.int r), .im (.int a)].map some ++ List.replicate 3 none) μ = .rt (.im (dSp (rowOf r a ps.length))) (upP μ n m hs (past ++ [h]) (putH h x (rowOf r a ps.length)) ++ z) by
    obtain ⟨z, e⟩ := hh
    exact dFn_im2 (upP_len ..) (P.up _ _).lo e
  have ob := P.ob
  have e1 := need_group_ok P (x := x) (List.mem_map.mpr ⟨_, getH_of hx, rfl⟩)
  have e2 := gDGet_held hx
  have e3 := spots_of r a 0 ps.length (by omega) μ P.lo
  have lk : gLen (dSp ps) = some (.int (ps.length : Nat)) := by show some (D.int ((ps.map dPl).length : Nat)) = _; rw [List.length_map]
  have e4 := fun j => is_seat hs r j μ P.lo
  have e5 := plan_taken P w
  have e6 := plan_given P hpl h1 x (rowOf r a ps.length)
  refine rz_intro (P := fun o => ∃ z, o = .rt (.im (dSp (rowOf r a ps.length))) (upP μ n m hs (past ++ [h]) (putH h x (rowOf r a ps.length)) ++ z)) fun Q hQ => ?_
  unfold fb_Plan_shift
  simp [ob, obP, e1, e2, lk, e3]
  refine loop_then Q (fun k ρ μ' => ∃ v : Option Sv, ρ = [some (.rf n), some (.im (.str x)), some (.im (.int r)), some (.im (.int a)), some (.im (dSp (rowOf r a ps.length))), v, none] ∧ μ' = μ) ⟨none, rfl, rfl⟩ ?_ ?_
  · rintro k d ρ μ' hd ⟨v, rfl, rfl⟩
    obtain ⟨p, hp, rfl⟩ := map_get hd
    obtain ⟨hk, rfl⟩ := rowOf_get hp
    have q := e4 (a + (k : Int))
    rw [hs1 k hk] at q
    refine nx_intro fun Z hZ => ?_
    simp [ob, obP, dPl, q]
    exact Nx.mk (hZ _ _ ⟨some (.im (dPl (r, a + (k : Int)))), rfl, rfl⟩)
  · rintro ρ μ' ⟨v, rfl, rfl⟩
    simp [ob, obP, e5]
    refine loop_then Q (fun k ρ μ1 => ∃ v : Option Sv, ρ = [some (.rf n), some (.im (.str x)), some (.im (.int r)), some (.im (.int a)), some (.im (dSp (rowOf r a ps.length))), v, some (.im (.dt ((takL h).map kT)))] ∧ μ1 = μ') ⟨v, rfl, rfl⟩ ?_ ?_
    · rintro k d ρ μ1 hd ⟨v, rfl, rfl⟩
      obtain ⟨p, hp, rfl⟩ := map_get hd
      obtain ⟨hk, rfl⟩ := rowOf_get hp
      have g1 := gIn_tak (takL h) r (a + (k : Int))
      refine nx_intro fun Z hZ => ?_
      cases hw : whoT (takL h) (r, a + (k : Int)) with
      | none =>
        have hi : inT (takL h) (r, a + (k : Int)) = false := by
          rw [← valD_some, valD_tak, hw]; rfl
        simp [dPl, hi]
        exact Nx.mk (hZ _ _ ⟨some (.im (dPl (r, a + (k : Int)))), rfl, rfl⟩)
      | some y =>
        have hi : inT (takL h) (r, a + (k : Int)) = true := by
          rw [← valD_some, valD_tak, hw]; rfl
        have g2 := gDGet_tak hw
        have hyx := hn k hk y hw
        simp [dPl, hi, g2, hyx]
        exact Nx.mk (hZ _ _ ⟨some (.im (dPl (r, a + (k : Int)))), rfl, rfl⟩)
    · rintro ρ μ1 ⟨v, rfl, rfl⟩
      simp [ob, obP, e6]
      exact hQ _ ⟨[], by rw [List.append_nil]⟩
end LW

namespace LW
open PySem L2 SP
/-- what the law's dict is, wherever it stands -/
def LK (μ : Mu) (u : Sv) (h : Held) : Prop := ∀ r, look (μ ++ r) u = some (.dk (h.map kH))
theorem LK.at {μ : Mu} {u : Sv} {h : Held} (l : LK μ u h) : look μ u = some (.dk (h.map kH)) := by
  have := l []
  rwa [List.append_nil] at this
theorem LK.rf {μ : Mu} {d : Nat} {h : Held} (e : μ[d]? = some (.dk (h.map kH))) : LK μ (.rf d) h := fun r => by
  rw [look_rf, get_app e]; rfl
theorem LK.im (μ : Mu) (h : Held) : LK μ (.im (dHeld h)) h := fun r => rfl
theorem LK.app {μ : Mu} {u : Sv} {h : Held} (l : LK μ u h) (r : Mu) : LK (μ ++ r) u h := fun r2 => by rw [List.append_assoc]; exact l _
theorem upP_self {μ : Mu} {n m : Nat} {hs : List (List Bool)} {h : Held} {past : List Held} (P : PL μ n m hs h past) : upP μ n m hs past h = μ := by
  unfold upP
  apply List.ext_getElem?
  intro i
  by_cases h1 : n = i
  · subst h1
    rw [List.getElem?_set_self (by simpa using P.lt.1), P.ob]
  · rw [List.getElem?_set_ne h1]
    by_cases h2 : m = i
    · subst h2
      rw [List.getElem?_set_self P.lt.2, P.pa]
    · rw [List.getElem?_set_ne h2]
theorem upP_up {μ : Mu} {n m : Nat} {hs : List (List Bool)} {h h' : Held} {past past' : List Held} (ne : n ≠ m) : upP (upP μ n m hs past h) n m hs past' h' = upP μ n m hs past' h' := by
  unfold upP
  rw [List.set_comm _ _ ne, List.set_set, List.set_set]
theorem gNe_self {d : D} (h : D.eqok 9 d = true) : gNe d d = some (.bl false) := by
  rw [gNe_of h h, eqv_same 9 d h]; rfl
theorem who_eqok (t : Tk) (p : Pl) : D.eqok 9 (dWho t p) = true := by
  unfold dWho
  cases whoT t p <;> simp [D.eqok]
theorem law_taken' {μ : Mu} {u : Sv} {hs : List (List Bool)} {h : Held} (hd : LK μ u h) (lo : Low μ) (v : VH hs h) : F_law_taken [u] μ = .ok (.im (.dt ((takL h).map kT))) μ := by
  suffices hh : ∃ z, fb_law_taken ([u].map some ++ List.replicate 3 none) μ = .rt (.rf μ.length) (μ ++ .dt ((takL h).map kT) :: z) by
    obtain ⟨z, e⟩ := hh
    exact dFn_dt lo e
  have ob : ∀ r, look (μ ++ r) u = some (.dk (h.map kH)) := hd
  have ob0 := hd.at
  have fl : ∀ μ1 : Mu, fListD μ1 (some (.dk (h.map kH))) = .ok (.lst ((nmsH h).map D.str)) μ1 := fun μ1 => fListD_held μ1 h
  have hmany := v.many
  unfold fb_law_taken
  simp [ob, ob0, fl]
  refine loop_then (fun o => ∃ z, o = O.rt (.rf μ.length) (μ ++ .dt ((takL h).map kT) :: z))
    (fun k ρ μ' => ∃ (v2 v3 : Option Sv), ρ = [some u, some (.rf μ.length), v2, v3] ∧ μ' = μ ++ [.dt ((takL (h.take k)).map kT)]) ⟨none, none, rfl, rfl⟩ ?_ ?_
  · rintro k d1 ρ μ' hd1 ⟨v2, v3, rfl, rfl⟩
    obtain ⟨x, hx, rfl⟩ := map_get hd1
    unfold nmsH at hx
    rw [List.getElem?_map] at hx
    cases hg : h[k]? with
    | none => rw [hg] at hx; cases hx
    | some g =>
      rw [hg] at hx
      obtain rfl : g.1 = x := Option.some.inj hx
      have hgm : g ∈ h := List.mem_of_getElem? hg
      have htk : h.take (k + 1) = h.take k ++ [g] := by rw [List.take_add_one, hg]; rfl
      have hsplit : h = h.take k ++ g :: h.drop (k + 1) := by
        have := go_at hg
        rw [← this.2, List.take_append_drop]
      have npq : (allP (h.take k) ++ g.2).Nodup := by
        have q := v.np
        rw [hsplit, allP_app, show allP (g :: h.drop (k + 1)) = g.2 ++ allP (h.drop (k + 1)) by unfold allP; rw [List.flatMap_cons], ← List.append_assoc] at q
        exact (List.nodup_append.mp q).1
      have lenA : (allP (h.take k)).length + g.2.length ≤ 2400 := by
        have q := hmany
        rw [hsplit, allP_app, show allP (g :: h.drop (k + 1)) = g.2 ++ allP (h.drop (k + 1)) by unfold allP; rw [List.flatMap_cons], List.length_append, List.length_append] at q
        omega
      rw [htk, takL_app, show takL [g] = g.2.map (fun p => (p, g.1)) by simp [takL]]
      rw [← takL_keys] at npq lenA
      generalize takL (h.take k) = T at npq lenA
      have gd : gDGet (.dk (h.map kH)) (.str g.1) = some (dSp g.2) := gDGet_held (getH_mem v.nn hgm)
      refine nx_intro fun Z hZ => ?_
      simp [ob, gd]
      obtain ⟨ρ', μ', e, v3', e1, e2⟩ := loop_nx (i := 3) (ds := g.2.map dPl) (body := SP.sDPut (dVar 1) (dVar 3) (dVar 2)) (ρ := [some u, some (.rf μ.length), some (.im (.str g.1)), v3]) (μ := μ ++ [.dt (T.map kT)])
        (fun j ρ μ' => ∃ v3, ρ = [some u, some (.rf μ.length), some (.im (.str g.1)), v3] ∧ μ' = μ ++ [.dt ((T ++ (g.2.take j).map fun p => (p, g.1)).map kT)]) ⟨_, rfl, by simp⟩ (by
          rintro j d1 ρ μ' hd1 ⟨v3, rfl, rfl⟩
          obtain ⟨p, hp, rfl⟩ := map_get hd1
          have htp : g.2.take (j + 1) = g.2.take j ++ [p] := by rw [List.take_add_one, hp]; rfl
          have nT : inT (T ++ (g.2.take j).map fun p => (p, g.1)) p = false := by
            have hsp : g.2 = g.2.take j ++ p :: g.2.drop (j + 1) := by
              have := go_at hp
              rw [← this.2, List.take_append_drop]
            cases q : inT (T ++ (g.2.take j).map fun p => (p, g.1)) p with
            | false => rfl
            | true =>
              rw [inT_mem, List.map_append, List.map_map] at q
              rw [hsp, ← List.append_assoc] at npq
              refine absurd rfl ((List.nodup_append.mp npq).2.2 p ?_ p List.mem_cons_self)
              simpa [Function.comp_def] using q
          have lT : (T ++ (g.2.take j).map fun p => (p, g.1)).length < maxN := by
            rw [List.length_append, List.length_map, List.length_take]
            rw [List.length_map] at lenA
            simp only [maxN]; omega
          have htp2 : T ++ (g.2.take (j + 1)).map (fun p => (p, g.1)) = (T ++ (g.2.take j).map fun p => (p, g.1)) ++ [(p, g.1)] := by
            rw [htp, List.map_append, ← List.append_assoc]; rfl
          rw [htp2]
          generalize T ++ (g.2.take j).map (fun p => (p, g.1)) = T2 at nT lT
          have e := fun ρ => putCell_tak (t := T2) (n := μ.length) (a := p.1) (b := p.2) (v := g.1) (ρ := ρ) (μ := μ ++ [.dt (T2.map kT)]) (by simp [cTak]) lT
          rw [putT_new _ nT] at e
          refine nx_intro fun Y hY => ?_
          simp [dPl, e]
          exact Nx.mk (hY _ _ ⟨_, rfl, by simp [cTak]⟩))
      rw [e]
      subst e1 e2
      exact Nx.mk (hZ _ _ ⟨_, _, rfl, by rw [List.length_map, List.take_length]⟩)
  · rintro ρ μ' ⟨v2, v3, rfl, rfl⟩
    refine ⟨[], ?_⟩
    unfold nmsH
    rw [List.length_map, List.length_map, List.take_length]
    simp
theorem law_lines' {μ : Mu} {u : Sv} {hs : List (List Bool)} {h : Held} (hd : LK μ u h) (lo : Low μ) (v : VH hs h) (h1 : h.length < 100000) : F_law_lines [u] μ = .ok (.im (.lst (h.map fun g => .str (lineS g)))) μ := by
  suffices hh : ∃ z, fb_law_lines ([u].map some ++ List.replicate 3 none) μ = .rt (.rf μ.length) (μ ++ .lst (h.map fun g => .str (lineS g)) :: z) by
    obtain ⟨z, e⟩ := hh
    exact dFn_lst lo e
  have ob : ∀ r, look (μ ++ r) u = some (.dk (h.map kH)) := hd
  have ob0 := hd.at
  have fl : ∀ μ1 : Mu, fListD μ1 (some (.dk (h.map kH))) = .ok (.lst ((nmsH h).map D.str)) μ1 := fun μ1 => fListD_held μ1 h
  have ok := v.okP
  unfold fb_law_lines
  simp [ob, ob0, fl]
  refine loop_then (fun o => ∃ z, o = O.rt (.rf μ.length) (μ ++ .lst (h.map fun g => .str (lineS g)) :: z))
    (fun k ρ μ' => ∃ (v2 : Option Sv), ρ = [some u, some (.rf μ.length), v2, none] ∧ μ' = μ ++ [.lst ((h.take k).map fun g => .str (lineS g))]) ⟨none, rfl, rfl⟩ ?_ ?_
  · rintro k d1 ρ μ' hd1 ⟨v2, rfl, rfl⟩
    obtain ⟨x, hx, rfl⟩ := map_get hd1
    unfold nmsH at hx
    rw [List.getElem?_map] at hx
    cases hg : h[k]? with
    | none => rw [hg] at hx; cases hx
    | some g =>
      rw [hg] at hx
      obtain rfl : g.1 = x := Option.some.inj hx
      have hgm : g ∈ h := List.mem_of_getElem? hg
      have htk : h.take (k + 1) = h.take k ++ [g] := by rw [List.take_add_one, hg]; rfl
      have hok : ∀ p ∈ g.2, okP p := fun p hp => ok p (allP_mem hgm hp)
      have hgl := v.group_len hgm
      have gd : gDGet (.dk (h.map kH)) (.str g.1) = some (dSp g.2) := gDGet_held (getH_mem v.nn hgm)
      have lk : ((h.take k).map fun g => D.str (lineS g)).length < maxN := by
        rw [List.length_map, List.length_take]; simp only [maxN]; omega
      rw [htk, List.map_append]
      generalize (h.take k).map (fun g => D.str (lineS g)) = L at lk
      obtain ⟨j1, j2⟩ := line_of (v.gn g hgm) hok hgl
      have jw := join_words hok hgl
      have hl2 : g.2.length ≤ maxN := by simp only [maxN]; omega
      refine nx_intro fun Z hZ => ?_
      simp [ob, gd, dSp, hl2, ← gAdd_str, j1]
      rw [lc_end_map dPl (fun p => D.str (tx (wordL p))) g.2 (by
        intro p hp
        have o := hok p hp
        obtain ⟨a, b, c, d⟩ := o
        have w := word_of (hok p hp)
        simp [dPl, gStrE_num a b, gStrE_num c d, sg_dot, ← gAdd_str, w.1, w.2])]
      simp [← gAdd_str, jw, j1, j2, lk]
      exact Nx.mk (hZ _ _ ⟨_, rfl, by simp⟩)
  · rintro ρ μ' ⟨v2, rfl, rfl⟩
    refine ⟨[], ?_⟩
    unfold nmsH
    rw [List.length_map, List.length_map, List.take_length]
    simp
theorem law_stands {n m : Nat} {hs : List (List Bool)} {h : Held} {past : List Held} {μ : Mu} {u : Sv} (P : PL μ n m hs h past) (v : VH hs h) (hd : LK μ u h) (h1 : 1 ≤ hs.length) : F_law_stands [.rf n, .im (dHall hs), u] μ = .ok (.im (.bl true)) μ := by
  refine dFn_im0 P.lo ?_
  have ob := P.ob
  have lo := P.lo
  have ob0 := hd.at
  have e1 := law_taken' hd lo v
  have e2 := plan_groups P
  have e3 := plan_free P v
  have e4 := law_runs hs (takL h) v.h40 v.b60 μ lo
  have fr : blks 0 (frH (takL h) 0 hs) = freeR hs h := rfl
  rw [fr] at e4
  have q1 := gNe_self (strs_eqok (nmsH h))
  have q2 := gNe_self (runs_eqok (freeR hs h))
  have fl : ∀ μ1 : Mu, fListD μ1 (some (.dk (h.map kH))) = .ok (.lst ((nmsH h).map D.str)) μ1 := fun μ1 => fListD_held μ1 h
  obtain ⟨r0, rest, hhs⟩ : ∃ r0 rest, hs = r0 :: rest := by
    cases hs with
    | nil => simp at h1
    | cons a r => exact ⟨a, r, rfl⟩
  have ihs : in62 (hs.length : Int) = true := in62_small (by omega) (by have := v.h40; omega)
  have g00 := hall_get (hs := hs) (i := 0) (by omega) (by omega)
  generalize hs.getD (0 : Int).toNat [] = b0 at g00
  unfold fb_law_stands
  unfold dRuns at e3 e4 q2
  unfold obP at ob
  simp [ob, e1, e2, e3, e4, ob0, fl, q1, q2]
  refine loop_then (fun o => o = O.rt (.im (.bl true)) μ) (fun k ρ μ' => ∃ v4 : Option Sv, ρ = [some (.rf n), some (.im (dHall hs)), some u, some (.im (.dt ((takL h).map kT))), v4, none, none] ∧ μ' = μ) ⟨none, rfl, rfl⟩ ?_ ?_
  · rintro k d ρ μ' hd1 ⟨v4, rfl, hμ⟩
    subst hμ
    obtain ⟨x, hx, rfl⟩ := map_get hd1
    unfold nmsH at hx
    rw [List.getElem?_map] at hx
    cases hg : h[k]? with
    | none => rw [hg] at hx; cases hx
    | some g =>
      rw [hg] at hx
      obtain rfl : g.1 = x := Option.some.inj hx
      have hgm : g ∈ h := List.mem_of_getElem? hg
      have es := plan_seats P (getH_mem v.nn hgm)
      have gd : gDGet (.dk (h.map kH)) (.str g.1) = some (dSp g.2) := gDGet_held (getH_mem v.nn hgm)
      have q3 := gNe_self (sp_eqok 7 g.2)
      exact ⟨[some (.rf n), some (.im (dHall hs)), some u, some (.im (.dt ((takL h).map kT))), some (.im (.str g.1)), none, none], _, by simp [ob, es, ob0, gd, q3], _, rfl, rfl⟩
  · rintro ρ μ' ⟨v4, rfl, hμ⟩
    subst hμ
    simp [ihs]
    refine loop_then (fun o => o = O.rt (.im (.bl true)) μ') (fun k ρ μ2 => ∃ v5 v6 : Option Sv, ρ = [some (.rf n), some (.im (dHall hs)), some u, some (.im (.dt ((takL h).map kT))), v4, v5, v6] ∧ μ2 = μ') ⟨none, none, rfl, rfl⟩ ?_ ?_
    · rintro k d ρ μ2 hd1 ⟨v5, v6, rfl, hμ⟩
      subst hμ
      obtain ⟨hk, rfl⟩ := range_get hd1
      have g := hall_get (hs := hs) (i := (k : Int)) (by omega) (by omega)
      rw [Int.toNat_natCast] at g
      have hbk : (hs.getD k []).length ≤ 60 := by
        rw [List.getD_eq_getElem?_getD, List.getElem?_eq_getElem hk]
        exact v.b60 _ (List.getElem_mem hk)
      have hseat := fun (j : Int) (hj : 0 ≤ j) => seat_in (hs := hs) (r := (k : Int)) (i := j) (by omega) hj
      simp only [Int.toNat_natCast] at hseat
      generalize hs.getD k [] = bs at g hbk hseat
      have ib : in62 (bs.length : Int) = true := in62_small (by omega) (by omega)
      refine nx_intro fun Z hZ => ?_
      simp [g, ib]
      obtain ⟨ρ', μ3, e, w6, e5, e6⟩ := loop_nx (i := 6) (ds := rangeD 0 bs.length) (ρ := [some (.rf n), some (.im (dHall hs)), some u, some (.im (.dt ((takL h).map kT))), v4, some (.im (.int (k : Int))), v6]) (μ := μ2)
        (body := sIf (dAndT (dTest (dOp2 (p2 gEq) (dOp2 (p2 gIx) (dOp2 (p2 gIx) (dVar 1) (dVar 5)) (dVar 6)) (dC (.str (sgS true))))) (dTest (dOp2 (p2 gEq) (dOp2 (p2 gMod) (dOp2 (p2 gAdd) (dOp2 (p2 gAdd) (dVar 5) (dVar 6)) (dOp1 (p1 gLen) (dOp2 (p2 gIx) (dVar 1) (dC (.int 0))))) (dC (.int 3))) (dC (.int 0))))) (sIf (dTest (dOp2 (p2 gNe) (dMeth "who" F_Plan_who (dVar 0) (dACons (dVar 5) (dACons (dVar 6) dANil))) (dGet1 (dVar 3) (dTup (dACons (dVar 5) (dACons (dVar 6) dANil)))))) (sRet (dC (.bl false))) sNext) sNext)
        (fun j ρ μ3 => ∃ v6 : Option Sv, ρ = [some (.rf n), some (.im (dHall hs)), some u, some (.im (.dt ((takL h).map kT))), v4, some (.im (.int (k : Int))), v6] ∧ μ3 = μ2) ⟨v6, rfl, rfl⟩ (by
          rintro j d ρ μ3 hd2 ⟨v6, rfl, hμ⟩
          subst hμ
          obtain ⟨hj, rfl⟩ := range_get hd2
          have gb := row_get (bs := bs) (i := (j : Int)) (by omega) (by omega)
          rw [Int.toNat_natCast] at gb
          have hst := hseat (j : Int) (by omega)
          rw [Int.toNat_natCast] at hst
          refine ⟨[some (.rf n), some (.im (dHall hs)), some u, some (.im (.dt ((takL h).map kT))), v4, some (.im (.int (k : Int))), some (.im (.int (j : Int)))], _, ?_, _, rfl, rfl⟩
          cases hb : bs.getD j false with
          | false =>
            rw [hb] at gb
            simp [g, gb]
          | true =>
            rw [hb] at gb hst
            by_cases c : ((k : Int) + (j : Int) + (b0.length : Int)) % 3 = 0
            · have ew := plan_who P v hst.symm
              have da := dGet_tak (takL h) (k : Int) (j : Int)
              have q4 := gNe_self (who_eqok (takL h) ((k : Int), (j : Int)))
              simp [g, gb, g00, c, ob, ew, da, dWho_eq, q4]
            · simp [g, gb, g00, c])
      subst e5 e6
      rw [e]
      exact Nx.mk (hZ _ _ ⟨_, _, rfl, rfl⟩)
    · rintro ρ μ2 ⟨v5, v6, rfl, hμ⟩
      simp [hμ]
theorem law_nothing {n m : Nat} {hs : List (List Bool)} {h : Held} {μ : Mu} (P : PL μ n m hs h []) : F_law_nothing [.rf n] μ = .ok (.im (.bl true)) μ := by
  refine dFn_im0 P.lo ?_
  have ob := P.ob
  have e := back_ex P
  unfold fb_law_nothing
  simp [ob, obP, e]
end LW

namespace LW
open PySem L2 SP
end LW

namespace LW
open PySem L2 SP
theorem hall_lc {i n : Nat} {e : Ev} {ρ : Rho} {μ : Mu} (h : ∀ k, k < n → ∃ bs : List Bool, bs.length ≤ 60 ∧ e (ρ.set i (some (.im (.int (0 + (k : Int)))))) μ = .ok (.im (.str (rowS bs))) μ) :
    ∃ hs : List (List Bool), hs.length = n ∧ (∀ b ∈ hs, b.length ≤ 60) ∧ lcEnd (lcL i dYes e (rangeD 0 n) ρ μ) = .ok (.lst (hs.map fun bs => .str (rowS bs))) μ := by
  obtain ⟨f, hf⟩ := Classical.axiomOfChoice (r := fun (k : Nat) (bs : List Bool) => k < n → bs.length ≤ 60 ∧ e (ρ.set i (some (.im (.int (0 + (k : Int)))))) μ = .ok (.im (.str (rowS bs))) μ) (fun k => by
    by_cases hk : k < n
    · obtain ⟨bs, h1, h2⟩ := h k hk
      exact ⟨bs, fun _ => ⟨h1, h2⟩⟩
    · exact ⟨[], fun z => absurd z hk⟩)
  refine ⟨(List.range n).map f, by simp, fun b hb => ?_, ?_⟩
  · obtain ⟨k, hk, rfl⟩ := List.mem_map.mp hb
    exact (hf k (List.mem_range.mp hk)).1
  · rw [lc_end_range (g := fun k => D.str (rowS (f k))) fun k hk => (hf k hk).2, List.map_map]
    rfl
theorem draw_row {hs : List (List Bool)} {h : Held} (v : VH hs h) {r : Nat} {bs : List Bool} (hr : r < hs.length) (hbs : hs.getD r [] = bs) {μ : Mu} {v0 v2 v3 v4 v5 v6 v7 v9 v12 v13 : Option Sv} :
    ∃ w12, loopL 12 (sAsg 11 (dOp2 (p2 gAdd) (dVar 11) (dOp2 (p2 gIx) (dI (dLst (dACons (dOp2 (p2 gIx) (dOp2 (p2 gIx) (dVar 1) (dVar 10)) (dVar 12)) (dACons (dC (.str "#")) dANil)))) (dOp1 (p1 gIntE) (dOp2 (p2 gIn) (dTup (dACons (dVar 10) (dACons (dVar 12) dANil))) (dVar 8)))))) (rangeD 0 bs.length)
      [v0, some (.im (dHall hs)), v2, v3, v4, v5, v6, v7, some (.im (.dt ((takL h).map kT))), v9, some (.im (.int (r : Int))), some (.im (.str (tx []))), v12, v13] μ =
      .nx [v0, some (.im (dHall hs)), v2, v3, v4, v5, v6, v7, some (.im (.dt ((takL h).map kT))), v9, some (.im (.int (r : Int))), some (.im (.str (tx (drawnR (takL h) r bs)))), w12, v13] μ := by
  have g0 := hall_get (hs := hs) (i := (r : Int)) (by omega) (by omega)
  rw [Int.toNat_natCast, hbs] at g0
  have hb60 : bs.length ≤ 60 := by
    rw [← hbs, List.getD_eq_getElem?_getD, List.getElem?_eq_getElem hr]
    exact v.b60 _ (List.getElem_mem hr)
  obtain ⟨ρ', μ', e, w12, e1, e2⟩ := loop_nx (i := 12) (ds := rangeD 0 bs.length) (body := sAsg 11 (dOp2 (p2 gAdd) (dVar 11) (dOp2 (p2 gIx) (dI (dLst (dACons (dOp2 (p2 gIx) (dOp2 (p2 gIx) (dVar 1) (dVar 10)) (dVar 12)) (dACons (dC (.str "#")) dANil)))) (dOp1 (p1 gIntE) (dOp2 (p2 gIn) (dTup (dACons (dVar 10) (dACons (dVar 12) dANil))) (dVar 8))))))
    (ρ := [v0, some (.im (dHall hs)), v2, v3, v4, v5, v6, v7, some (.im (.dt ((takL h).map kT))), v9, some (.im (.int (r : Int))), some (.im (.str (tx []))), v12, v13]) (μ := μ)
    (fun k ρ μ' => ∃ w12, ρ = [v0, some (.im (dHall hs)), v2, v3, v4, v5, v6, v7, some (.im (.dt ((takL h).map kT))), v9, some (.im (.int (r : Int))), some (.im (.str (tx ((List.range k).map fun (i : Nat) => signD (takL h) r (bs.getD i false) (i : Int))))), w12, v13] ∧ μ' = μ)
    ⟨v12, rfl, rfl⟩ (by
      rintro k d ρ μ' hd ⟨w12, rfl, hμ⟩
      subst hμ
      obtain ⟨hk, rfl⟩ := range_get hd
      have g := row_get (bs := bs) (i := (k : Int)) (by omega) (by omega)
      rw [Int.toNat_natCast] at g
      have hl : ((List.range k).map fun (i : Nat) => signD (takL h) r (bs.getD i false) (i : Int)).length + 1 ≤ maxN := by
        rw [List.length_map, List.length_range]; simp only [maxN]; omega
      rw [List.range_succ, List.map_append, List.map_cons, List.map_nil]
      generalize (List.range k).map (fun (i : Nat) => signD (takL h) r (bs.getD i false) (i : Int)) = L at hl
      have t1 : sgS true = tx [111] := rfl
      cases hi : inT (takL h) ((r : Int), (k : Int)) with
      | true =>
        have hs2 := v.se ((r : Int), (k : Int)) (inT_takL h _ |>.mp hi)
        have hb2 : bs.getD k false = true := by
          have := (seat_in (hs := hs) (r := (r : Int)) (i := (k : Int)) (by omega) (by omega))
          rw [Int.toNat_natCast, Int.toNat_natCast, hbs] at this
          rw [this]; exact hs2
        rw [hb2] at g ⊢
        refine ⟨_, _, ?_, some (.im (.int (k : Int))), rfl, rfl⟩
        simp [g0, g, hi, hl, signD, ← gAdd_str]
        simp [hl]
      | false =>
        cases hb2 : bs.getD k false with
        | true =>
          rw [hb2] at g
          refine ⟨_, _, ?_, some (.im (.int (k : Int))), rfl, rfl⟩
          simp [g0, g, hi, t1, hl, signD]
        | false =>
          rw [hb2] at g
          refine ⟨_, _, ?_, some (.im (.int (k : Int))), rfl, rfl⟩
          simp [g0, g, hi, sg_dot, hl, signD])
  subst e1 e2
  rw [range_len] at e
  exact ⟨w12, e⟩
end LW

namespace LW
open PySem L2 SP
theorem held_by (hs : List (List Bool)) (h40 : hs.length ≤ 40) (b60 : ∀ b ∈ hs, b.length ≤ 60) (nm : List Str) (gn : ∀ x ∈ nm, goodN x) (hl : nm.length ≤ 12) (z : Int) (μ : Mu) :
    ∃ h r, RH hs h ∧ (∀ x ∈ nmsH h, x ∈ nm) ∧ (∀ c ∈ r, ∀ n, Cell.low n c = true) ∧ F_law_held_by [.im (dHall hs), .im (.lst (nm.map D.str)), .im (.int z)] μ = .ok (.rf (μ.length + r.length)) (μ ++ (r ++ [.dk (h.map kH)])) := by
  suffices hh : ∃ h r, RH hs h ∧ (∀ x ∈ nmsH h, x ∈ nm) ∧ (∀ c ∈ r, ∀ n, Cell.low n c = true) ∧ fb_law_held_by ([Sv.im (dHall hs), .im (.lst (nm.map D.str)), .im (.int z)].map some ++ List.replicate 7 none) μ = .rt (.rf (μ.length + r.length)) (μ ++ (r ++ [.dk (h.map kH)])) by
    obtain ⟨h, r, a, b, c, e⟩ := hh
    refine ⟨h, r, a, b, c, ?_⟩
    show (match fb_law_held_by ([Sv.im (dHall hs), .im (.lst (nm.map D.str)), .im (.int z)].map some ++ List.replicate 7 none) μ with | .rt v μ1 => _ | .nx _ μ1 => _ | .ex c _ μ1 => _ | _ => _) = _
    rw [e]
  have s7 : SP.small64 48271 = true := small64_small (by omega) (by omega)
  have s31 : SP.small64 31 = true := small64_small (by omega) (by omega)
  have ihs : in62 (hs.length : Int) = true := in62_small (by omega) (by omega)
  refine rz_intro (P := fun o => ∃ h r, RH hs h ∧ (∀ x ∈ nmsH h, x ∈ nm) ∧ (∀ c ∈ r, ∀ n, Cell.low n c = true) ∧ o = .rt (.rf (μ.length + r.length)) (μ ++ (r ++ [.dk (h.map kH)]))) fun Q hQ => ?_
  unfold fb_law_held_by
  simp [s7, ihs]
  generalize z * 48271 % 2147483647 = y
  refine loop_then Q (fun k ρ μ' => ∃ (B : Held) (at' : Int) (v5 v6 v7 : Option Sv), WB hs nm B ((k : Int), 0) ∧ ρ = [some (.im (dHall hs)), some (.im (.lst (nm.map D.str))), some (.im (.int y)), some (.rf μ.length), some (.im (.int at')), v5, v6, v7, none, none] ∧ μ' = μ ++ stB μ.length B) ⟨[], 0, none, none, none, ⟨List.nodup_nil, fun g hg => (by cases hg), fun g hg => (by cases hg), fun g hg => (by cases hg), fun g hg => (by cases hg), fun g hg => (by cases hg), fun x hx => (by cases hx)⟩, rfl, rfl⟩ ?_ ?_
  · rintro k d ρ μ' hd ⟨B, at', v5, v6, v7, w, rfl, rfl⟩
    obtain ⟨hk, rfl⟩ := range_get hd
    have hk : k < hs.length := by omega
    have g := hall_get (hs := hs) (i := (k : Int)) (by omega) (by omega)
    rw [Int.toNat_natCast] at g
    have hbk : (hs.getD k []).length ≤ 60 := by
      rw [List.getD_eq_getElem?_getD, List.getElem?_eq_getElem hk]
      exact b60 _ (List.getElem_mem hk)
    have hseat := fun (j : Int) (hj : 0 ≤ j) => seat_in (hs := hs) (r := (k : Int)) (i := j) (by omega) hj
    simp only [Int.toNat_natCast] at hseat
    generalize hs.getD k [] = bs at g hbk hseat
    have ib : in62 (bs.length : Int) = true := in62_small (by omega) (by omega)
    refine nx_intro fun Z hZ => ?_
    simp [g, ib]
    obtain ⟨ρ', μ2, e, B2, at2, v6', v7', w2, e1, e2⟩ := loop_nx (i := 6) (ds := rangeD 0 bs.length) (ρ := [some (.im (dHall hs)), some (.im (.lst (nm.map D.str))), some (.im (.int y)), some (.rf μ.length), some (.im (.int at')), some (.im (.int (k : Int))), v6, v7, none, none]) (μ := μ ++ stB μ.length B)
      (body := sIf (dTest (dOp2 (p2 gEq) (dOp2 (p2 gIx) (dOp2 (p2 gIx) (dVar 0) (dVar 5)) (dVar 6)) (dC (.str (sgS true))))) (sSeq (sAsg 7 (dOp2 (p2 gMod) (dOp2 (p2 gMod) (dOp2 (p2 gMul) (dOp2 (p2 gAdd) (dVar 2) (dOp2 (p2 gMul) (dC (.int 31)) (dOp2 (p2 gDiv) (dVar 4) (dOp2 (p2 gAdd) (dC (.int 1)) (dOp2 (p2 gMod) (dVar 2) (dC (.int 6))))))) (dC (.int 48271))) (dC (.int 10007))) (dOp2 (p2 gAdd) (dC (.int 1)) (dOp2 (p2 gMod) (dOp2 (p2 gDiv) (dVar 2) (dC (.int 6))) (dC (.int 9)))))) (sSeq (sIf (dTest (dOp2 (p2 gLtT) (dVar 7) (dOp1 (p1 gLen) (dVar 1)))) (sApp (dSetd (dVar 3) (dOp2 (p2 gIx) (dVar 1) (dVar 7))) (dTup (dACons (dVar 5) (dACons (dVar 6) dANil)))) sNext) (sAsg 4 (dOp2 (p2 gAdd) (dVar 4) (dC (.int 1)))))) sNext)
      (fun j ρ μ' => ∃ (B : Held) (at' : Int) (v6 v7 : Option Sv), WB hs nm B ((k : Int), (j : Int)) ∧ ρ = [some (.im (dHall hs)), some (.im (.lst (nm.map D.str))), some (.im (.int y)), some (.rf μ.length), some (.im (.int at')), some (.im (.int (k : Int))), v6, v7, none, none] ∧ μ' = μ ++ stB μ.length B) ⟨B, at', v6, v7, w, rfl, rfl⟩ (by
        rintro j d ρ μ' hd ⟨B, at', v6, v7, w, rfl, rfl⟩
        obtain ⟨hj, rfl⟩ := range_get hd
        have gb := row_get (bs := bs) (i := (j : Int)) (by omega) (by omega)
        rw [Int.toNat_natCast] at gb
        have hst := hseat (j : Int) (by omega)
        rw [Int.toNat_natCast] at hst
        obtain ⟨p, hp⟩ : ∃ p : Int, 0 + (j : Int) = p := ⟨_, rfl⟩
        have hpj : p = (j : Int) := by omega
        rw [hp]
        rw [← hpj] at gb
        have nxt : WB hs nm B ((k : Int), ((j + 1 : Nat) : Int)) := w.next (.inr (.inr ⟨rfl, by show (j : Int) < ((j + 1 : Nat) : Int); omega⟩))
        cases hb : bs.getD j false with
        | false =>
          rw [hb] at gb
          refine nx_intro fun Z hZ => ?_
          simp [g, gb]
          exact Nx.mk (hZ _ _ ⟨B, at', _, _, nxt, rfl, rfl⟩)
        | true =>
          rw [hb] at gb hst
          have q0 : (0 : Int) < 1 + y % 6 := by omega
          have q1 : 1 + y % 6 < (1073741824 : Int) := by omega
          have q2 : (0 : Int) < 1 + y / 6 % 9 := by omega
          obtain ⟨W, hW⟩ : ∃ W, (y + 31 * (at' / (1 + y % 6))) * 48271 % 10007 % (1 + y / 6 % 9) = W := ⟨_, rfl⟩
          have W0 : 0 ≤ W := by rw [← hW]; exact Int.emod_nonneg _ (by omega)
          refine nx_intro fun Z hZ => ?_
          by_cases c : W < nm.length
          · obtain ⟨i, rfl⟩ := Int.eq_ofNat_of_zero_le W0
            have hi : i < nm.length := by omega
            have ix : atI (nm.map D.str) ((i : Nat) : Int) = some (.str nm[i]) := by
              rw [atI_int, List.getElem?_map, List.getElem?_eq_getElem hi]; rfl
            have R := w.rh h40 b60 gn w.nn (fun g hg => hg)
            have few := R.v.few R.ne
            have e := setd_app (fd := dVar 3) (fk := dOp2 (p2 gIx) (dVar 1) (dVar 7)) (fe := dTup (dACons (dVar 5) (dACons (dVar 6) dANil))) (ρ := [some (.im (dHall hs)), some (.im (.lst (nm.map D.str))), some (.im (.int y)), some (.rf μ.length), some (.im (.int at')), some (.im (.int (k : Int))), some (.im (.int p)), some (.im (.int ((i : Nat) : Int))), none, none]) (μ := μ) (B := B) (x := nm[i]) (p := ((k : Int), p)) w.nn (by omega) (fun g hg => by have := R.v.group_len hg; omega) (fun μ' => by simp) (fun μ' => by simp [ix]) (fun μ' => by simp [dPl])
            have w2 : WB hs nm (addP B nm[i] ((k : Int), p)) ((k : Int), ((j + 1 : Nat) : Int)) := by
              rw [hpj]
              exact w.add (List.getElem_mem hi) hst.symm (.inr ⟨rfl, by show (j : Int) < ((j + 1 : Nat) : Int); omega⟩)
            simp [-sApp_eq, g, gb, s31, s7, q0, q1, q2, hW, hi, e]
            exact Nx.mk (hZ _ _ ⟨_, _, _, _, w2, rfl, rfl⟩)
          · simp [-sApp_eq, g, gb, s31, s7, q0, q1, q2, hW, c]
            exact Nx.mk (hZ _ _ ⟨B, _, _, _, nxt, rfl, rfl⟩))
    subst e1 e2
    rw [e]
    exact Nx.mk (hZ _ _ ⟨B2, at2, _, _, _, w2.next (.inr (Or.inl (show (k : Int) < ((k + 1 : Nat) : Int) by omega))), rfl, rfl⟩)
  · rintro ρ μ' ⟨B, at', v5, v6, v7, w, rfl, rfl⟩
    have gst : (μ ++ stB μ.length B)[μ.length]? = some (.dv (kvF μ.length 0 B)) := by unfold stB; simp
    have R := w.rh h40 b60 gn w.nn (fun g hg => hg)
    obtain ⟨M, hM, M0⟩ : ∃ M : Int, (if (nm.length : Int) > 1 then (nm.length : Int) else 1) = M ∧ 0 < M := ⟨_, rfl, by split <;> omega⟩
    have t0 := Int.emod_nonneg y (show M ≠ 0 by omega)
    obtain ⟨t, ht⟩ : ∃ t : Nat, y % M = (t : Int) := ⟨(y % M).toNat, by omega⟩
    have sl := sl_from (xs := nm.map D.str) (a := (t : Int)) (by omega)
    rw [Int.toNat_natCast] at sl
    simp [gst]
    rw [thaw_st]
    have M1 : (1 : Int) < nm.length ∨ ¬ (1 : Int) < nm.length := by omega
    have ll : nm.length - t + nm.length ≤ maxN := by simp only [maxN]; omega
    have l24 : (nm.drop t ++ nm).length ≤ 24 := by rw [List.length_append, List.length_drop]; omega
    have l25 : (nm.drop t ++ nm).length ≤ maxN := by simp only [maxN]; omega
    have gi : ∀ x, gIn (.str x) (.dk (B.map kH)) = some (.bl (decide (x ∈ nmsH B))) := fun x => gIn_held B x
    have gd : ∀ x, decide (x ∈ nmsH B) = true → gDGet (.dk (B.map kH)) (.str x) = some (dSp ((getH B x).getD [])) := fun x hx => by
      have : x ∈ nmsH B := of_decide_eq_true hx
      cases e : getH B x with
      | none => exact absurd this (getH_none.mp e)
      | some ps => exact gDGet_held e
    have fm : ((nm.drop t ++ nm).filter fun x => decide (x ∈ nmsH B)).length ≤ maxN := Nat.le_trans (List.length_filter_le _ _) l25
    have so := seqH_ok (B := B) ((nm.drop t ++ nm).filter fun x => decide (x ∈ nmsH B)) [] (fun x hx => of_decide_eq_true (List.mem_filter.mp hx).2) List.nodup_nil (fun g hg => by cases hg)
    have sf := seqH_fold B ((nm.drop t ++ nm).filter fun x => decide (x ∈ nmsH B)) []
    have pf := pairsOf_map (fun x => dSp ((getH B x).getD [])) ((nm.drop t ++ nm).filter fun x => decide (x ∈ nmsH B))
    have dr : (nm.map D.str).drop t ++ nm.map D.str = (nm.drop t ++ nm).map D.str := by rw [List.map_append, List.map_drop]
    simp [hM, M0, ht, sl, ll, ← List.map_drop]
    rw [← List.map_append]
    generalize nm.drop t ++ nm = TN at *
    rw [lc_end_pure D.str (fun x => decide (x ∈ nmsH B)) (fun x => D.tup [.str x, dSp ((getH B x).getD [])]) TN (by intro x _; simp [gi]) (by intro x _ hx; simp [gd x hx])]
    generalize TN.filter (fun x => decide (x ∈ nmsH B)) = FN at *
    have pd : ∀ μ1 : Mu, fDictPD μ1 (some (.lst (FN.map fun x => D.tup [.str x, dSp ((getH B x).getD [])]))) = .ok (.dk ((seqH B FN []).map kH)) μ1 := fun μ1 => by
      unfold fDictPD
      dsimp only
      rw [pf]
      dsimp only
      rw [List.length_map, if_pos fm]
      congr 2
    simp [pd]
    refine hQ _ ⟨seqH B FN [], .dk (B.map kH) :: B.map cFz, w.rh h40 b60 gn so.1 so.2.1, fun x hx => ?_, fun c hc n => ?_, by simp⟩
    · obtain ⟨g, hg, rfl⟩ := List.mem_map.mp hx
      exact w.nm _ (List.mem_map_of_mem (so.2.1 g hg))
    · rcases List.mem_cons.mp hc with q | q
      · rw [q]; rfl
      · obtain ⟨g, _, rfl⟩ := List.mem_map.mp q
        rfl
end LW

namespace LW
open PySem L2 SP
def okS (hs : List (List Bool)) (r a : Int) (k : Nat) : Prop := ∀ j : Nat, j < k → seatB hs r (a + (j : Int)) = true
def okT (t : Tk) (x : Str) (r a : Int) (k : Nat) : Prop := ∀ j : Nat, j < k → ∀ y, whoT t (r, a + (j : Int)) = some y → y = x
theorem not_okS {hs : List (List Bool)} {r a : Int} {k : Nat} (h : ¬ okS hs r a k) : ∃ j : Nat, j < k ∧ seatB hs r (a + (j : Int)) = false := by
  apply Decidable.byContradiction
  intro z
  refine h fun j hj => ?_
  cases e : seatB hs r (a + (j : Int)) with
  | true => rfl
  | false => exact absurd ⟨j, hj, e⟩ z
theorem not_okT {t : Tk} {x : Str} {r a : Int} {k : Nat} (h : ¬ okT t x r a k) : ∃ j : Nat, j < k ∧ ∃ y, whoT t (r, a + (j : Int)) = some y ∧ y ≠ x := by
  apply Decidable.byContradiction
  intro z
  refine h fun j hj y hy => ?_
  apply Decidable.byContradiction
  intro ne
  exact z ⟨j, hj, y, hy, ne⟩
theorem slice_ok {hs : List (List Bool)} {r : Int} {a k : Nat} (hr : 0 ≤ r) (hl : a + k ≤ (hs.getD r.toNat []).length) : okS hs r (a : Int) k ↔ ¬ (((hs.getD r.toNat []).take (a + k)).drop a).count true < k := by
  have len : (((hs.getD r.toNat []).take (a + k)).drop a).length = k := by rw [List.length_drop, List.length_take]; omega
  have seat := fun (j : Nat) => seat_in (hs := hs) (r := r) (i := ((a + j : Nat) : Int)) hr (by omega)
  simp only [Int.toNat_natCast] at seat
  generalize hs.getD r.toNat [] = bs at *
  have el : ∀ j, j < k → ((bs.take (a + k)).drop a)[j]? = some (bs.getD (a + j) false) := fun j hj => by
    rw [List.getElem?_drop, List.getElem?_take_of_lt (by omega), List.getD_eq_getElem?_getD, List.getElem?_eq_getElem (by omega)]; rfl
  have cl := List.count_le_length (a := true) (l := (bs.take (a + k)).drop a)
  constructor
  · intro ok
    have : ((bs.take (a + k)).drop a).count true = ((bs.take (a + k)).drop a).length := by
      rw [List.count_eq_length]
      intro b hb
      obtain ⟨j, hj⟩ := List.getElem?_of_mem hb
      have jk : j < k := by
        have := (List.getElem?_eq_some_iff.mp hj).1
        omega
      rw [el j jk] at hj
      have e := ok j jk
      rw [show (a : Int) + (j : Int) = ((a + j : Nat) : Int) by omega, ← seat j] at e
      rw [← Option.some.inj hj, e]
    omega
  · intro nc j hj
    have e : ((bs.take (a + k)).drop a).count true = ((bs.take (a + k)).drop a).length := by omega
    rw [List.count_eq_length] at e
    rw [show (a : Int) + (j : Int) = ((a + j : Nat) : Int) by omega, ← seat j]
    exact (e _ (List.mem_of_getElem? (el j hj))).symm
theorem shifted_noseat {n m : Nat} {hs : List (List Bool)} {h : Held} {past : List Held} {μ : Mu} {x : Str} {ps : List Pl} {r a : Int} (P : PL μ n m hs h past) (w : VH hs h) (hx : getH h x = some ps) (h1 : ¬ okS hs r a ps.length) : F_law_shifted [.rf n, .im (.str x), .im (.int r), .im (.int a)] μ = .ok (.im (.str "no seat")) μ := by
  refine dFn_im0 P.lo ?_
  have ob := P.ob
  have e := shift_noseat P hx (w.group_len (getH_of hx)) (not_okS h1)
  unfold fb_law_shifted
  simp [ob, obP, e]
theorem shifted_taken {n m : Nat} {hs : List (List Bool)} {h : Held} {past : List Held} {μ : Mu} {x : Str} {ps : List Pl} {r a : Int} (P : PL μ n m hs h past) (w : VH hs h) (hx : getH h x = some ps) (h1 : okS hs r a ps.length) (h2 : ¬ okT (takL h) x r a ps.length) : F_law_shifted [.rf n, .im (.str x), .im (.int r), .im (.int a)] μ = .ok (.im (.str "taken")) μ := by
  refine dFn_im0 P.lo ?_
  have ob := P.ob
  have e := shift_taken P w hx (w.group_len (getH_of hx)) h1 (not_okT h2)
  unfold fb_law_shifted
  simp [ob, obP, e]
theorem shifted_ok {n m : Nat} {hs : List (List Bool)} {h : Held} {past : List Held} {μ : Mu} {x : Str} {ps : List Pl} {r a : Int} (P : PL μ n m hs h past) (w : VH hs h) (hpl : past.length < 1000) (hl : h.length < 100000) (hx : getH h x = some ps) (h1 : okS hs r a ps.length) (h2 : okT (takL h) x r a ps.length) : F_law_shifted [.rf n, .im (.str x), .im (.int r), .im (.int a)] μ = .ok (.im (dSp (rowOf r a ps.length))) (upP μ n m hs (past ++ [h]) (putH h x (rowOf r a ps.length))) := by
  refine dFn_im2 (r := []) (upP_len ..) (P.up _ _).lo ?_
  have ob := P.ob
  have e := shift_ok P w hpl hl hx (w.group_len (getH_of hx)) h1 h2
  unfold fb_law_shifted
  simp [ob, obP, e]
theorem due_is {hs : List (List Bool)} {h : Held} {μ : Mu} {u : Sv} {x : Str} {ps : List Pl} {r a : Int} (lo : Low μ) (w : VH hs h) (hd : LK μ u h) (hx : getH h x = some ps) (hne : ps ≠ []) :
    (¬ okS hs r a ps.length ∧ F_law_due [.im (dHall hs), u, .im (.str x), .im (.int r), .im (.int a)] μ = .ok (.im (.str "no seat")) μ) ∨
    (okS hs r a ps.length ∧ ¬ okT (takL h) x r a ps.length ∧ F_law_due [.im (dHall hs), u, .im (.str x), .im (.int r), .im (.int a)] μ = .ok (.im (.str "taken")) μ) ∨
    (okS hs r a ps.length ∧ okT (takL h) x r a ps.length ∧ F_law_due [.im (dHall hs), u, .im (.str x), .im (.int r), .im (.int a)] μ = .ok (.im (dSp (rowOf r a ps.length))) μ) := by
  have e1 := law_taken' hd lo w
  have ob0 := hd.at
  have gl : ps.length ≤ 2400 := w.group_len (getH_of hx)
  have kp : 0 < ps.length := List.length_pos_iff.mpr hne
  have gd : gDGet (.dk (h.map kH)) (.str x) = some (.lst (ps.map dPl)) := gDGet_held hx
  have ik : in62 (ps.length : Int) = true := in62_small (by omega) (by omega)
  have ik2 : ps.length ≤ maxN := by simp only [maxN]; omega
  have due : ∀ (ρ : Rho) (μ1 : Mu), ρ[3]? = some (some (.im (.int r))) → ρ[4]? = some (some (.im (.int a))) → ρ.length = 9 → lcEnd (lcL 7 dYes (dTup (dACons (dVar 3) (dACons (dOp2 (p2 gAdd) (dVar 4) (dVar 7)) dANil))) (rangeD 0 ps.length) ρ μ1) = .ok (.lst ((rowOf r a ps.length).map dPl)) μ1 := fun ρ μ1 q3 q4 ql => by
    rw [lc_end_range (g := fun j => dPl (r, a + (j : Int))) (by
      intro j hj
      have s3 : (ρ.set 7 (some (Sv.im (.int (0 + (j : Int))))))[3]? = some (some (.im (.int r))) := by rw [List.getElem?_set_ne (by omega)]; exact q3
      have s4 : (ρ.set 7 (some (Sv.im (.int (0 + (j : Int))))))[4]? = some (some (.im (.int a))) := by rw [List.getElem?_set_ne (by omega)]; exact q4
      have s7 : (ρ.set 7 (some (Sv.im (.int (0 + (j : Int))))))[7]? = some (some (.im (.int (0 + (j : Int))))) := by rw [List.getElem?_set_self (by omega)]
      generalize ρ.set 7 (some (Sv.im (.int (0 + (j : Int))))) = ρ2 at *
      simp [dPl, s3, s4, s7])]
    simp [rowOf, Function.comp_def]
  have lr : (rowOf r a ps.length).length = ps.length := rowOf_len _ _ _
  by_cases r0 : 0 ≤ r
  · by_cases r1 : r < hs.length
    · have g := hall_get r0 r1
      by_cases a0 : 0 ≤ a
      · obtain ⟨A, rfl⟩ := Int.eq_ofNat_of_zero_le a0
        by_cases a1 : A + ps.length ≤ (hs.getD r.toNat []).length
        · have so := slice_ok (hs := hs) (r := r) (a := A) (k := ps.length) r0 a1
          have rc := row_cut (hs.getD r.toNat []) A (A + ps.length)
          rw [show ((A + ps.length : Nat) : Int) = (A : Int) + (ps.length : Int) by omega] at rc
          generalize hs.getD r.toNat [] = bs at *
          have a2 : ¬ (bs.length : Int) < (A : Int) + (ps.length : Int) := by omega
          have rn : ¬ r < 0 := by omega
          have an : ¬ (A : Int) < 0 := by omega
          have r2 : ¬ (hs.length : Int) ≤ r := by omega
          by_cases c : ((bs.take (A + ps.length)).drop A).count true < ps.length
          · left
            refine ⟨fun ok => so.mp ok c, dFn_im0 lo ?_⟩
            have c' : ((((bs.take (A + ps.length)).drop A).count true : Nat) : Int) < (ps.length : Int) := by omega
            unfold fb_law_due
            simp [e1, ob0, gd, ik, ik2]
            rw [due _ _ rfl rfl rfl]
            simp [r0, r1, r2, a2, g, rc, lr, c]
          · have ok := so.mpr c
            have eg : ∀ (p : Pl), dGet2 (dVar 5) (dVar 8) (dVar 2) [some (.im (dHall hs)), some u, some (.im (.str x)), some (.im (.int r)), some (.im (.int ((A : Nat) : Int))), some (.im (.dt ((takL h).map kT))), some (.im (.lst ((rowOf r (A : Int) ps.length).map dPl))), none, some (.im (dPl p))] μ = .ok (.im (.str ((whoT (takL h) p).getD x))) μ := fun p => by
              rw [dGet2_im (d := .dt ((takL h).map kT)) (k := dPl p) (e := .str x) (o := (whoT (takL h) p).map D.str) (by simp) rfl (by simp) (by simp) (dGet_tak (takL h) p.1 p.2)]
              cases whoT (takL h) p <;> rfl
            have body : ∀ (b : Bool), (b = true ↔ okT (takL h) x r A ps.length) → fb_law_due ([Sv.im (dHall hs), u, .im (.str x), .im (.int r), .im (.int ((A : Nat) : Int))].map some ++ List.replicate 4 none) μ = .rt (.im (if b = true then .lst ((rowOf r A ps.length).map dPl) else .str "taken")) μ := fun b hb => by
              have fl : ((rowOf r A ps.length).filter fun p => !decide ((whoT (takL h) p).getD x = x)) = [] ↔ okT (takL h) x r A ps.length := by
                rw [List.filter_eq_nil_iff]
                constructor
                · intro q j hj y hy
                  have := q (r, (A : Int) + (j : Int)) (mem_rowOf.mpr ⟨rfl, by show (A : Int) ≤ (A : Int) + (j : Int); omega, by show (A : Int) + (j : Int) < (A : Int) + ps.length; omega⟩)
                  rw [hy] at this
                  simpa using this
                · intro q p hp
                  obtain ⟨j, hj⟩ := List.getElem?_of_mem hp
                  obtain ⟨jk, rfl⟩ := rowOf_get hj
                  cases hw : whoT (takL h) (r, (A : Int) + (j : Int)) with
                  | none => simp
                  | some y => simp [q j jk y hw]
              have ll : (rowOf r A ps.length).length ≤ maxN := by rw [lr]; exact ik2
              unfold fb_law_due
              simp [e1, ob0, gd, ik, ik2]
              rw [due _ _ rfl rfl rfl]
              simp [r0, r1, r2, a2, g, rc, lr, c, ll]
              rw [lc_end_pure dPl (fun p => !decide ((whoT (takL h) p).getD x = x)) dPl (rowOf r A ps.length) (by
                intro p _
                simp [eg]) (by intro p _ _; simp)]
              cases b with
              | true => simp [fl.mpr (hb.mp rfl), rn, an, ik2]
              | false =>
                have nn : ((rowOf r A ps.length).filter fun p => !decide ((whoT (takL h) p).getD x = x)) ≠ [] := fun z => by
                  have := hb.mpr (fl.mp z)
                  cases this
                generalize ((rowOf r A ps.length).filter fun p => !decide ((whoT (takL h) p).getD x = x)) = FN at nn
                cases FN with
                | nil => exact absurd rfl nn
                | cons p q =>
                  have : (0 : Int) < (q.length : Int) + 1 := by omega
                  simp [this, rn, an, ik2]
            right
            by_cases t : okT (takL h) x r A ps.length
            · exact .inr ⟨ok, t, dFn_im0 lo (body true (by simp [t]))⟩
            · exact .inl ⟨ok, t, dFn_im0 lo (body false (by simp [t]))⟩
        · left
          have r2 : ¬ (hs.length : Int) ≤ r := by omega
          refine ⟨fun ok => ?_, dFn_im0 lo ?_⟩
          · have := seat_bound w.b60 (ok (ps.length - 1) (by omega))
            omega
          · generalize hs.getD r.toNat [] = bs at *
            have a2 : (bs.length : Int) < (A : Int) + (ps.length : Int) := by omega
            unfold fb_law_due
            simp [e1, ob0, gd, ik, ik2]
            rw [due _ _ rfl rfl rfl]
            simp [r0, r1, r2, a2, g, lr]
      · left
        have r2 : ¬ (hs.length : Int) ≤ r := by omega
        refine ⟨fun ok => ?_, dFn_im0 lo ?_⟩
        · have := seat_bound w.b60 (ok 0 kp)
          omega
        · unfold fb_law_due
          simp [e1, ob0, gd, ik, ik2]
          rw [due _ _ rfl rfl rfl]
          simp [r0, r1, r2, a0, lr]
    · left
      refine ⟨fun ok => ?_, dFn_im0 lo ?_⟩
      · have := seat_bound w.b60 (ok 0 kp)
        omega
      · have r2 : (hs.length : Int) ≤ r := by omega
        unfold fb_law_due
        simp [e1, ob0, gd, ik, ik2]
        rw [due _ _ rfl rfl rfl]
        simp [r0, r2, lr]
  · left
    refine ⟨fun ok => ?_, dFn_im0 lo ?_⟩
    · have := seat_bound w.b60 (ok 0 kp)
      omega
    · unfold fb_law_due
      simp [e1, ob0, gd, ik, ik2]
      rw [due _ _ rfl rfl rfl]
      simp [r0, lr]
theorem seqH_self {h : Held} (hn : (nmsH h).Nodup) : ∀ (l acc : Held), (∀ g ∈ l, g ∈ h) → (nmsH (acc ++ l)).Nodup → seqH h (nmsH l) acc = acc ++ l
  | [], acc, _, _ => by simp [seqH, nmsH]
  | a :: r, acc, hl, hd => by
    have ga := getH_mem hn (hl a List.mem_cons_self)
    have na : a.1 ∉ nmsH acc := fun z => by
      rw [nms_app] at hd
      exact (List.nodup_append.mp hd).2.2 a.1 z a.1 (by simp [nmsH]) rfl
    have e : putH acc a.1 ((getH h a.1).getD []) = acc ++ [a] := by
      rw [ga, putH_new _ na]; rfl
    have ih := seqH_self hn r (acc ++ [a]) (fun g hg => hl g (List.mem_cons_of_mem _ hg)) (by rw [List.append_assoc]; exact hd)
    have : seqH h (nmsH (a :: r)) acc = seqH h (nmsH r) (putH acc a.1 ((getH h a.1).getD [])) := rfl
    rw [this, e, ih, List.append_assoc]
    rfl
theorem nms_del (h : Held) (x : Str) : (nmsH h).filter (fun y => !decide (y = x)) = nmsH (delH h x) := by
  unfold nmsH delH
  rw [List.filter_map]
  congr 1
  refine List.filter_congr fun g _ => ?_
  simp [Function.comp]
theorem law_leaves {n m : Nat} {hs : List (List Bool)} {h : Held} {past : List Held} {μ : Mu} {u : Sv} (P : PL μ n m hs h past) (v : VH hs h) (hpl : past.length < 1000) (hl : h.length < 100000) (hd : ∀ past' h', LK (upP μ n m hs past' h') u h) (h1 : 1 ≤ hs.length) (h0 : h ≠ []) (z : Int) : F_law_leaves [.rf n, .im (dHall hs), u, .im (.int z)] μ = .ok (.im (.bl true)) μ := by
  refine dFn_im0 P.lo ?_
  have hd0 : LK μ u h := by
    have := hd past h
    rwa [upP_self P] at this
  have lp : 0 < h.length := List.length_pos_iff.mpr h0
  have nl : (nmsH h).length = h.length := by simp [nmsH]
  have b1 := Int.emod_nonneg z (show (h.length : Int) ≠ 0 by omega)
  have b2 := Int.emod_lt_of_pos z (show 0 < (h.length : Int) by omega)
  obtain ⟨j, hj⟩ : ∃ j : Nat, z % (h.length : Int) = (j : Int) := ⟨(z % (h.length : Int)).toNat, by omega⟩
  have jl : j < h.length := by omega
  have hgm : h[j] ∈ h := List.getElem_mem jl
  have hx := getH_mem v.nn hgm
  have ix : atI ((nmsH h).map D.str) (j : Int) = some (.str (h[j]).1) := by
    rw [atI_int, List.getElem?_map]
    unfold nmsH
    rw [List.getElem?_map, List.getElem?_eq_getElem jl]; rfl
  generalize h[j] = y at *
  have e1 := leave_ok P v hpl hl hx
  have P1 := P.up (past ++ [h]) (delH h y.1)
  have vs := v.sub (delH_sub h y.1)
  have s1 := law_stands P1 vs (LK.im _ _) h1
  have e2 := back_ok P1
  rw [upP_up P.ne, upP_self P] at e2
  have s2 := law_stands P v hd0 h1
  have hd1 := (hd (past ++ [h]) (delH h y.1)).at
  have ob0 := hd0.at
  have ob := P.ob
  have ob1 := P1.ob
  have fl : ∀ μ1 : Mu, fListD μ1 (some (.dk (h.map kH))) = .ok (.lst ((nmsH h).map D.str)) μ1 := fun μ1 => fListD_held μ1 h
  have gd : gDGet (.dk (h.map kH)) (.str y.1) = some (dSp y.2) := gDGet_held hx
  have gds : ∀ x ∈ nmsH h, gDGet (.dk (h.map kH)) (.str x) = some (dSp ((getH h x).getD [])) := fun x hx => by
    cases e : getH h x with
    | none => exact absurd hx (getH_none.mp e)
    | some ps => exact gDGet_held e
  have q3 := gNe_self (sp_eqok 7 y.2)
  have gl : gIsi "list" (dSp y.2) = some (.bl true) := rfl
  have ml : (nmsH h).length ≤ maxN := by rw [nl]; simp only [maxN]; omega
  have ml2 : h.length ≤ maxN := by simp only [maxN]; omega
  have pf := pairsOf_map (fun x => dSp ((getH h x).getD [])) (nmsH (delH h y.1))
  have sf := seqH_fold h (nmsH (delH h y.1)) []
  rw [seqH_self v.nn (delH h y.1) [] (fun g hg => (delH_sub h y.1).subset hg) (by rw [List.nil_append]; exact v.nn.sublist ((delH_sub h y.1).map _)), List.nil_append] at sf
  have fm : (nmsH (delH h y.1)).length ≤ maxN := by
    have := (delH_sub h y.1).length_le
    have e : (nmsH (delH h y.1)).length = (delH h y.1).length := by simp [nmsH]
    rw [e]; omega
  have pd : ∀ μ1 : Mu, fDictPD μ1 (some (.lst ((nmsH (delH h y.1)).map fun x => D.tup [.str x, dSp ((getH h x).getD [])]))) = .ok (.dk ((delH h y.1).map kH)) μ1 := fun μ1 => by
    unfold fDictPD
    dsimp only
    rw [pf]
    dsimp only
    rw [List.length_map, if_pos fm]
    congr 2
  have nd := nms_del h y.1
  have n0 : (0 : Int) < (h.length : Int) := by omega
  have glen : ∀ l : List (Key × D), l.length = h.length → gLen (.dk l) = some (.int (h.length : Int)) := fun l e => by
    show some (D.int (l.length : Int)) = _
    rw [e]
  have gln := glen (h.map kH) (by simp)
  generalize upP μ n m hs (past ++ [h]) (delH h y.1) = U at *
  unfold dHeld at s1
  unfold obP at ob ob1
  unfold fb_law_leaves
  simp [ob0, fl, n0, lp, hj, ix, ob, e1, hd1, nl, ml2]
  rw [lc_end_pure D.str (fun x => !decide (x = y.1)) (fun x => D.tup [.str x, dSp ((getH h x).getD [])]) (nmsH h) (by intro x _; simp) (by intro x hx _; simp [hd1, gds x hx])]
  rw [nd]
  simp [pd, gl, hd1, gd, q3, s1, ob1, e2, s2]
end LW

namespace LW
open PySem L2 SP
def fb_rest2 : EvS := (sSeq (sAsg 9 (dCall F_law_due (dACons (dVar 1) (dACons (dVar 3) (dACons (dVar 5) (dACons (dVar 6) (dACons (dVar 7) dANil))))))) (sSeq (sAsg 10 (dI (dOpF fDict (dVar 3)))) (sSeq (sAsg 11 (dMeth "seats" F_Plan_seats (dVar 4) (dACons (dVar 5) dANil))) (sSeq (sAsg 12 (dCall F_law_shifted (dACons (dVar 4) (dACons (dVar 5) (dACons (dVar 6) (dACons (dVar 7) dANil)))))) (sSeq (sIf (dTest (dOp2 (p2 gNe) (dVar 11) (dOp2 (p2 gDGet) (dVar 10) (dVar 5)))) (sRet (dC (.bl false))) sNext) (sSeq (sIf (dOrT (dTest (dOp2 (p2 gNe) (dOp1 (p1 (gIsi "list")) (dVar 12)) (dOp1 (p1 (gIsi "list")) (dVar 9)))) (dTest (dOp2 (p2 gNe) (dVar 12) (dVar 9)))) (sRet (dC (.bl false))) sNext) (sSeq (sIf (dTest (dOp1 (p1 (gIsi "list")) (dVar 9))) (sDPut (dVar 3) (dVar 5) (dVar 9)) sNext) (sSeq (sIf (dNotT (dTest (dCall F_law_stands (dACons (dVar 4) (dACons (dVar 1) (dACons (dVar 3) dANil)))))) (sRet (dC (.bl false))) sNext) (sSeq (sIf (dNotT (dTest (dCall F_law_leaves (dACons (dVar 4) (dACons (dVar 1) (dACons (dVar 3) (dACons (dOp2 (p2 gDiv) (dCall F_law_cell_at (dACons (dVar 0) (dACons (dC (.int 3)) dANil))) (dC (.int 4))) dANil))))))) (sRet (dC (.bl false))) sNext) (sSeq (sIf (dTest (dOp1 (p1 (gIsi "list")) (dVar 9))) (sRet (dAnd (dOp2 (p2 gIsN) (dMeth "back" F_Plan_back (dVar 4) dANil) (dC .non)) (dAnd (dCall F_law_stands (dACons (dVar 4) (dACons (dVar 1) (dACons (dVar 10) dANil)))) (dCall F_law_nothing (dACons (dVar 4) dANil))))) sNext) (sRet (dCall F_law_nothing (dACons (dVar 4) dANil)))))))))))))
def fb_rest : EvS := (sSeq (sIf (dTest (dOp2 (p2 gEq) (dOp1 (p1 gLen) (dVar 3)) (dC (.int 0)))) (sRet (dAnd (dOp2 (p2 gEq) (dMeth "groups" F_Plan_groups (dVar 4) dANil) (dI (dLst dANil))) (dCall F_law_nothing (dACons (dVar 4) dANil)))) sNext) (sSeq (sAsg 5 (dOp2 (p2 gIx) (dI (dOpF fList (dVar 3))) (dOp2 (p2 gMod) (dCall F_law_cell_at (dACons (dVar 0) (dACons (dC (.int 3)) dANil))) (dOp1 (p1 gLen) (dVar 3))))) (sSeq (sAsg 6 (dOp2 (p2 gSub) (dOp2 (p2 gMod) (dCall F_law_cell_at (dACons (dVar 0) (dACons (dC (.int 4)) dANil))) (dOp2 (p2 gAdd) (dOp1 (p1 gLen) (dVar 1)) (dC (.int 2)))) (dC (.int 1)))) (sSeq (sAsg 7 (dOp2 (p2 gSub) (dOp2 (p2 gMod) (dCall F_law_cell_at (dACons (dVar 0) (dACons (dC (.int 5)) dANil))) (dC (.int 64))) (dC (.int 2)))) (sSeq (sIf (dTest (dOp2 (p2 gGt) (dOp2 (p2 gMod) (dOp2 (p2 gDiv) (dCall F_law_cell_at (dACons (dVar 0) (dACons (dC (.int 4)) dANil))) (dC (.int 50))) (dC (.int 3))) (dC (.int 0)))) (sSeq (sAsg 8 (dOp2 (p2 gIx) (dI (dOpF fVals (dVar 3))) (dOp2 (p2 gMod) (dOp2 (p2 gDiv) (dCall F_law_cell_at (dACons (dVar 0) (dACons (dC (.int 4)) dANil))) (dC (.int 150))) (dOp1 (p1 gLen) (dVar 3))))) (sSeq (sAsg 6 (dOp2 (p2 gIx) (dOp2 (p2 gIx) (dVar 8) (dOp2 (p2 gMod) (dCall F_law_cell_at (dACons (dVar 0) (dACons (dC (.int 5)) dANil))) (dOp1 (p1 gLen) (dVar 8)))) (dC (.int 0)))) (sAsg 7 (dOp2 (p2 gSub) (dOp2 (p2 gAdd) (dOp2 (p2 gIx) (dOp2 (p2 gIx) (dVar 8) (dOp2 (p2 gMod) (dCall F_law_cell_at (dACons (dVar 0) (dACons (dC (.int 5)) dANil))) (dOp1 (p1 gLen) (dVar 8)))) (dC (.int 1))) (dOp2 (p2 gMod) (dOp2 (p2 gDiv) (dCall F_law_cell_at (dACons (dVar 0) (dACons (dC (.int 5)) dANil))) (dC (.int 300))) (dC (.int 5)))) (dC (.int 2)))))) sNext) fb_rest2)))))
theorem rest2_true (ns : List Int) {μ : Mu} {n m d : Nat} {hs : List (List Bool)} {h : Held} (P : PL μ n m hs h []) (R : RH hs h) (hd : μ[d]? = some (.dk (h.map kH))) (dn : d ≠ n) (dm : d ≠ m) (h1 : 1 ≤ hs.length) {g : Str × List Pl} (hg : g ∈ h) (r a : Int) (v2 v8 : Option Sv) :
    ∃ z, fb_rest2 [some (.im (.scr ns)), some (.im (dHall hs)), v2, some (.rf d), some (.rf n), some (.im (.str g.1)), some (.im (.int r)), some (.im (.int a)), v8, none, none, none, none, none] μ = .rt (.im (.bl true)) z := by
  have v := R.v
  have few := v.few R.ne
  have hx := getH_mem v.nn hg
  have hne : g.2 ≠ [] := R.ne g hg
  have c3 := cell_at ns 3
  simp at c3
  have ob := P.ob
  have lk := LK.rf hd
  have es := plan_seats P hx
  have gd : gDGet (.dk (h.map kH)) (.str g.1) = some (dSp g.2) := gDGet_held hx
  have fd : ∀ μ1, fDictD μ1 (some (.dk (h.map kH))) = .ok (.dk (h.map kH)) μ1 := fun _ => rfl
  have q3 := gNe_self (sp_eqok 7 g.2)
  have lks : ∀ past' h', LK (upP μ n m hs past' h') (.rf d) h := fun past' h' => LK.rf (by rw [upP_get dn dm]; exact hd)
  have h0 : h ≠ [] := fun z => by rw [z] at hg; cases hg
  have st := law_stands P v lk h1
  have lv := fun z => law_leaves P v (by simp) (by omega) lks h1 h0 z
  have no := law_nothing P
  rcases due_is (r := r) (a := a) P.lo v lk hx hne with ⟨o1, e⟩ | ⟨o1, o2, e⟩ | ⟨o1, o2, e⟩
  · have es2 := shifted_noseat P v hx o1
    have c3' := c3 μ P.lo
    unfold obP at ob
    unfold fb_rest2
    have g1 : gIsi "list" (.str "no seat") = some (.bl false) := rfl
    simp [e, hd, fd, ob, es, gd, q3, es2, g1, st, c3', lv, no]
  · have es2 := shifted_taken P v hx o1 o2
    have c3' := c3 μ P.lo
    unfold obP at ob
    unfold fb_rest2
    have g1 : gIsi "list" (.str "taken") = some (.bl false) := rfl
    simp [e, hd, fd, ob, es, gd, q3, es2, g1, st, c3', lv, no]
  · have es2 := shifted_ok P v (by simp) (by omega) hx o1 o2
    have vn := v.shift hx (rise_nodup (rowOf_rise r a g.2.length)) (fun p hp => by
      obtain ⟨j, hj⟩ := List.getElem?_of_mem hp
      obtain ⟨jk, rfl⟩ := rowOf_get hj
      exact o1 j jk) (fun p hp y hy => by
      obtain ⟨j, hj⟩ := List.getElem?_of_mem hp
      obtain ⟨jk, rfl⟩ := rowOf_get hj
      exact o2 j jk y hy)
    have lh : (putH h g.1 (rowOf r a g.2.length)).length ≤ 2401 := by
      have := putH_len h g.1 (rowOf r a g.2.length)
      omega
    have h0' : putH h g.1 (rowOf r a g.2.length) ≠ [] := by
      have hm : g.1 ∈ nmsH h := List.mem_map_of_mem hg
      have := nms_put h g.1 (rowOf r a g.2.length)
      rw [if_pos hm] at this
      intro z
      rw [z] at this
      rw [← this] at hm
      cases hm
    generalize rowOf r a g.2.length = new at *
    have S0 : SL μ n m d hs h [] := ⟨P, hd, dn, dm⟩
    have S2 := S0.up [h] (putH h g.1 new)
    have P2 := S2.P
    have hdU : (upP μ n m hs ([] ++ [h]) (putH h g.1 new))[d]? = some (.dk (h.map kH)) := by rw [upP_get dn dm]; exact hd
    have pc := fun ρ => putCell_held (h := h) (n := d) (x := g.1) (ps := new) (ρ := ρ) (μ := upP μ n m hs ([] ++ [h]) (putH h g.1 new)) hdU (by simp only [maxN]; omega)
    have obU := (P.up ([] ++ [h]) (putH h g.1 new)).ob
    have es3 : F_Plan_seats [.rf n, .im (.str g.1)] μ = .ok (.im (dSp g.2)) μ := es
    have q4 := gNe_self (sp_eqok 7 new)
    have g1 : gIsi "list" (dSp new) = some (.bl true) := rfl
    have pc : ∀ ρ, putCell d (.str g.1) (dSp new) ρ (upP μ n m hs ([] ++ [h]) (putH h g.1 new)) = .nx ρ (upQ μ n m d hs [h] (putH h g.1 new)) := pc
    have st2 := law_stands P2 vn (LK.rf S2.hd) h1
    have c3' := c3 _ P2.lo
    have lks2 : ∀ past' h', LK (upP (upQ μ n m d hs [h] (putH h g.1 new)) n m hs past' h') (.rf d) (putH h g.1 new) := fun past' h' => LK.rf (by rw [upP_get dn dm]; exact S2.hd)
    have lv2 := fun z => law_leaves P2 vn (by simp) (by omega) lks2 h1 h0' z
    have bk := back_ok (past := []) P2
    have P3 := P2.up [] h
    have st3 := law_stands P3 v (LK.im _ h) h1
    have no3 := law_nothing P3
    have ob2 := P2.ob
    have ob3 := P3.ob
    have hd2 := S2.hd
    have lU : (upP μ n m hs ([] ++ [h]) (putH h g.1 new)).length = μ.length := upP_len ..
    unfold dHeld at st3
    generalize upP (upQ μ n m d hs [h] (putH h g.1 new)) n m hs [] h = U3 at *
    generalize upQ μ n m d hs [h] (putH h g.1 new) = U2 at *
    generalize upP μ n m hs ([] ++ [h]) (putH h g.1 new) = U1 at *
    unfold obP at ob ob2 ob3 obU
    unfold fb_rest2
    simp [e, hd, fd, ob, es, gd, q3, es2, g1, q4, hdU, pc, st2, c3', lv2, ob2, bk, st3, ob3, no3, hd2, obU]
theorem rest_true (ns : List Int) {μ : Mu} {n m d : Nat} {hs : List (List Bool)} {h : Held} (P : PL μ n m hs h []) (R : RH hs h) (hd : μ[d]? = some (.dk (h.map kH))) (dn : d ≠ n) (dm : d ≠ m) (h1 : 1 ≤ hs.length) (v2 : Option Sv) :
    ∃ z, fb_rest [some (.im (.scr ns)), some (.im (dHall hs)), v2, some (.rf d), some (.rf n), none, none, none, none, none, none, none, none, none] μ = .rt (.im (.bl true)) z := by
  have v := R.v
  have few := v.few R.ne
  have ob := P.ob
  have no := law_nothing P
  have eg := plan_groups P
  have fl : ∀ μ1 : Mu, fListD μ1 (some (.dk (h.map kH))) = .ok (.lst ((nmsH h).map D.str)) μ1 := fun μ1 => fListD_held μ1 h
  unfold obP at ob
  by_cases h0 : h = []
  · subst h0
    have q1 : gEq (.lst []) (.lst []) = some (.bl true) := gEq_self rfl
    unfold fb_rest
    simp only [List.map_nil, nmsH] at hd eg
    simp [hd, ob, eg, q1, no]
  · have lp : 0 < h.length := List.length_pos_iff.mpr h0
    have n0 : (0 : Int) < (h.length : Int) := by omega
    have nl : (nmsH h).length = h.length := by simp [nmsH]
    have c3 := cell_at ns 3 μ P.lo
    have c4 := cell_at ns 4 μ P.lo
    have c5 := cell_at ns 5 μ P.lo
    simp at c3 c4 c5
    have pick : ∀ z : Int, ∃ j : Nat, ∃ g, z % (h.length : Int) = (j : Int) ∧ h[j]? = some g := fun z => by
      have b1 := Int.emod_nonneg z (show (h.length : Int) ≠ 0 by omega)
      have b2 := Int.emod_lt_of_pos z (show 0 < (h.length : Int) by omega)
      have jl : (z % (h.length : Int)).toNat < h.length := by omega
      exact ⟨(z % (h.length : Int)).toNat, h[(z % (h.length : Int)).toNat], by omega, List.getElem?_eq_getElem jl⟩
    obtain ⟨j, g, hj, hgj⟩ := pick (cell ns 3)
    have hg := List.mem_of_getElem? hgj
    have ix : atI ((nmsH h).map D.str) (j : Int) = some (.str g.1) := by
      rw [atI_int, List.getElem?_map]
      unfold nmsH
      rw [List.getElem?_map, hgj]; rfl
    have m2 : (0 : Int) < (hs.length : Int) + 2 := by omega
    have r2 := fun r a v8 => rest2_true ns P R hd dn dm h1 hg r a v2 v8
    refine rz_intro (P := fun o => ∃ z, o = .rt (.im (.bl true)) z) fun Q hQ => ?_
    have r3 : ∀ r a v8, Q (fb_rest2 [some (.im (.scr ns)), some (.im (dHall hs)), v2, some (.rf d), some (.rf n), some (.im (.str g.1)), some (.im (.int r)), some (.im (.int a)), v8, none, none, none, none, none] μ) := fun r a v8 => by
      obtain ⟨z, e⟩ := r2 r a v8
      rw [e]; exact hQ _ ⟨z, rfl⟩
    unfold fb_rest
    by_cases c : 0 < cell ns 4 / 50 % 3
    · obtain ⟨j2, g2, hj2, hgj2⟩ := pick (cell ns 4 / 150)
      have hg2 := List.mem_of_getElem? hgj2
      have ix2 : atI (h.map (fun g => (kH g).2)) (j2 : Int) = some (dSp g2.2) := by
        rw [atI_int, List.getElem?_map, hgj2]; rfl
      have lp2 : 0 < g2.2.length := List.length_pos_iff.mpr (R.ne g2 hg2)
      have b1 := Int.emod_nonneg (cell ns 5) (show (g2.2.length : Int) ≠ 0 by omega)
      have b2 := Int.emod_lt_of_pos (cell ns 5) (show 0 < (g2.2.length : Int) by omega)
      obtain ⟨j3, hj3⟩ : ∃ j3 : Nat, cell ns 5 % (g2.2.length : Int) = (j3 : Int) := ⟨(cell ns 5 % (g2.2.length : Int)).toNat, by omega⟩
      have jl3 : j3 < g2.2.length := by omega
      obtain ⟨p, hp⟩ : ∃ p, g2.2[j3]? = some p := ⟨_, List.getElem?_eq_getElem jl3⟩
      have ix3 : atI (g2.2.map dPl) (j3 : Int) = some (dPl p) := by
        rw [atI_int, List.getElem?_map, hp]; rfl
      simp [hd, fl, h0, n0, lp, lp2, c3, c4, c5, hj, ix, m2, c, hj2, ix2, hj3, ix3, nl, dSp, dPl, Function.comp_def]
      exact r3 _ _ _
    · simp [hd, fl, h0, n0, lp, c3, c4, c5, hj, ix, m2, c, nl]
      exact r3 _ _ _
theorem law_true (ns : List Int) (hn : ns.length ≤ 63) : ∃ μ, F_law [.im (.scr ns)] [] = .ok (.im (.bl true)) μ := by
  have c0 := cell_at ns 0 [] low_nil
  have c1 := cell_at ns 1 [] low_nil
  have c2 := cell_at ns 2 [] low_nil
  simp at c0 c1 c2
  refine ⟨[], ?_⟩
  suffices hh : ∃ r, fb_law ([Sv.im (.scr ns)].map some ++ List.replicate 13 none) [] = .rt (.im (.bl true)) ([] ++ r) by
    obtain ⟨r, e⟩ := hh
    exact dFn_im low_nil e
  have m1 : 1 ≤ 1 + cell ns 0 % 5 ∧ 1 + cell ns 0 % 5 ≤ 5 := by omega
  obtain ⟨M, hM⟩ : ∃ M : Nat, 1 + cell ns 0 % 5 = (M : Int) := ⟨(1 + cell ns 0 % 5).toNat, by omega⟩
  have iM : in62 (M : Int) = true := in62_small (by omega) (by omega)
  have iM2 : M ≤ maxN := by simp only [maxN]; omega
  have i40 : in62 (40 : Int) = true := in62_small (by omega) (by omega)
  have i41 : (40 : Nat) ≤ maxN := by simp only [maxN]; omega
  obtain ⟨hs0, l0, b0, h0⟩ := hall_lc (i := 13) (n := M) (e := dCall F_law_row_by (dACons (dCall F_law_cell_at (dACons (dVar 0) (dACons (dOp2 (p2 gAdd) (dC (.int 6)) (dVar 13)) dANil))) dANil)) (ρ := [some (.im (.scr ns)), none, none, none, none, none, none, none, none, none, none, none, none, none]) (μ := []) (fun k hk => by
    have hc := cell_atI ns (6 + (k : Int)) [] low_nil (by omega)
    obtain ⟨bs, hl, hr⟩ := row_by (cell ns (6 + (k : Int)).toNat) [] low_nil
    exact ⟨bs, hl, by simp [hc, hr]⟩)
  obtain ⟨hs1, l1, b1, h1⟩ := hall_lc (i := 13) (n := 40) (e := dSl (dCall F_law_row_by (dACons (dOp2 (p2 gAdd) (dCall F_law_cell_at (dACons (dVar 0) (dACons (dOp2 (p2 gAdd) (dC (.int 6)) (dOp2 (p2 gMod) (dVar 13) (dC (.int 4)))) dANil))) (dOp2 (p2 gMul) (dC (.int 7919)) (dVar 13))) dANil)) none (some (dC (.int 6)))) (ρ := [some (.im (.scr ns)), some (.im (dHall hs0)), none, none, none, none, none, none, none, none, none, none, none, none]) (μ := []) (fun k hk => by
    have hc := cell_atI ns (6 + (k : Int) % 4) [] low_nil (by omega)
    obtain ⟨bs, hl, hr⟩ := row_by (cell ns (6 + (k : Int) % 4).toNat + 7919 * (k : Int)) [] low_nil
    have s5 : gSl (.str (rowS bs)) none (some 6) = some (.str (rowS (bs.take 6))) := row_part bs 6
    have sm : SP.small64 (k : Int) = true := small64_small (by omega) (by omega)
    exact ⟨bs.take 6, by rw [List.length_take]; omega, by simp [hc, hr, s5, sm]⟩)
  obtain ⟨hs, hhs⟩ : ∃ hs : List (List Bool), hs = if cell ns 0 / 5 % 9 = 1 then hs1 else hs0 := ⟨_, rfl⟩
  have hl1 : 1 ≤ hs.length ∧ hs.length ≤ 40 := by rw [hhs]; split <;> omega
  have hb60 : ∀ b ∈ hs, b.length ≤ 60 := by rw [hhs]; split <;> assumption
  obtain ⟨C, hC⟩ : ∃ C : Nat, 1 + cell ns 1 % 4 = (C : Int) := ⟨(1 + cell ns 1 % 4).toNat, by omega⟩
  have C4 : C ≤ 12 := by omega
  have nb := names_by (cell ns 2) C C4 [] low_nil
  obtain ⟨h, r, RR, hnm, hr, eh⟩ := held_by hs hl1.2 hb60 (namesL (cell ns 2) C) (namesL_good C4) (by rw [namesL_len]; omega) (cell ns 1 / 4) []
  have few := RR.v.few RR.ne
  obtain ⟨μ1, hμ1⟩ : ∃ μ1 : Mu, μ1 = r ++ [.dk (h.map kH)] := ⟨_, rfl⟩
  have lo1 : Low μ1 := by
    rw [hμ1]
    exact Low.flat fun c hc n => by
      rcases List.mem_append.mp hc with q | q
      · exact hr c q n
      · rw [List.mem_singleton.mp q]; rfl
  have hd1 : μ1[r.length]? = some (.dk (h.map kH)) := by rw [hμ1]; simp
  have ll := law_lines hd1 lo1 RR.v (by omega)
  have er := read_lines hs h RR hl1.1 μ1 lo1
  rw [List.nil_append, ← hμ1] at eh
  have eh : F_law_held_by [.im (dHall hs), .im (.lst ((namesL (cell ns 2) C).map D.str)), .im (.int (cell ns 1 / 4))] [] = .ok (.rf r.length) μ1 := by simpa using eh
  have lm : r.length < μ1.length := by rw [hμ1]; simp
  obtain ⟨μ2, hμ2⟩ : ∃ μ2 : Mu, μ2 = μ1 ++ [obP hs h (μ1.length + 1), .lst [], .fz (dHeld h), .dt ((allP h).map kB)] := ⟨_, rfl⟩
  rw [← hμ2] at er
  have P : PL μ2 μ1.length (μ1.length + 1) hs h [] := by
    refine ⟨by rw [hμ2]; simp, by rw [hμ2]; simp, by omega, ?_⟩
    rw [hμ2]
    unfold Low at lo1 ⊢
    rw [List.all_append, Bool.and_eq_true]
    refine ⟨List.all_eq_true.mpr fun x hx => cell_low_mono (by simp) (List.all_eq_true.mp lo1 x hx), ?_⟩
    simp [obP, Cell.low, Sv.low]
  have hd2 : μ2[r.length]? = some (.dk (h.map kH)) := by rw [hμ2]; exact get_app hd1
  obtain ⟨z, rt⟩ := rest_true ns P RR hd2 (by omega) (by omega) hl1.1 (some (.im (.lst ((namesL (cell ns 2) C).map D.str))))
  have ob := P.ob
  have fl : ∀ μ1 : Mu, fListD μ1 (some (dHall hs)) = .ok (.lst (hs.map fun bs => .str (rowS bs))) μ1 := fun _ => rfl
  refine ⟨z, ?_⟩
  rw [List.nil_append, ← rt]
  show sSeq (sAsg 1 (dI (dLcR1 13 (dOp2 (p2 gAdd) (dC (.int 1)) (dOp2 (p2 gMod) (dCall F_law_cell_at (dACons (dVar 0) (dACons (dC (.int 0)) dANil))) (dC (.int 5)))) dYes (dCall F_law_row_by (dACons (dCall F_law_cell_at (dACons (dVar 0) (dACons (dOp2 (p2 gAdd) (dC (.int 6)) (dVar 13)) dANil))) dANil))))) (sSeq (sIf (dTest (dOp2 (p2 gEq) (dOp2 (p2 gMod) (dOp2 (p2 gDiv) (dCall F_law_cell_at (dACons (dVar 0) (dACons (dC (.int 0)) dANil))) (dC (.int 5))) (dC (.int 9))) (dC (.int 1)))) (sAsg 1 (dI (dLcR1 13 (dC (.int 40)) dYes (dSl (dCall F_law_row_by (dACons (dOp2 (p2 gAdd) (dCall F_law_cell_at (dACons (dVar 0) (dACons (dOp2 (p2 gAdd) (dC (.int 6)) (dOp2 (p2 gMod) (dVar 13) (dC (.int 4)))) dANil))) (dOp2 (p2 gMul) (dC (.int 7919)) (dVar 13))) dANil)) none (some (dC (.int 6))))))) sNext) (sSeq (sAsg 2 (dCall F_law_names_by (dACons (dCall F_law_cell_at (dACons (dVar 0) (dACons (dC (.int 2)) dANil))) (dACons (dOp2 (p2 gAdd) (dC (.int 1)) (dOp2 (p2 gMod) (dCall F_law_cell_at (dACons (dVar 0) (dACons (dC (.int 1)) dANil))) (dC (.int 4)))) dANil)))) (sSeq (sAsg 3 (dCall F_law_held_by (dACons (dVar 1) (dACons (dVar 2) (dACons (dOp2 (p2 gDiv) (dCall F_law_cell_at (dACons (dVar 0) (dACons (dC (.int 1)) dANil))) (dC (.int 4))) dANil))))) (sSeq (sAsg 4 (dCall F_read (dACons (dI (dOpF fList (dVar 1))) (dACons (dCall F_law_lines (dACons (dVar 3) dANil)) dANil)))) (sSeq (sIf (dNotT (dTest (dIsiC (dVar 4)))) (sRet (dC (.bl false))) sNext) fb_rest))))) [some (.im (.scr ns)), none, none, none, none, none, none, none, none, none, none, none, none, none] [] = _
  unfold obP at ob
  have c1' := c1
  generalize namesL (cell ns 2) C = nm at *
  have er : F_read [.im (.lst (hs.map fun bs => .str (rowS bs))), .im (.lst (h.map fun g => .str (lineS g)))] μ1 = .ok (.rf μ1.length) μ2 := er
  have main : ∀ X : List (List Bool), X = hs → sSeq (sAsg 2 (dCall F_law_names_by (dACons (dCall F_law_cell_at (dACons (dVar 0) (dACons (dC (.int 2)) dANil))) (dACons (dOp2 (p2 gAdd) (dC (.int 1)) (dOp2 (p2 gMod) (dCall F_law_cell_at (dACons (dVar 0) (dACons (dC (.int 1)) dANil))) (dC (.int 4)))) dANil)))) (sSeq (sAsg 3 (dCall F_law_held_by (dACons (dVar 1) (dACons (dVar 2) (dACons (dOp2 (p2 gDiv) (dCall F_law_cell_at (dACons (dVar 0) (dACons (dC (.int 1)) dANil))) (dC (.int 4))) dANil))))) (sSeq (sAsg 4 (dCall F_read (dACons (dI (dOpF fList (dVar 1))) (dACons (dCall F_law_lines (dACons (dVar 3) dANil)) dANil)))) (sSeq (sIf (dNotT (dTest (dIsiC (dVar 4)))) (sRet (dC (.bl false))) sNext) fb_rest))) [some (.im (.scr ns)), some (.im (dHall X)), none, none, none, none, none, none, none, none, none, none, none, none] [] = fb_rest [some (.im (.scr ns)), some (.im (dHall hs)), some (.im (.lst (nm.map D.str))), some (.rf r.length), some (.rf μ1.length), none, none, none, none, none, none, none, none, none] μ2 := fun X hX => by
    subst hX
    simp [c1, c2, hC, nb, eh, fl, ll, er, ob]
  obtain ⟨Kt, hKt⟩ : ∃ Kt : EvS, Kt = sSeq (sAsg 2 (dCall F_law_names_by (dACons (dCall F_law_cell_at (dACons (dVar 0) (dACons (dC (.int 2)) dANil))) (dACons (dOp2 (p2 gAdd) (dC (.int 1)) (dOp2 (p2 gMod) (dCall F_law_cell_at (dACons (dVar 0) (dACons (dC (.int 1)) dANil))) (dC (.int 4)))) dANil)))) (sSeq (sAsg 3 (dCall F_law_held_by (dACons (dVar 1) (dACons (dVar 2) (dACons (dOp2 (p2 gDiv) (dCall F_law_cell_at (dACons (dVar 0) (dACons (dC (.int 1)) dANil))) (dC (.int 4))) dANil))))) (sSeq (sAsg 4 (dCall F_read (dACons (dI (dOpF fList (dVar 1))) (dACons (dCall F_law_lines (dACons (dVar 3) dANil)) dANil)))) (sSeq (sIf (dNotT (dTest (dIsiC (dVar 4)))) (sRet (dC (.bl false))) sNext) fb_rest))) := ⟨_, rfl⟩
  rw [← hKt] at main ⊢
  clear hKt
  rw [← main hs rfl]
  rw [hhs]
  simp [c0, hM, iM, iM2]
  rw [h0]
  simp [c0]
  by_cases q : cell ns 0 / 5 % 9 = 1
  · simp [q, i40, i41, h1]
  · simp [q]
end LW

namespace LW
open PySem L2 SP
theorem all_mk {l : PySem.W.OpenLaw} {w : World} {K : PySem.W.Frag} {h : Heap} {mg : Str → Option Value} {fa : Addr} (X : K.In h) (G : h.Ns mainGlobals mg) (hfa : mg "law" = some (.ref fa))
    {C_SeatError : Addr}
    {C_BadHall : Addr}
    {C_BadName : Addr}
    {C_Known : Addr}
    {C_Unknown : Addr}
    {C_NoSeat : Addr}
    {C_Taken : Addr}
    {C_Nothing : Addr}
    {C_BadLine : Addr}
    {C_Plan : Addr}
    {t_GAP : Tok}
    {t_MOST_NAME : Tok}
    {t_MOST_ROWS : Tok}
    {t_MOST_SIGNS : Tok}
    {t_SEAT : Tok}
    {t_SIGNS : Tok}
    {f_law_row_by : Addr} {od_law_row_by an_law_row_by : Option Addr} {sl_law_row_by : Array (Option Value)} {oc_law_row_by kV_law_row_by dc_law_row_by pm_law_row_by cd_law_row_by ct_law_row_by : Value}
    {f_law_cell_at : Addr} {od_law_cell_at an_law_cell_at : Option Addr} {sl_law_cell_at : Array (Option Value)} {oc_law_cell_at kV_law_cell_at dc_law_cell_at pm_law_cell_at cd_law_cell_at ct_law_cell_at : Value}
    {f_law_names_by : Addr} {od_law_names_by an_law_names_by : Option Addr} {sl_law_names_by : Array (Option Value)} {oc_law_names_by kV_law_names_by dc_law_names_by pm_law_names_by cd_law_names_by ct_law_names_by : Value}
    {f_law_held_by : Addr} {od_law_held_by an_law_held_by : Option Addr} {sl_law_held_by : Array (Option Value)} {oc_law_held_by kV_law_held_by dc_law_held_by pm_law_held_by cd_law_held_by ct_law_held_by : Value}
    {f_need_row : Addr} {od_need_row an_need_row : Option Addr} {sl_need_row : Array (Option Value)} {oc_need_row kV_need_row dc_need_row pm_need_row cd_need_row ct_need_row : Value}
    {f_need_hall : Addr} {od_need_hall an_need_hall : Option Addr} {sl_need_hall : Array (Option Value)} {oc_need_hall kV_need_hall dc_need_hall pm_need_hall cd_need_hall ct_need_hall : Value}
    {f_Plan___init__ : Addr} {od_Plan___init__ an_Plan___init__ : Option Addr} {sl_Plan___init__ : Array (Option Value)} {oc_Plan___init__ kV_Plan___init__ dc_Plan___init__ pm_Plan___init__ cd_Plan___init__ ct_Plan___init__ : Value}
    {f_number_of : Addr} {od_number_of an_number_of : Option Addr} {sl_number_of : Array (Option Value)} {oc_number_of kV_number_of dc_number_of pm_number_of cd_number_of ct_number_of : Value}
    {f_spot_of : Addr} {od_spot_of an_spot_of : Option Addr} {sl_spot_of : Array (Option Value)} {oc_spot_of kV_spot_of dc_spot_of pm_spot_of cd_spot_of ct_spot_of : Value}
    {f_parted : Addr} {od_parted an_parted : Option Addr} {sl_parted : Array (Option Value)} {oc_parted kV_parted dc_parted pm_parted cd_parted ct_parted : Value}
    {f_need_name : Addr} {od_need_name an_need_name : Option Addr} {sl_need_name : Array (Option Value)} {oc_need_name kV_need_name dc_need_name pm_need_name cd_need_name ct_need_name : Value}
    {f_is_seat : Addr} {od_is_seat an_is_seat : Option Addr} {sl_is_seat : Array (Option Value)} {oc_is_seat kV_is_seat dc_is_seat pm_is_seat cd_is_seat ct_is_seat : Value}
    {f_read : Addr} {od_read an_read : Option Addr} {sl_read : Array (Option Value)} {oc_read kV_read dc_read pm_read cd_read ct_read : Value}
    {f_law_lines : Addr} {od_law_lines an_law_lines : Option Addr} {sl_law_lines : Array (Option Value)} {oc_law_lines kV_law_lines dc_law_lines pm_law_lines cd_law_lines ct_law_lines : Value}
    {f_Plan_groups : Addr} {od_Plan_groups an_Plan_groups : Option Addr} {sl_Plan_groups : Array (Option Value)} {oc_Plan_groups kV_Plan_groups dc_Plan_groups pm_Plan_groups cd_Plan_groups ct_Plan_groups : Value}
    {f_Plan_back : Addr} {od_Plan_back an_Plan_back : Option Addr} {sl_Plan_back : Array (Option Value)} {oc_Plan_back kV_Plan_back dc_Plan_back pm_Plan_back cd_Plan_back ct_Plan_back : Value}
    {f_law_nothing : Addr} {od_law_nothing an_law_nothing : Option Addr} {sl_law_nothing : Array (Option Value)} {oc_law_nothing kV_law_nothing dc_law_nothing pm_law_nothing cd_law_nothing ct_law_nothing : Value}
    {f_law_taken : Addr} {od_law_taken an_law_taken : Option Addr} {sl_law_taken : Array (Option Value)} {oc_law_taken kV_law_taken dc_law_taken pm_law_taken cd_law_taken ct_law_taken : Value}
    {f_law_due : Addr} {od_law_due an_law_due : Option Addr} {sl_law_due : Array (Option Value)} {oc_law_due kV_law_due dc_law_due pm_law_due cd_law_due ct_law_due : Value}
    {f_Plan_need_group : Addr} {od_Plan_need_group an_Plan_need_group : Option Addr} {sl_Plan_need_group : Array (Option Value)} {oc_Plan_need_group kV_Plan_need_group dc_Plan_need_group pm_Plan_need_group cd_Plan_need_group ct_Plan_need_group : Value}
    {f_Plan_seats : Addr} {od_Plan_seats an_Plan_seats : Option Addr} {sl_Plan_seats : Array (Option Value)} {oc_Plan_seats kV_Plan_seats dc_Plan_seats pm_Plan_seats cd_Plan_seats ct_Plan_seats : Value}
    {f_spots_of : Addr} {od_spots_of an_spots_of : Option Addr} {sl_spots_of : Array (Option Value)} {oc_spots_of kV_spots_of dc_spots_of pm_spots_of cd_spots_of ct_spots_of : Value}
    {f_Plan_taken : Addr} {od_Plan_taken an_Plan_taken : Option Addr} {sl_Plan_taken : Array (Option Value)} {oc_Plan_taken kV_Plan_taken dc_Plan_taken pm_Plan_taken cd_Plan_taken ct_Plan_taken : Value}
    {f_Plan_keep : Addr} {od_Plan_keep an_Plan_keep : Option Addr} {sl_Plan_keep : Array (Option Value)} {oc_Plan_keep kV_Plan_keep dc_Plan_keep pm_Plan_keep cd_Plan_keep ct_Plan_keep : Value}
    {f_Plan_given : Addr} {od_Plan_given an_Plan_given : Option Addr} {sl_Plan_given : Array (Option Value)} {oc_Plan_given kV_Plan_given dc_Plan_given pm_Plan_given cd_Plan_given ct_Plan_given : Value}
    {f_Plan_shift : Addr} {od_Plan_shift an_Plan_shift : Option Addr} {sl_Plan_shift : Array (Option Value)} {oc_Plan_shift kV_Plan_shift dc_Plan_shift pm_Plan_shift cd_Plan_shift ct_Plan_shift : Value}
    {f_law_shifted : Addr} {od_law_shifted an_law_shifted : Option Addr} {sl_law_shifted : Array (Option Value)} {oc_law_shifted kV_law_shifted dc_law_shifted pm_law_shifted cd_law_shifted ct_law_shifted : Value}
    {f_blocks_in : Addr} {od_blocks_in an_blocks_in : Option Addr} {sl_blocks_in : Array (Option Value)} {oc_blocks_in kV_blocks_in dc_blocks_in pm_blocks_in cd_blocks_in ct_blocks_in : Value}
    {f_blocks_of : Addr} {od_blocks_of an_blocks_of : Option Addr} {sl_blocks_of : Array (Option Value)} {oc_blocks_of kV_blocks_of dc_blocks_of pm_blocks_of cd_blocks_of ct_blocks_of : Value}
    {f_runs_in : Addr} {od_runs_in an_runs_in : Option Addr} {sl_runs_in : Array (Option Value)} {oc_runs_in kV_runs_in dc_runs_in pm_runs_in cd_runs_in ct_runs_in : Value}
    {f_runs_of : Addr} {od_runs_of an_runs_of : Option Addr} {sl_runs_of : Array (Option Value)} {oc_runs_of kV_runs_of dc_runs_of pm_runs_of cd_runs_of ct_runs_of : Value}
    {f_Plan_free : Addr} {od_Plan_free an_Plan_free : Option Addr} {sl_Plan_free : Array (Option Value)} {oc_Plan_free kV_Plan_free dc_Plan_free pm_Plan_free cd_Plan_free ct_Plan_free : Value}
    {f_law_runs : Addr} {od_law_runs an_law_runs : Option Addr} {sl_law_runs : Array (Option Value)} {oc_law_runs kV_law_runs dc_law_runs pm_law_runs cd_law_runs ct_law_runs : Value}
    {f_Plan_who : Addr} {od_Plan_who an_Plan_who : Option Addr} {sl_Plan_who : Array (Option Value)} {oc_Plan_who kV_Plan_who dc_Plan_who pm_Plan_who cd_Plan_who ct_Plan_who : Value}
    {f_law_stands : Addr} {od_law_stands an_law_stands : Option Addr} {sl_law_stands : Array (Option Value)} {oc_law_stands kV_law_stands dc_law_stands pm_law_stands cd_law_stands ct_law_stands : Value}
    {f_Plan_leave : Addr} {od_Plan_leave an_Plan_leave : Option Addr} {sl_Plan_leave : Array (Option Value)} {oc_Plan_leave kV_Plan_leave dc_Plan_leave pm_Plan_leave cd_Plan_leave ct_Plan_leave : Value}
    {f_law_leaves : Addr} {od_law_leaves an_law_leaves : Option Addr} {sl_law_leaves : Array (Option Value)} {oc_law_leaves kV_law_leaves dc_law_leaves pm_law_leaves cd_law_leaves ct_law_leaves : Value}
    {f_law : Addr} {od_law an_law : Option Addr} {sl_law : Array (Option Value)} {oc_law kV_law dc_law pm_law cd_law ct_law : Value}
    (aC_SeatError : PySem.W.nsIn K mainGlobals "SeatError" = some (some (.ref C_SeatError)))
    (aC_BadHall : PySem.W.nsIn K mainGlobals "BadHall" = some (some (.ref C_BadHall)))
    (aC_BadName : PySem.W.nsIn K mainGlobals "BadName" = some (some (.ref C_BadName)))
    (aC_Known : PySem.W.nsIn K mainGlobals "Known" = some (some (.ref C_Known)))
    (aC_Unknown : PySem.W.nsIn K mainGlobals "Unknown" = some (some (.ref C_Unknown)))
    (aC_NoSeat : PySem.W.nsIn K mainGlobals "NoSeat" = some (some (.ref C_NoSeat)))
    (aC_Taken : PySem.W.nsIn K mainGlobals "Taken" = some (some (.ref C_Taken)))
    (aC_Nothing : PySem.W.nsIn K mainGlobals "Nothing" = some (some (.ref C_Nothing)))
    (aC_BadLine : PySem.W.nsIn K mainGlobals "BadLine" = some (some (.ref C_BadLine)))
    (aC_Plan : PySem.W.nsIn K mainGlobals "Plan" = some (some (.ref C_Plan)))
    (xq_BadHall : PySem.W.excIn K C_BadHall [.type "ValueError", .type "Exception", .type "BaseException", .type "object"] "ValueError.__new__" = true)
    (xk_BadHall : PySem.W.keepIn K (.ref C_BadHall) = true)
    (xb_BadHall : PySem.W.subIn K (.ref C_BadHall) (.type "BaseException") = some true)
    (xt_BadHall : PySem.W.typeIn K (.ref C_BadHall) = some (.type "type"))
    (xq_BadLine : PySem.W.excIn K C_BadLine [.type "ValueError", .type "Exception", .type "BaseException", .type "object"] "ValueError.__new__" = true)
    (xk_BadLine : PySem.W.keepIn K (.ref C_BadLine) = true)
    (xb_BadLine : PySem.W.subIn K (.ref C_BadLine) (.type "BaseException") = some true)
    (xt_BadLine : PySem.W.typeIn K (.ref C_BadLine) = some (.type "type"))
    (xq_BadName : PySem.W.excIn K C_BadName [.type "ValueError", .type "Exception", .type "BaseException", .type "object"] "ValueError.__new__" = true)
    (xk_BadName : PySem.W.keepIn K (.ref C_BadName) = true)
    (xb_BadName : PySem.W.subIn K (.ref C_BadName) (.type "BaseException") = some true)
    (xt_BadName : PySem.W.typeIn K (.ref C_BadName) = some (.type "type"))
    (xq_Known : PySem.W.excIn K C_Known [.type "ValueError", .type "Exception", .type "BaseException", .type "object"] "ValueError.__new__" = true)
    (xk_Known : PySem.W.keepIn K (.ref C_Known) = true)
    (xb_Known : PySem.W.subIn K (.ref C_Known) (.type "BaseException") = some true)
    (xt_Known : PySem.W.typeIn K (.ref C_Known) = some (.type "type"))
    (xq_NoSeat : PySem.W.excIn K C_NoSeat [.type "ValueError", .type "Exception", .type "BaseException", .type "object"] "ValueError.__new__" = true)
    (xk_NoSeat : PySem.W.keepIn K (.ref C_NoSeat) = true)
    (xb_NoSeat : PySem.W.subIn K (.ref C_NoSeat) (.type "BaseException") = some true)
    (xt_NoSeat : PySem.W.typeIn K (.ref C_NoSeat) = some (.type "type"))
    (xq_Nothing : PySem.W.excIn K C_Nothing [.type "ValueError", .type "Exception", .type "BaseException", .type "object"] "ValueError.__new__" = true)
    (xk_Nothing : PySem.W.keepIn K (.ref C_Nothing) = true)
    (xb_Nothing : PySem.W.subIn K (.ref C_Nothing) (.type "BaseException") = some true)
    (xt_Nothing : PySem.W.typeIn K (.ref C_Nothing) = some (.type "type"))
    (xq_Taken : PySem.W.excIn K C_Taken [.type "ValueError", .type "Exception", .type "BaseException", .type "object"] "ValueError.__new__" = true)
    (xk_Taken : PySem.W.keepIn K (.ref C_Taken) = true)
    (xb_Taken : PySem.W.subIn K (.ref C_Taken) (.type "BaseException") = some true)
    (xt_Taken : PySem.W.typeIn K (.ref C_Taken) = some (.type "type"))
    (xq_Unknown : PySem.W.excIn K C_Unknown [.type "ValueError", .type "Exception", .type "BaseException", .type "object"] "ValueError.__new__" = true)
    (xk_Unknown : PySem.W.keepIn K (.ref C_Unknown) = true)
    (xb_Unknown : PySem.W.subIn K (.ref C_Unknown) (.type "BaseException") = some true)
    (xt_Unknown : PySem.W.typeIn K (.ref C_Unknown) = some (.type "type"))
    (ac_GAP : PySem.W.nsIn K mainGlobals "GAP" = some (some (.str "." t_GAP)))
    (ac_MOST_NAME : PySem.W.nsIn K mainGlobals "MOST_NAME" = some (some (.int 12 t_MOST_NAME)))
    (ac_MOST_ROWS : PySem.W.nsIn K mainGlobals "MOST_ROWS" = some (some (.int 40 t_MOST_ROWS)))
    (ac_MOST_SIGNS : PySem.W.nsIn K mainGlobals "MOST_SIGNS" = some (some (.int 60 t_MOST_SIGNS)))
    (ac_SEAT : PySem.W.nsIn K mainGlobals "SEAT" = some (some (.str "o" t_SEAT)))
    (ac_SIGNS : PySem.W.nsIn K mainGlobals "SIGNS" = some (some (.str "abcdefghijklmnopqrstuvwxyz0123456789-" t_SIGNS)))
    (a_law_row_by : PySem.W.nsIn K mainGlobals "_law_row_by" = some (some (.ref f_law_row_by)))
    (l_law_row_by : K.lookup f_law_row_by = some ⟨oc_law_row_by, od_law_row_by, .func (PySem.W.fnOf "_law_row_by" "_law_row_by" (defArgs s_law_row_by) (defBody s_law_row_by) (defScope s_law_row_by) .none kV_law_row_by dc_law_row_by pm_law_row_by an_law_row_by cd_law_row_by ct_law_row_by), sl_law_row_by⟩)
    (c_law_row_by : PySem.W.codeIn K cd_law_row_by "_law_row_by" = true)
    (k_law_row_by : PySem.W.keepIn K (.ref f_law_row_by) = true)
    (a_law_cell_at : PySem.W.nsIn K mainGlobals "_law_cell_at" = some (some (.ref f_law_cell_at)))
    (l_law_cell_at : K.lookup f_law_cell_at = some ⟨oc_law_cell_at, od_law_cell_at, .func (PySem.W.fnOf "_law_cell_at" "_law_cell_at" (defArgs s_law_cell_at) (defBody s_law_cell_at) (defScope s_law_cell_at) .none kV_law_cell_at dc_law_cell_at pm_law_cell_at an_law_cell_at cd_law_cell_at ct_law_cell_at), sl_law_cell_at⟩)
    (c_law_cell_at : PySem.W.codeIn K cd_law_cell_at "_law_cell_at" = true)
    (k_law_cell_at : PySem.W.keepIn K (.ref f_law_cell_at) = true)
    (a_law_names_by : PySem.W.nsIn K mainGlobals "_law_names_by" = some (some (.ref f_law_names_by)))
    (l_law_names_by : K.lookup f_law_names_by = some ⟨oc_law_names_by, od_law_names_by, .func (PySem.W.fnOf "_law_names_by" "_law_names_by" (defArgs s_law_names_by) (defBody s_law_names_by) (defScope s_law_names_by) .none kV_law_names_by dc_law_names_by pm_law_names_by an_law_names_by cd_law_names_by ct_law_names_by), sl_law_names_by⟩)
    (c_law_names_by : PySem.W.codeIn K cd_law_names_by "_law_names_by" = true)
    (k_law_names_by : PySem.W.keepIn K (.ref f_law_names_by) = true)
    (a_law_held_by : PySem.W.nsIn K mainGlobals "_law_held_by" = some (some (.ref f_law_held_by)))
    (l_law_held_by : K.lookup f_law_held_by = some ⟨oc_law_held_by, od_law_held_by, .func (PySem.W.fnOf "_law_held_by" "_law_held_by" (defArgs s_law_held_by) (defBody s_law_held_by) (defScope s_law_held_by) .none kV_law_held_by dc_law_held_by pm_law_held_by an_law_held_by cd_law_held_by ct_law_held_by), sl_law_held_by⟩)
    (c_law_held_by : PySem.W.codeIn K cd_law_held_by "_law_held_by" = true)
    (k_law_held_by : PySem.W.keepIn K (.ref f_law_held_by) = true)
    (a_need_row : PySem.W.nsIn K mainGlobals "need_row" = some (some (.ref f_need_row)))
    (l_need_row : K.lookup f_need_row = some ⟨oc_need_row, od_need_row, .func (PySem.W.fnOf "need_row" "need_row" (defArgs s_need_row) (defBody s_need_row) (defScope s_need_row) .none kV_need_row dc_need_row pm_need_row an_need_row cd_need_row ct_need_row), sl_need_row⟩)
    (c_need_row : PySem.W.codeIn K cd_need_row "need_row" = true)
    (k_need_row : PySem.W.keepIn K (.ref f_need_row) = true)
    (a_need_hall : PySem.W.nsIn K mainGlobals "need_hall" = some (some (.ref f_need_hall)))
    (l_need_hall : K.lookup f_need_hall = some ⟨oc_need_hall, od_need_hall, .func (PySem.W.fnOf "need_hall" "need_hall" (defArgs s_need_hall) (defBody s_need_hall) (defScope s_need_hall) .none kV_need_hall dc_need_hall pm_need_hall an_need_hall cd_need_hall ct_need_hall), sl_need_hall⟩)
    (c_need_hall : PySem.W.codeIn K cd_need_hall "need_hall" = true)
    (k_need_hall : PySem.W.keepIn K (.ref f_need_hall) = true)
    (a_Plan___init__ : PySem.W.findIn K (.ref C_Plan) "__init__" = some (some (.ref f_Plan___init__)))
    (i_Plan___init__ : PySem.W.isFn K (.ref f_Plan___init__) = true)
    (l_Plan___init__ : K.lookup f_Plan___init__ = some ⟨oc_Plan___init__, od_Plan___init__, .func (PySem.W.fnOf "__init__" "Plan.__init__" (defArgs s_Plan___init__) (defBody s_Plan___init__) (defScope s_Plan___init__) .none kV_Plan___init__ dc_Plan___init__ pm_Plan___init__ an_Plan___init__ cd_Plan___init__ ct_Plan___init__), sl_Plan___init__⟩)
    (c_Plan___init__ : PySem.W.codeIn K cd_Plan___init__ "Plan.__init__" = true)
    (k_Plan___init__ : PySem.W.keepIn K (.ref f_Plan___init__) = true)
    (a_number_of : PySem.W.nsIn K mainGlobals "number_of" = some (some (.ref f_number_of)))
    (l_number_of : K.lookup f_number_of = some ⟨oc_number_of, od_number_of, .func (PySem.W.fnOf "number_of" "number_of" (defArgs s_number_of) (defBody s_number_of) (defScope s_number_of) .none kV_number_of dc_number_of pm_number_of an_number_of cd_number_of ct_number_of), sl_number_of⟩)
    (c_number_of : PySem.W.codeIn K cd_number_of "number_of" = true)
    (k_number_of : PySem.W.keepIn K (.ref f_number_of) = true)
    (a_spot_of : PySem.W.nsIn K mainGlobals "spot_of" = some (some (.ref f_spot_of)))
    (l_spot_of : K.lookup f_spot_of = some ⟨oc_spot_of, od_spot_of, .func (PySem.W.fnOf "spot_of" "spot_of" (defArgs s_spot_of) (defBody s_spot_of) (defScope s_spot_of) .none kV_spot_of dc_spot_of pm_spot_of an_spot_of cd_spot_of ct_spot_of), sl_spot_of⟩)
    (c_spot_of : PySem.W.codeIn K cd_spot_of "spot_of" = true)
    (k_spot_of : PySem.W.keepIn K (.ref f_spot_of) = true)
    (a_parted : PySem.W.nsIn K mainGlobals "parted" = some (some (.ref f_parted)))
    (l_parted : K.lookup f_parted = some ⟨oc_parted, od_parted, .func (PySem.W.fnOf "parted" "parted" (defArgs s_parted) (defBody s_parted) (defScope s_parted) .none kV_parted dc_parted pm_parted an_parted cd_parted ct_parted), sl_parted⟩)
    (c_parted : PySem.W.codeIn K cd_parted "parted" = true)
    (k_parted : PySem.W.keepIn K (.ref f_parted) = true)
    (a_need_name : PySem.W.nsIn K mainGlobals "need_name" = some (some (.ref f_need_name)))
    (l_need_name : K.lookup f_need_name = some ⟨oc_need_name, od_need_name, .func (PySem.W.fnOf "need_name" "need_name" (defArgs s_need_name) (defBody s_need_name) (defScope s_need_name) .none kV_need_name dc_need_name pm_need_name an_need_name cd_need_name ct_need_name), sl_need_name⟩)
    (c_need_name : PySem.W.codeIn K cd_need_name "need_name" = true)
    (k_need_name : PySem.W.keepIn K (.ref f_need_name) = true)
    (a_is_seat : PySem.W.nsIn K mainGlobals "is_seat" = some (some (.ref f_is_seat)))
    (l_is_seat : K.lookup f_is_seat = some ⟨oc_is_seat, od_is_seat, .func (PySem.W.fnOf "is_seat" "is_seat" (defArgs s_is_seat) (defBody s_is_seat) (defScope s_is_seat) .none kV_is_seat dc_is_seat pm_is_seat an_is_seat cd_is_seat ct_is_seat), sl_is_seat⟩)
    (c_is_seat : PySem.W.codeIn K cd_is_seat "is_seat" = true)
    (k_is_seat : PySem.W.keepIn K (.ref f_is_seat) = true)
    (a_read : PySem.W.nsIn K mainGlobals "read" = some (some (.ref f_read)))
    (l_read : K.lookup f_read = some ⟨oc_read, od_read, .func (PySem.W.fnOf "read" "read" (defArgs s_read) (defBody s_read) (defScope s_read) .none kV_read dc_read pm_read an_read cd_read ct_read), sl_read⟩)
    (c_read : PySem.W.codeIn K cd_read "read" = true)
    (k_read : PySem.W.keepIn K (.ref f_read) = true)
    (a_law_lines : PySem.W.nsIn K mainGlobals "_law_lines" = some (some (.ref f_law_lines)))
    (l_law_lines : K.lookup f_law_lines = some ⟨oc_law_lines, od_law_lines, .func (PySem.W.fnOf "_law_lines" "_law_lines" (defArgs s_law_lines) (defBody s_law_lines) (defScope s_law_lines) .none kV_law_lines dc_law_lines pm_law_lines an_law_lines cd_law_lines ct_law_lines), sl_law_lines⟩)
    (c_law_lines : PySem.W.codeIn K cd_law_lines "_law_lines" = true)
    (k_law_lines : PySem.W.keepIn K (.ref f_law_lines) = true)
    (a_Plan_groups : PySem.W.findIn K (.ref C_Plan) "groups" = some (some (.ref f_Plan_groups)))
    (i_Plan_groups : PySem.W.isFn K (.ref f_Plan_groups) = true)
    (l_Plan_groups : K.lookup f_Plan_groups = some ⟨oc_Plan_groups, od_Plan_groups, .func (PySem.W.fnOf "groups" "Plan.groups" (defArgs s_Plan_groups) (defBody s_Plan_groups) (defScope s_Plan_groups) .none kV_Plan_groups dc_Plan_groups pm_Plan_groups an_Plan_groups cd_Plan_groups ct_Plan_groups), sl_Plan_groups⟩)
    (c_Plan_groups : PySem.W.codeIn K cd_Plan_groups "Plan.groups" = true)
    (k_Plan_groups : PySem.W.keepIn K (.ref f_Plan_groups) = true)
    (a_Plan_back : PySem.W.findIn K (.ref C_Plan) "back" = some (some (.ref f_Plan_back)))
    (i_Plan_back : PySem.W.isFn K (.ref f_Plan_back) = true)
    (l_Plan_back : K.lookup f_Plan_back = some ⟨oc_Plan_back, od_Plan_back, .func (PySem.W.fnOf "back" "Plan.back" (defArgs s_Plan_back) (defBody s_Plan_back) (defScope s_Plan_back) .none kV_Plan_back dc_Plan_back pm_Plan_back an_Plan_back cd_Plan_back ct_Plan_back), sl_Plan_back⟩)
    (c_Plan_back : PySem.W.codeIn K cd_Plan_back "Plan.back" = true)
    (k_Plan_back : PySem.W.keepIn K (.ref f_Plan_back) = true)
    (a_law_nothing : PySem.W.nsIn K mainGlobals "_law_nothing" = some (some (.ref f_law_nothing)))
    (l_law_nothing : K.lookup f_law_nothing = some ⟨oc_law_nothing, od_law_nothing, .func (PySem.W.fnOf "_law_nothing" "_law_nothing" (defArgs s_law_nothing) (defBody s_law_nothing) (defScope s_law_nothing) .none kV_law_nothing dc_law_nothing pm_law_nothing an_law_nothing cd_law_nothing ct_law_nothing), sl_law_nothing⟩)
    (c_law_nothing : PySem.W.codeIn K cd_law_nothing "_law_nothing" = true)
    (k_law_nothing : PySem.W.keepIn K (.ref f_law_nothing) = true)
    (a_law_taken : PySem.W.nsIn K mainGlobals "_law_taken" = some (some (.ref f_law_taken)))
    (l_law_taken : K.lookup f_law_taken = some ⟨oc_law_taken, od_law_taken, .func (PySem.W.fnOf "_law_taken" "_law_taken" (defArgs s_law_taken) (defBody s_law_taken) (defScope s_law_taken) .none kV_law_taken dc_law_taken pm_law_taken an_law_taken cd_law_taken ct_law_taken), sl_law_taken⟩)
    (c_law_taken : PySem.W.codeIn K cd_law_taken "_law_taken" = true)
    (k_law_taken : PySem.W.keepIn K (.ref f_law_taken) = true)
    (a_law_due : PySem.W.nsIn K mainGlobals "_law_due" = some (some (.ref f_law_due)))
    (l_law_due : K.lookup f_law_due = some ⟨oc_law_due, od_law_due, .func (PySem.W.fnOf "_law_due" "_law_due" (defArgs s_law_due) (defBody s_law_due) (defScope s_law_due) .none kV_law_due dc_law_due pm_law_due an_law_due cd_law_due ct_law_due), sl_law_due⟩)
    (c_law_due : PySem.W.codeIn K cd_law_due "_law_due" = true)
    (k_law_due : PySem.W.keepIn K (.ref f_law_due) = true)
    (a_Plan_need_group : PySem.W.findIn K (.ref C_Plan) "need_group" = some (some (.ref f_Plan_need_group)))
    (i_Plan_need_group : PySem.W.isFn K (.ref f_Plan_need_group) = true)
    (l_Plan_need_group : K.lookup f_Plan_need_group = some ⟨oc_Plan_need_group, od_Plan_need_group, .func (PySem.W.fnOf "need_group" "Plan.need_group" (defArgs s_Plan_need_group) (defBody s_Plan_need_group) (defScope s_Plan_need_group) .none kV_Plan_need_group dc_Plan_need_group pm_Plan_need_group an_Plan_need_group cd_Plan_need_group ct_Plan_need_group), sl_Plan_need_group⟩)
    (c_Plan_need_group : PySem.W.codeIn K cd_Plan_need_group "Plan.need_group" = true)
    (k_Plan_need_group : PySem.W.keepIn K (.ref f_Plan_need_group) = true)
    (a_Plan_seats : PySem.W.findIn K (.ref C_Plan) "seats" = some (some (.ref f_Plan_seats)))
    (i_Plan_seats : PySem.W.isFn K (.ref f_Plan_seats) = true)
    (l_Plan_seats : K.lookup f_Plan_seats = some ⟨oc_Plan_seats, od_Plan_seats, .func (PySem.W.fnOf "seats" "Plan.seats" (defArgs s_Plan_seats) (defBody s_Plan_seats) (defScope s_Plan_seats) .none kV_Plan_seats dc_Plan_seats pm_Plan_seats an_Plan_seats cd_Plan_seats ct_Plan_seats), sl_Plan_seats⟩)
    (c_Plan_seats : PySem.W.codeIn K cd_Plan_seats "Plan.seats" = true)
    (k_Plan_seats : PySem.W.keepIn K (.ref f_Plan_seats) = true)
    (a_spots_of : PySem.W.nsIn K mainGlobals "spots_of" = some (some (.ref f_spots_of)))
    (l_spots_of : K.lookup f_spots_of = some ⟨oc_spots_of, od_spots_of, .func (PySem.W.fnOf "spots_of" "spots_of" (defArgs s_spots_of) (defBody s_spots_of) (defScope s_spots_of) .none kV_spots_of dc_spots_of pm_spots_of an_spots_of cd_spots_of ct_spots_of), sl_spots_of⟩)
    (c_spots_of : PySem.W.codeIn K cd_spots_of "spots_of" = true)
    (k_spots_of : PySem.W.keepIn K (.ref f_spots_of) = true)
    (a_Plan_taken : PySem.W.findIn K (.ref C_Plan) "taken" = some (some (.ref f_Plan_taken)))
    (i_Plan_taken : PySem.W.isFn K (.ref f_Plan_taken) = true)
    (l_Plan_taken : K.lookup f_Plan_taken = some ⟨oc_Plan_taken, od_Plan_taken, .func (PySem.W.fnOf "taken" "Plan.taken" (defArgs s_Plan_taken) (defBody s_Plan_taken) (defScope s_Plan_taken) .none kV_Plan_taken dc_Plan_taken pm_Plan_taken an_Plan_taken cd_Plan_taken ct_Plan_taken), sl_Plan_taken⟩)
    (c_Plan_taken : PySem.W.codeIn K cd_Plan_taken "Plan.taken" = true)
    (k_Plan_taken : PySem.W.keepIn K (.ref f_Plan_taken) = true)
    (a_Plan_keep : PySem.W.findIn K (.ref C_Plan) "keep" = some (some (.ref f_Plan_keep)))
    (i_Plan_keep : PySem.W.isFn K (.ref f_Plan_keep) = true)
    (l_Plan_keep : K.lookup f_Plan_keep = some ⟨oc_Plan_keep, od_Plan_keep, .func (PySem.W.fnOf "keep" "Plan.keep" (defArgs s_Plan_keep) (defBody s_Plan_keep) (defScope s_Plan_keep) .none kV_Plan_keep dc_Plan_keep pm_Plan_keep an_Plan_keep cd_Plan_keep ct_Plan_keep), sl_Plan_keep⟩)
    (c_Plan_keep : PySem.W.codeIn K cd_Plan_keep "Plan.keep" = true)
    (k_Plan_keep : PySem.W.keepIn K (.ref f_Plan_keep) = true)
    (a_Plan_given : PySem.W.findIn K (.ref C_Plan) "given" = some (some (.ref f_Plan_given)))
    (i_Plan_given : PySem.W.isFn K (.ref f_Plan_given) = true)
    (l_Plan_given : K.lookup f_Plan_given = some ⟨oc_Plan_given, od_Plan_given, .func (PySem.W.fnOf "given" "Plan.given" (defArgs s_Plan_given) (defBody s_Plan_given) (defScope s_Plan_given) .none kV_Plan_given dc_Plan_given pm_Plan_given an_Plan_given cd_Plan_given ct_Plan_given), sl_Plan_given⟩)
    (c_Plan_given : PySem.W.codeIn K cd_Plan_given "Plan.given" = true)
    (k_Plan_given : PySem.W.keepIn K (.ref f_Plan_given) = true)
    (a_Plan_shift : PySem.W.findIn K (.ref C_Plan) "shift" = some (some (.ref f_Plan_shift)))
    (i_Plan_shift : PySem.W.isFn K (.ref f_Plan_shift) = true)
    (l_Plan_shift : K.lookup f_Plan_shift = some ⟨oc_Plan_shift, od_Plan_shift, .func (PySem.W.fnOf "shift" "Plan.shift" (defArgs s_Plan_shift) (defBody s_Plan_shift) (defScope s_Plan_shift) .none kV_Plan_shift dc_Plan_shift pm_Plan_shift an_Plan_shift cd_Plan_shift ct_Plan_shift), sl_Plan_shift⟩)
    (c_Plan_shift : PySem.W.codeIn K cd_Plan_shift "Plan.shift" = true)
    (k_Plan_shift : PySem.W.keepIn K (.ref f_Plan_shift) = true)
    (a_law_shifted : PySem.W.nsIn K mainGlobals "_law_shifted" = some (some (.ref f_law_shifted)))
    (l_law_shifted : K.lookup f_law_shifted = some ⟨oc_law_shifted, od_law_shifted, .func (PySem.W.fnOf "_law_shifted" "_law_shifted" (defArgs s_law_shifted) (defBody s_law_shifted) (defScope s_law_shifted) .none kV_law_shifted dc_law_shifted pm_law_shifted an_law_shifted cd_law_shifted ct_law_shifted), sl_law_shifted⟩)
    (c_law_shifted : PySem.W.codeIn K cd_law_shifted "_law_shifted" = true)
    (k_law_shifted : PySem.W.keepIn K (.ref f_law_shifted) = true)
    (a_blocks_in : PySem.W.nsIn K mainGlobals "blocks_in" = some (some (.ref f_blocks_in)))
    (l_blocks_in : K.lookup f_blocks_in = some ⟨oc_blocks_in, od_blocks_in, .func (PySem.W.fnOf "blocks_in" "blocks_in" (defArgs s_blocks_in) (defBody s_blocks_in) (defScope s_blocks_in) .none kV_blocks_in dc_blocks_in pm_blocks_in an_blocks_in cd_blocks_in ct_blocks_in), sl_blocks_in⟩)
    (c_blocks_in : PySem.W.codeIn K cd_blocks_in "blocks_in" = true)
    (k_blocks_in : PySem.W.keepIn K (.ref f_blocks_in) = true)
    (a_blocks_of : PySem.W.nsIn K mainGlobals "blocks_of" = some (some (.ref f_blocks_of)))
    (l_blocks_of : K.lookup f_blocks_of = some ⟨oc_blocks_of, od_blocks_of, .func (PySem.W.fnOf "blocks_of" "blocks_of" (defArgs s_blocks_of) (defBody s_blocks_of) (defScope s_blocks_of) .none kV_blocks_of dc_blocks_of pm_blocks_of an_blocks_of cd_blocks_of ct_blocks_of), sl_blocks_of⟩)
    (c_blocks_of : PySem.W.codeIn K cd_blocks_of "blocks_of" = true)
    (k_blocks_of : PySem.W.keepIn K (.ref f_blocks_of) = true)
    (a_runs_in : PySem.W.nsIn K mainGlobals "runs_in" = some (some (.ref f_runs_in)))
    (l_runs_in : K.lookup f_runs_in = some ⟨oc_runs_in, od_runs_in, .func (PySem.W.fnOf "runs_in" "runs_in" (defArgs s_runs_in) (defBody s_runs_in) (defScope s_runs_in) .none kV_runs_in dc_runs_in pm_runs_in an_runs_in cd_runs_in ct_runs_in), sl_runs_in⟩)
    (c_runs_in : PySem.W.codeIn K cd_runs_in "runs_in" = true)
    (k_runs_in : PySem.W.keepIn K (.ref f_runs_in) = true)
    (a_runs_of : PySem.W.nsIn K mainGlobals "runs_of" = some (some (.ref f_runs_of)))
    (l_runs_of : K.lookup f_runs_of = some ⟨oc_runs_of, od_runs_of, .func (PySem.W.fnOf "runs_of" "runs_of" (defArgs s_runs_of) (defBody s_runs_of) (defScope s_runs_of) .none kV_runs_of dc_runs_of pm_runs_of an_runs_of cd_runs_of ct_runs_of), sl_runs_of⟩)
    (c_runs_of : PySem.W.codeIn K cd_runs_of "runs_of" = true)
    (k_runs_of : PySem.W.keepIn K (.ref f_runs_of) = true)
    (a_Plan_free : PySem.W.findIn K (.ref C_Plan) "free" = some (some (.ref f_Plan_free)))
    (i_Plan_free : PySem.W.isFn K (.ref f_Plan_free) = true)
    (l_Plan_free : K.lookup f_Plan_free = some ⟨oc_Plan_free, od_Plan_free, .func (PySem.W.fnOf "free" "Plan.free" (defArgs s_Plan_free) (defBody s_Plan_free) (defScope s_Plan_free) .none kV_Plan_free dc_Plan_free pm_Plan_free an_Plan_free cd_Plan_free ct_Plan_free), sl_Plan_free⟩)
    (c_Plan_free : PySem.W.codeIn K cd_Plan_free "Plan.free" = true)
    (k_Plan_free : PySem.W.keepIn K (.ref f_Plan_free) = true)
    (a_law_runs : PySem.W.nsIn K mainGlobals "_law_runs" = some (some (.ref f_law_runs)))
    (l_law_runs : K.lookup f_law_runs = some ⟨oc_law_runs, od_law_runs, .func (PySem.W.fnOf "_law_runs" "_law_runs" (defArgs s_law_runs) (defBody s_law_runs) (defScope s_law_runs) .none kV_law_runs dc_law_runs pm_law_runs an_law_runs cd_law_runs ct_law_runs), sl_law_runs⟩)
    (c_law_runs : PySem.W.codeIn K cd_law_runs "_law_runs" = true)
    (k_law_runs : PySem.W.keepIn K (.ref f_law_runs) = true)
    (a_Plan_who : PySem.W.findIn K (.ref C_Plan) "who" = some (some (.ref f_Plan_who)))
    (i_Plan_who : PySem.W.isFn K (.ref f_Plan_who) = true)
    (l_Plan_who : K.lookup f_Plan_who = some ⟨oc_Plan_who, od_Plan_who, .func (PySem.W.fnOf "who" "Plan.who" (defArgs s_Plan_who) (defBody s_Plan_who) (defScope s_Plan_who) .none kV_Plan_who dc_Plan_who pm_Plan_who an_Plan_who cd_Plan_who ct_Plan_who), sl_Plan_who⟩)
    (c_Plan_who : PySem.W.codeIn K cd_Plan_who "Plan.who" = true)
    (k_Plan_who : PySem.W.keepIn K (.ref f_Plan_who) = true)
    (a_law_stands : PySem.W.nsIn K mainGlobals "_law_stands" = some (some (.ref f_law_stands)))
    (l_law_stands : K.lookup f_law_stands = some ⟨oc_law_stands, od_law_stands, .func (PySem.W.fnOf "_law_stands" "_law_stands" (defArgs s_law_stands) (defBody s_law_stands) (defScope s_law_stands) .none kV_law_stands dc_law_stands pm_law_stands an_law_stands cd_law_stands ct_law_stands), sl_law_stands⟩)
    (c_law_stands : PySem.W.codeIn K cd_law_stands "_law_stands" = true)
    (k_law_stands : PySem.W.keepIn K (.ref f_law_stands) = true)
    (a_Plan_leave : PySem.W.findIn K (.ref C_Plan) "leave" = some (some (.ref f_Plan_leave)))
    (i_Plan_leave : PySem.W.isFn K (.ref f_Plan_leave) = true)
    (l_Plan_leave : K.lookup f_Plan_leave = some ⟨oc_Plan_leave, od_Plan_leave, .func (PySem.W.fnOf "leave" "Plan.leave" (defArgs s_Plan_leave) (defBody s_Plan_leave) (defScope s_Plan_leave) .none kV_Plan_leave dc_Plan_leave pm_Plan_leave an_Plan_leave cd_Plan_leave ct_Plan_leave), sl_Plan_leave⟩)
    (c_Plan_leave : PySem.W.codeIn K cd_Plan_leave "Plan.leave" = true)
    (k_Plan_leave : PySem.W.keepIn K (.ref f_Plan_leave) = true)
    (a_law_leaves : PySem.W.nsIn K mainGlobals "_law_leaves" = some (some (.ref f_law_leaves)))
    (l_law_leaves : K.lookup f_law_leaves = some ⟨oc_law_leaves, od_law_leaves, .func (PySem.W.fnOf "_law_leaves" "_law_leaves" (defArgs s_law_leaves) (defBody s_law_leaves) (defScope s_law_leaves) .none kV_law_leaves dc_law_leaves pm_law_leaves an_law_leaves cd_law_leaves ct_law_leaves), sl_law_leaves⟩)
    (c_law_leaves : PySem.W.codeIn K cd_law_leaves "_law_leaves" = true)
    (k_law_leaves : PySem.W.keepIn K (.ref f_law_leaves) = true)
    (a_law : PySem.W.nsIn K mainGlobals "law" = some (some (.ref f_law)))
    (l_law : K.lookup f_law = some ⟨oc_law, od_law, .func (PySem.W.fnOf "law" "law" (defArgs s_law) (defBody s_law) (defScope s_law) .none kV_law dc_law pm_law an_law cd_law ct_law), sl_law⟩)
    (c_law : PySem.W.codeIn K cd_law "law" = true)
    (k_law : PySem.W.keepIn K (.ref f_law) = true)
    (z_dict : PySem.W.nsIn K mainGlobals "dict" = some none)
    (z_int : PySem.W.nsIn K mainGlobals "int" = some none)
    (z_isinstance : PySem.W.nsIn K mainGlobals "isinstance" = some none)
    (z_len : PySem.W.nsIn K mainGlobals "len" = some none)
    (z_list : PySem.W.nsIn K mainGlobals "list" = some none)
    (z_max : PySem.W.nsIn K mainGlobals "max" = some none)
    (z_range : PySem.W.nsIn K mainGlobals "range" = some none)
    (z_str : PySem.W.nsIn K mainGlobals "str" = some none)
    (sb_NoSeat_NoSeat : PySem.W.subIn K (.ref C_NoSeat) (.ref C_NoSeat) = some true)
    (sb_NoSeat_Taken : PySem.W.subIn K (.ref C_NoSeat) (.ref C_Taken) = some false)
    (sb_Nothing_Nothing : PySem.W.subIn K (.ref C_Nothing) (.ref C_Nothing) = some true)
    (sb_Taken_NoSeat : PySem.W.subIn K (.ref C_Taken) (.ref C_NoSeat) = some false)
    (sb_Taken_Taken : PySem.W.subIn K (.ref C_Taken) (.ref C_Taken) = some true)
    (hd_NoSeat : PySem.W.hasDictIn K C_NoSeat = true)
    (hd_Nothing : PySem.W.hasDictIn K C_Nothing = true)
    (hd_Taken : PySem.W.hasDictIn K C_Taken = true)
    (pl_pg : PySem.W.plainGet K C_Plan Str.empty = true)
    (pl_hd : PySem.W.hasDictIn K C_Plan = true)
    (pl_po : PySem.W.plainOver K C_Plan = true)
    (pl_sa : PySem.W.findIn K (.ref C_Plan) "__setattr__" = some (some (.builtin "object.__setattr__")))
    (pl_mk : PySem.W.makesIn K C_Plan = true)
    (pl_kc : PySem.W.keepIn K (.ref C_Plan) = true)
    (pl_ca : PySem.W.findIn K (.ref C_Plan) "__class__" = some (some (.builtin "object.__class__")))
    (pl_mro : PySem.W.mroIn K C_Plan (.type "object") = some true)
    (pl_ty : PySem.W.typeIn K (.ref C_Plan) = some (.type "type"))
    (pl_sb : PySem.W.subIn K (.ref C_Plan) (.ref C_Plan) = some true)
    (en_ : PySem.W.specialIn K (.builtin "object.__class__") "__get__" = some (some (.builtin "getset_descriptor.__get__")))
    (et_ : PySem.W.takesIn K (.builtin "object.__class__") = some true)
    (pl_n_hall : PySem.W.findIn K (.ref C_Plan) "hall" = some none)
    (pl_n_held : PySem.W.findIn K (.ref C_Plan) "held" = some none)
    (pl_n_past : PySem.W.findIn K (.ref C_Plan) "past" = some none)
    : ∃ fd : FuncData, (∀ (s : Shared) (v : Value), BindsTo s fd ⟨[v], []⟩ [("_law_script", v)]) ∧ ∀ base : Heap, K.In base → base.Ns mainGlobals mg → FnOk l.prog w K mg base (L2.CX l.prog w) 7 fa fd ["_law_script"] (spLaw K) := by
  have e := hfa.symm.trans (PySem.W.mg_of X G a_law)
  cases e
  have T : Txt K mg ⟨f_law_row_by, f_law_cell_at, f_law_names_by, f_law_held_by, f_need_row, f_need_hall, f_Plan___init__, f_number_of, f_spot_of, f_parted, f_need_name, f_is_seat, f_read, f_law_lines, f_Plan_groups, f_Plan_back, f_law_nothing, f_law_taken, f_law_due, f_Plan_need_group, f_Plan_seats, f_spots_of, f_Plan_taken, f_Plan_keep, f_Plan_given, f_Plan_shift, f_law_shifted, f_blocks_in, f_blocks_of, f_runs_in, f_runs_of, f_Plan_free, f_law_runs, f_Plan_who, f_law_stands, f_Plan_leave, f_law_leaves, fa, C_SeatError, C_BadHall, C_BadName, C_Known, C_Unknown, C_NoSeat, C_Taken, C_Nothing, C_BadLine, C_Plan⟩ ⟨(PySem.W.fnOf "_law_row_by" "_law_row_by" (defArgs s_law_row_by) (defBody s_law_row_by) (defScope s_law_row_by) .none kV_law_row_by dc_law_row_by pm_law_row_by an_law_row_by cd_law_row_by ct_law_row_by), (PySem.W.fnOf "_law_cell_at" "_law_cell_at" (defArgs s_law_cell_at) (defBody s_law_cell_at) (defScope s_law_cell_at) .none kV_law_cell_at dc_law_cell_at pm_law_cell_at an_law_cell_at cd_law_cell_at ct_law_cell_at), (PySem.W.fnOf "_law_names_by" "_law_names_by" (defArgs s_law_names_by) (defBody s_law_names_by) (defScope s_law_names_by) .none kV_law_names_by dc_law_names_by pm_law_names_by an_law_names_by cd_law_names_by ct_law_names_by), (PySem.W.fnOf "_law_held_by" "_law_held_by" (defArgs s_law_held_by) (defBody s_law_held_by) (defScope s_law_held_by) .none kV_law_held_by dc_law_held_by pm_law_held_by an_law_held_by cd_law_held_by ct_law_held_by), (PySem.W.fnOf "need_row" "need_row" (defArgs s_need_row) (defBody s_need_row) (defScope s_need_row) .none kV_need_row dc_need_row pm_need_row an_need_row cd_need_row ct_need_row), (PySem.W.fnOf "need_hall" "need_hall" (defArgs s_need_hall) (defBody s_need_hall) (defScope s_need_hall) .none kV_need_hall dc_need_hall pm_need_hall an_need_hall cd_need_hall ct_need_hall), (PySem.W.fnOf "__init__" "Plan.__init__" (defArgs s_Plan___init__) (defBody s_Plan___init__) (defScope s_Plan___init__) .none kV_Plan___init__ dc_Plan___init__ pm_Plan___init__ an_Plan___init__ cd_Plan___init__ ct_Plan___init__), (PySem.W.fnOf "number_of" "number_of" (defArgs s_number_of) (defBody s_number_of) (defScope s_number_of) .none kV_number_of dc_number_of pm_number_of an_number_of cd_number_of ct_number_of), (PySem.W.fnOf "spot_of" "spot_of" (defArgs s_spot_of) (defBody s_spot_of) (defScope s_spot_of) .none kV_spot_of dc_spot_of pm_spot_of an_spot_of cd_spot_of ct_spot_of), (PySem.W.fnOf "parted" "parted" (defArgs s_parted) (defBody s_parted) (defScope s_parted) .none kV_parted dc_parted pm_parted an_parted cd_parted ct_parted), (PySem.W.fnOf "need_name" "need_name" (defArgs s_need_name) (defBody s_need_name) (defScope s_need_name) .none kV_need_name dc_need_name pm_need_name an_need_name cd_need_name ct_need_name), (PySem.W.fnOf "is_seat" "is_seat" (defArgs s_is_seat) (defBody s_is_seat) (defScope s_is_seat) .none kV_is_seat dc_is_seat pm_is_seat an_is_seat cd_is_seat ct_is_seat), (PySem.W.fnOf "read" "read" (defArgs s_read) (defBody s_read) (defScope s_read) .none kV_read dc_read pm_read an_read cd_read ct_read), (PySem.W.fnOf "_law_lines" "_law_lines" (defArgs s_law_lines) (defBody s_law_lines) (defScope s_law_lines) .none kV_law_lines dc_law_lines pm_law_lines an_law_lines cd_law_lines ct_law_lines), (PySem.W.fnOf "groups" "Plan.groups" (defArgs s_Plan_groups) (defBody s_Plan_groups) (defScope s_Plan_groups) .none kV_Plan_groups dc_Plan_groups pm_Plan_groups an_Plan_groups cd_Plan_groups ct_Plan_groups), (PySem.W.fnOf "back" "Plan.back" (defArgs s_Plan_back) (defBody s_Plan_back) (defScope s_Plan_back) .none kV_Plan_back dc_Plan_back pm_Plan_back an_Plan_back cd_Plan_back ct_Plan_back), (PySem.W.fnOf "_law_nothing" "_law_nothing" (defArgs s_law_nothing) (defBody s_law_nothing) (defScope s_law_nothing) .none kV_law_nothing dc_law_nothing pm_law_nothing an_law_nothing cd_law_nothing ct_law_nothing), (PySem.W.fnOf "_law_taken" "_law_taken" (defArgs s_law_taken) (defBody s_law_taken) (defScope s_law_taken) .none kV_law_taken dc_law_taken pm_law_taken an_law_taken cd_law_taken ct_law_taken), (PySem.W.fnOf "_law_due" "_law_due" (defArgs s_law_due) (defBody s_law_due) (defScope s_law_due) .none kV_law_due dc_law_due pm_law_due an_law_due cd_law_due ct_law_due), (PySem.W.fnOf "need_group" "Plan.need_group" (defArgs s_Plan_need_group) (defBody s_Plan_need_group) (defScope s_Plan_need_group) .none kV_Plan_need_group dc_Plan_need_group pm_Plan_need_group an_Plan_need_group cd_Plan_need_group ct_Plan_need_group), (PySem.W.fnOf "seats" "Plan.seats" (defArgs s_Plan_seats) (defBody s_Plan_seats) (defScope s_Plan_seats) .none kV_Plan_seats dc_Plan_seats pm_Plan_seats an_Plan_seats cd_Plan_seats ct_Plan_seats), (PySem.W.fnOf "spots_of" "spots_of" (defArgs s_spots_of) (defBody s_spots_of) (defScope s_spots_of) .none kV_spots_of dc_spots_of pm_spots_of an_spots_of cd_spots_of ct_spots_of), (PySem.W.fnOf "taken" "Plan.taken" (defArgs s_Plan_taken) (defBody s_Plan_taken) (defScope s_Plan_taken) .none kV_Plan_taken dc_Plan_taken pm_Plan_taken an_Plan_taken cd_Plan_taken ct_Plan_taken), (PySem.W.fnOf "keep" "Plan.keep" (defArgs s_Plan_keep) (defBody s_Plan_keep) (defScope s_Plan_keep) .none kV_Plan_keep dc_Plan_keep pm_Plan_keep an_Plan_keep cd_Plan_keep ct_Plan_keep), (PySem.W.fnOf "given" "Plan.given" (defArgs s_Plan_given) (defBody s_Plan_given) (defScope s_Plan_given) .none kV_Plan_given dc_Plan_given pm_Plan_given an_Plan_given cd_Plan_given ct_Plan_given), (PySem.W.fnOf "shift" "Plan.shift" (defArgs s_Plan_shift) (defBody s_Plan_shift) (defScope s_Plan_shift) .none kV_Plan_shift dc_Plan_shift pm_Plan_shift an_Plan_shift cd_Plan_shift ct_Plan_shift), (PySem.W.fnOf "_law_shifted" "_law_shifted" (defArgs s_law_shifted) (defBody s_law_shifted) (defScope s_law_shifted) .none kV_law_shifted dc_law_shifted pm_law_shifted an_law_shifted cd_law_shifted ct_law_shifted), (PySem.W.fnOf "blocks_in" "blocks_in" (defArgs s_blocks_in) (defBody s_blocks_in) (defScope s_blocks_in) .none kV_blocks_in dc_blocks_in pm_blocks_in an_blocks_in cd_blocks_in ct_blocks_in), (PySem.W.fnOf "blocks_of" "blocks_of" (defArgs s_blocks_of) (defBody s_blocks_of) (defScope s_blocks_of) .none kV_blocks_of dc_blocks_of pm_blocks_of an_blocks_of cd_blocks_of ct_blocks_of), (PySem.W.fnOf "runs_in" "runs_in" (defArgs s_runs_in) (defBody s_runs_in) (defScope s_runs_in) .none kV_runs_in dc_runs_in pm_runs_in an_runs_in cd_runs_in ct_runs_in), (PySem.W.fnOf "runs_of" "runs_of" (defArgs s_runs_of) (defBody s_runs_of) (defScope s_runs_of) .none kV_runs_of dc_runs_of pm_runs_of an_runs_of cd_runs_of ct_runs_of), (PySem.W.fnOf "free" "Plan.free" (defArgs s_Plan_free) (defBody s_Plan_free) (defScope s_Plan_free) .none kV_Plan_free dc_Plan_free pm_Plan_free an_Plan_free cd_Plan_free ct_Plan_free), (PySem.W.fnOf "_law_runs" "_law_runs" (defArgs s_law_runs) (defBody s_law_runs) (defScope s_law_runs) .none kV_law_runs dc_law_runs pm_law_runs an_law_runs cd_law_runs ct_law_runs), (PySem.W.fnOf "who" "Plan.who" (defArgs s_Plan_who) (defBody s_Plan_who) (defScope s_Plan_who) .none kV_Plan_who dc_Plan_who pm_Plan_who an_Plan_who cd_Plan_who ct_Plan_who), (PySem.W.fnOf "_law_stands" "_law_stands" (defArgs s_law_stands) (defBody s_law_stands) (defScope s_law_stands) .none kV_law_stands dc_law_stands pm_law_stands an_law_stands cd_law_stands ct_law_stands), (PySem.W.fnOf "leave" "Plan.leave" (defArgs s_Plan_leave) (defBody s_Plan_leave) (defScope s_Plan_leave) .none kV_Plan_leave dc_Plan_leave pm_Plan_leave an_Plan_leave cd_Plan_leave ct_Plan_leave), (PySem.W.fnOf "_law_leaves" "_law_leaves" (defArgs s_law_leaves) (defBody s_law_leaves) (defScope s_law_leaves) .none kV_law_leaves dc_law_leaves pm_law_leaves an_law_leaves cd_law_leaves ct_law_leaves), (PySem.W.fnOf "law" "law" (defArgs s_law) (defBody s_law) (defScope s_law) .none kV_law dc_law pm_law an_law cd_law ct_law)⟩ := {
    F_law_row_by := fun_mk (st := s_law_row_by) l_law_row_by c_law_row_by k_law_row_by,
    b_law_row_by := (fun_mk (st := s_law_row_by) l_law_row_by c_law_row_by k_law_row_by).binds (ps := ["_law_n"]) fun _ _ _ _ _ _ us hl => match us, hl with | [_], _ => rfl,
    m_law_row_by := PySem.W.mg_of X G a_law_row_by,
    F_law_cell_at := fun_mk (st := s_law_cell_at) l_law_cell_at c_law_cell_at k_law_cell_at,
    b_law_cell_at := (fun_mk (st := s_law_cell_at) l_law_cell_at c_law_cell_at k_law_cell_at).binds (ps := ["_law_script", "_law_k"]) fun _ _ _ _ _ _ us hl => match us, hl with | [_, _], _ => rfl,
    m_law_cell_at := PySem.W.mg_of X G a_law_cell_at,
    F_law_names_by := fun_mk (st := s_law_names_by) l_law_names_by c_law_names_by k_law_names_by,
    b_law_names_by := (fun_mk (st := s_law_names_by) l_law_names_by c_law_names_by k_law_names_by).binds (ps := ["_law_n", "_law_many"]) fun _ _ _ _ _ _ us hl => match us, hl with | [_, _], _ => rfl,
    m_law_names_by := PySem.W.mg_of X G a_law_names_by,
    F_law_held_by := fun_mk (st := s_law_held_by) l_law_held_by c_law_held_by k_law_held_by,
    b_law_held_by := (fun_mk (st := s_law_held_by) l_law_held_by c_law_held_by k_law_held_by).binds (ps := ["_law_rows", "_law_names", "_law_n"]) fun _ _ _ _ _ _ us hl => match us, hl with | [_, _, _], _ => rfl,
    m_law_held_by := PySem.W.mg_of X G a_law_held_by,
    F_need_row := fun_mk (st := s_need_row) l_need_row c_need_row k_need_row,
    b_need_row := (fun_mk (st := s_need_row) l_need_row c_need_row k_need_row).binds (ps := ["row"]) fun _ _ _ _ _ _ us hl => match us, hl with | [_], _ => rfl,
    m_need_row := PySem.W.mg_of X G a_need_row,
    F_need_hall := fun_mk (st := s_need_hall) l_need_hall c_need_hall k_need_hall,
    b_need_hall := (fun_mk (st := s_need_hall) l_need_hall c_need_hall k_need_hall).binds (ps := ["rows"]) fun _ _ _ _ _ _ us hl => match us, hl with | [_], _ => rfl,
    m_need_hall := PySem.W.mg_of X G a_need_hall,
    F_Plan___init__ := fun_mk (st := s_Plan___init__) l_Plan___init__ c_Plan___init__ k_Plan___init__,
    b_Plan___init__ := (fun_mk (st := s_Plan___init__) l_Plan___init__ c_Plan___init__ k_Plan___init__).binds (ps := ["self", "rows"]) fun _ _ _ _ _ _ us hl => match us, hl with | [_, _], _ => rfl,
    F_number_of := fun_mk (st := s_number_of) l_number_of c_number_of k_number_of,
    b_number_of := (fun_mk (st := s_number_of) l_number_of c_number_of k_number_of).binds (ps := ["word"]) fun _ _ _ _ _ _ us hl => match us, hl with | [_], _ => rfl,
    m_number_of := PySem.W.mg_of X G a_number_of,
    F_spot_of := fun_mk (st := s_spot_of) l_spot_of c_spot_of k_spot_of,
    b_spot_of := (fun_mk (st := s_spot_of) l_spot_of c_spot_of k_spot_of).binds (ps := ["word"]) fun _ _ _ _ _ _ us hl => match us, hl with | [_], _ => rfl,
    m_spot_of := PySem.W.mg_of X G a_spot_of,
    F_parted := fun_mk (st := s_parted) l_parted c_parted k_parted,
    b_parted := (fun_mk (st := s_parted) l_parted c_parted k_parted).binds (ps := ["line"]) fun _ _ _ _ _ _ us hl => match us, hl with | [_], _ => rfl,
    m_parted := PySem.W.mg_of X G a_parted,
    F_need_name := fun_mk (st := s_need_name) l_need_name c_need_name k_need_name,
    b_need_name := (fun_mk (st := s_need_name) l_need_name c_need_name k_need_name).binds (ps := ["name"]) fun _ _ _ _ _ _ us hl => match us, hl with | [_], _ => rfl,
    m_need_name := PySem.W.mg_of X G a_need_name,
    F_is_seat := fun_mk (st := s_is_seat) l_is_seat c_is_seat k_is_seat,
    b_is_seat := (fun_mk (st := s_is_seat) l_is_seat c_is_seat k_is_seat).binds (ps := ["rows", "row", "place"]) fun _ _ _ _ _ _ us hl => match us, hl with | [_, _, _], _ => rfl,
    m_is_seat := PySem.W.mg_of X G a_is_seat,
    F_read := fun_mk (st := s_read) l_read c_read k_read,
    b_read := (fun_mk (st := s_read) l_read c_read k_read).binds (ps := ["rows", "lines"]) fun _ _ _ _ _ _ us hl => match us, hl with | [_, _], _ => rfl,
    m_read := PySem.W.mg_of X G a_read,
    F_law_lines := fun_mk (st := s_law_lines) l_law_lines c_law_lines k_law_lines,
    b_law_lines := (fun_mk (st := s_law_lines) l_law_lines c_law_lines k_law_lines).binds (ps := ["_law_held"]) fun _ _ _ _ _ _ us hl => match us, hl with | [_], _ => rfl,
    m_law_lines := PySem.W.mg_of X G a_law_lines,
    F_Plan_groups := fun_mk (st := s_Plan_groups) l_Plan_groups c_Plan_groups k_Plan_groups,
    b_Plan_groups := (fun_mk (st := s_Plan_groups) l_Plan_groups c_Plan_groups k_Plan_groups).binds (ps := ["self"]) fun _ _ _ _ _ _ us hl => match us, hl with | [_], _ => rfl,
    F_Plan_back := fun_mk (st := s_Plan_back) l_Plan_back c_Plan_back k_Plan_back,
    b_Plan_back := (fun_mk (st := s_Plan_back) l_Plan_back c_Plan_back k_Plan_back).binds (ps := ["self"]) fun _ _ _ _ _ _ us hl => match us, hl with | [_], _ => rfl,
    F_law_nothing := fun_mk (st := s_law_nothing) l_law_nothing c_law_nothing k_law_nothing,
    b_law_nothing := (fun_mk (st := s_law_nothing) l_law_nothing c_law_nothing k_law_nothing).binds (ps := ["_law_plan"]) fun _ _ _ _ _ _ us hl => match us, hl with | [_], _ => rfl,
    m_law_nothing := PySem.W.mg_of X G a_law_nothing,
    F_law_taken := fun_mk (st := s_law_taken) l_law_taken c_law_taken k_law_taken,
    b_law_taken := (fun_mk (st := s_law_taken) l_law_taken c_law_taken k_law_taken).binds (ps := ["_law_held"]) fun _ _ _ _ _ _ us hl => match us, hl with | [_], _ => rfl,
    m_law_taken := PySem.W.mg_of X G a_law_taken,
    F_law_due := fun_mk (st := s_law_due) l_law_due c_law_due k_law_due,
    b_law_due := (fun_mk (st := s_law_due) l_law_due c_law_due k_law_due).binds (ps := ["_law_rows", "_law_held", "_law_name", "_law_row", "_law_first"]) fun _ _ _ _ _ _ us hl => match us, hl with | [_, _, _, _, _], _ => rfl,
    m_law_due := PySem.W.mg_of X G a_law_due,
    F_Plan_need_group := fun_mk (st := s_Plan_need_group) l_Plan_need_group c_Plan_need_group k_Plan_need_group,
    b_Plan_need_group := (fun_mk (st := s_Plan_need_group) l_Plan_need_group c_Plan_need_group k_Plan_need_group).binds (ps := ["self", "name"]) fun _ _ _ _ _ _ us hl => match us, hl with | [_, _], _ => rfl,
    F_Plan_seats := fun_mk (st := s_Plan_seats) l_Plan_seats c_Plan_seats k_Plan_seats,
    b_Plan_seats := (fun_mk (st := s_Plan_seats) l_Plan_seats c_Plan_seats k_Plan_seats).binds (ps := ["self", "name"]) fun _ _ _ _ _ _ us hl => match us, hl with | [_, _], _ => rfl,
    F_spots_of := fun_mk (st := s_spots_of) l_spots_of c_spots_of k_spots_of,
    b_spots_of := (fun_mk (st := s_spots_of) l_spots_of c_spots_of k_spots_of).binds (ps := ["run", "size"]) fun _ _ _ _ _ _ us hl => match us, hl with | [_, _], _ => rfl,
    m_spots_of := PySem.W.mg_of X G a_spots_of,
    F_Plan_taken := fun_mk (st := s_Plan_taken) l_Plan_taken c_Plan_taken k_Plan_taken,
    b_Plan_taken := (fun_mk (st := s_Plan_taken) l_Plan_taken c_Plan_taken k_Plan_taken).binds (ps := ["self"]) fun _ _ _ _ _ _ us hl => match us, hl with | [_], _ => rfl,
    F_Plan_keep := fun_mk (st := s_Plan_keep) l_Plan_keep c_Plan_keep k_Plan_keep,
    b_Plan_keep := (fun_mk (st := s_Plan_keep) l_Plan_keep c_Plan_keep k_Plan_keep).binds (ps := ["self", "held"]) fun _ _ _ _ _ _ us hl => match us, hl with | [_, _], _ => rfl,
    F_Plan_given := fun_mk (st := s_Plan_given) l_Plan_given c_Plan_given k_Plan_given,
    b_Plan_given := (fun_mk (st := s_Plan_given) l_Plan_given c_Plan_given k_Plan_given).binds (ps := ["self", "name", "spots"]) fun _ _ _ _ _ _ us hl => match us, hl with | [_, _, _], _ => rfl,
    F_Plan_shift := fun_mk (st := s_Plan_shift) l_Plan_shift c_Plan_shift k_Plan_shift,
    b_Plan_shift := (fun_mk (st := s_Plan_shift) l_Plan_shift c_Plan_shift k_Plan_shift).binds (ps := ["self", "name", "row", "first"]) fun _ _ _ _ _ _ us hl => match us, hl with | [_, _, _, _], _ => rfl,
    F_law_shifted := fun_mk (st := s_law_shifted) l_law_shifted c_law_shifted k_law_shifted,
    b_law_shifted := (fun_mk (st := s_law_shifted) l_law_shifted c_law_shifted k_law_shifted).binds (ps := ["_law_plan", "_law_name", "_law_row", "_law_first"]) fun _ _ _ _ _ _ us hl => match us, hl with | [_, _, _, _], _ => rfl,
    m_law_shifted := PySem.W.mg_of X G a_law_shifted,
    F_blocks_in := fun_mk (st := s_blocks_in) l_blocks_in c_blocks_in k_blocks_in,
    b_blocks_in := (fun_mk (st := s_blocks_in) l_blocks_in c_blocks_in k_blocks_in).binds (ps := ["row", "line"]) fun _ _ _ _ _ _ us hl => match us, hl with | [_, _], _ => rfl,
    m_blocks_in := PySem.W.mg_of X G a_blocks_in,
    F_blocks_of := fun_mk (st := s_blocks_of) l_blocks_of c_blocks_of k_blocks_of,
    b_blocks_of := (fun_mk (st := s_blocks_of) l_blocks_of c_blocks_of k_blocks_of).binds (ps := ["rows"]) fun _ _ _ _ _ _ us hl => match us, hl with | [_], _ => rfl,
    m_blocks_of := PySem.W.mg_of X G a_blocks_of,
    F_runs_in := fun_mk (st := s_runs_in) l_runs_in c_runs_in k_runs_in,
    b_runs_in := (fun_mk (st := s_runs_in) l_runs_in c_runs_in k_runs_in).binds (ps := ["block", "taken"]) fun _ _ _ _ _ _ us hl => match us, hl with | [_, _], _ => rfl,
    m_runs_in := PySem.W.mg_of X G a_runs_in,
    F_runs_of := fun_mk (st := s_runs_of) l_runs_of c_runs_of k_runs_of,
    b_runs_of := (fun_mk (st := s_runs_of) l_runs_of c_runs_of k_runs_of).binds (ps := ["rows", "taken"]) fun _ _ _ _ _ _ us hl => match us, hl with | [_, _], _ => rfl,
    m_runs_of := PySem.W.mg_of X G a_runs_of,
    F_Plan_free := fun_mk (st := s_Plan_free) l_Plan_free c_Plan_free k_Plan_free,
    b_Plan_free := (fun_mk (st := s_Plan_free) l_Plan_free c_Plan_free k_Plan_free).binds (ps := ["self"]) fun _ _ _ _ _ _ us hl => match us, hl with | [_], _ => rfl,
    F_law_runs := fun_mk (st := s_law_runs) l_law_runs c_law_runs k_law_runs,
    b_law_runs := (fun_mk (st := s_law_runs) l_law_runs c_law_runs k_law_runs).binds (ps := ["_law_rows", "_law_taken_here"]) fun _ _ _ _ _ _ us hl => match us, hl with | [_, _], _ => rfl,
    m_law_runs := PySem.W.mg_of X G a_law_runs,
    F_Plan_who := fun_mk (st := s_Plan_who) l_Plan_who c_Plan_who k_Plan_who,
    b_Plan_who := (fun_mk (st := s_Plan_who) l_Plan_who c_Plan_who k_Plan_who).binds (ps := ["self", "row", "place"]) fun _ _ _ _ _ _ us hl => match us, hl with | [_, _, _], _ => rfl,
    F_law_stands := fun_mk (st := s_law_stands) l_law_stands c_law_stands k_law_stands,
    b_law_stands := (fun_mk (st := s_law_stands) l_law_stands c_law_stands k_law_stands).binds (ps := ["_law_plan", "_law_rows", "_law_held"]) fun _ _ _ _ _ _ us hl => match us, hl with | [_, _, _], _ => rfl,
    m_law_stands := PySem.W.mg_of X G a_law_stands,
    F_Plan_leave := fun_mk (st := s_Plan_leave) l_Plan_leave c_Plan_leave k_Plan_leave,
    b_Plan_leave := (fun_mk (st := s_Plan_leave) l_Plan_leave c_Plan_leave k_Plan_leave).binds (ps := ["self", "name"]) fun _ _ _ _ _ _ us hl => match us, hl with | [_, _], _ => rfl,
    F_law_leaves := fun_mk (st := s_law_leaves) l_law_leaves c_law_leaves k_law_leaves,
    b_law_leaves := (fun_mk (st := s_law_leaves) l_law_leaves c_law_leaves k_law_leaves).binds (ps := ["_law_plan", "_law_rows", "_law_held", "_law_n"]) fun _ _ _ _ _ _ us hl => match us, hl with | [_, _, _, _], _ => rfl,
    m_law_leaves := PySem.W.mg_of X G a_law_leaves,
    F_law := fun_mk (st := s_law) l_law c_law k_law,
    b_law := (fun_mk (st := s_law) l_law c_law k_law).binds (ps := ["_law_script"]) fun _ _ _ _ _ _ us hl => match us, hl with | [_], _ => rfl,
    m_law := PySem.W.mg_of X G a_law,
    z_dict := PySem.W.mg_none_of X G z_dict,
    z_int := PySem.W.mg_none_of X G z_int,
    z_isinstance := PySem.W.mg_none_of X G z_isinstance,
    z_len := PySem.W.mg_none_of X G z_len,
    z_list := PySem.W.mg_none_of X G z_list,
    z_max := PySem.W.mg_none_of X G z_max,
    z_range := PySem.W.mg_none_of X G z_range,
    z_str := PySem.W.mg_none_of X G z_str,
    g_NoSeat := PySem.W.mg_of X G aC_NoSeat,
    g_Nothing := PySem.W.mg_of X G aC_Nothing,
    g_Taken := PySem.W.mg_of X G aC_Taken,
    xm_NoSeat_NoSeat := PySem.W.exm_ref xb_NoSeat hd_NoSeat xt_NoSeat sb_NoSeat_NoSeat,
    xm_NoSeat_Taken := PySem.W.exm_ref xb_Taken hd_Taken xt_Taken sb_NoSeat_Taken,
    xm_Nothing_Nothing := PySem.W.exm_ref xb_Nothing hd_Nothing xt_Nothing sb_Nothing_Nothing,
    xm_Taken_NoSeat := PySem.W.exm_ref xb_NoSeat hd_NoSeat xt_NoSeat sb_Taken_NoSeat,
    xm_Taken_Taken := PySem.W.exm_ref xb_Taken hd_Taken xt_Taken sb_Taken_Taken,
    cl := ⟨pl_pg, pl_hd, pl_po, pl_sa⟩,
    n_hall := pl_n_hall,
    n_held := pl_n_held,
    n_past := pl_n_past,
    me_Plan_groups := ⟨a_Plan_groups, i_Plan_groups, k_Plan_groups⟩,
    me_Plan_back := ⟨a_Plan_back, i_Plan_back, k_Plan_back⟩,
    me_Plan_need_group := ⟨a_Plan_need_group, i_Plan_need_group, k_Plan_need_group⟩,
    me_Plan_seats := ⟨a_Plan_seats, i_Plan_seats, k_Plan_seats⟩,
    me_Plan_taken := ⟨a_Plan_taken, i_Plan_taken, k_Plan_taken⟩,
    me_Plan_keep := ⟨a_Plan_keep, i_Plan_keep, k_Plan_keep⟩,
    me_Plan_given := ⟨a_Plan_given, i_Plan_given, k_Plan_given⟩,
    me_Plan_shift := ⟨a_Plan_shift, i_Plan_shift, k_Plan_shift⟩,
    me_Plan_free := ⟨a_Plan_free, i_Plan_free, k_Plan_free⟩,
    me_Plan_who := ⟨a_Plan_who, i_Plan_who, k_Plan_who⟩,
    me_Plan_leave := ⟨a_Plan_leave, i_Plan_leave, k_Plan_leave⟩,
    isC := ⟨⟨pl_pg, pl_hd, pl_po, pl_sa⟩, pl_ca, en_, et_, pl_mro, kit_sub pl_hd pl_ty pl_sb (fun _ => rfl)⟩,
    mkP := ⟨pl_mk, a_Plan___init__, i_Plan___init__, pl_kc⟩,
    m_Plan := PySem.W.mg_of X G aC_Plan,
    x_BadHall := ⟨PySem.W.mg_of X G aC_BadHall, xq_BadHall, xk_BadHall, xb_BadHall, xt_BadHall⟩,
    x_BadLine := ⟨PySem.W.mg_of X G aC_BadLine, xq_BadLine, xk_BadLine, xb_BadLine, xt_BadLine⟩,
    x_BadName := ⟨PySem.W.mg_of X G aC_BadName, xq_BadName, xk_BadName, xb_BadName, xt_BadName⟩,
    x_Known := ⟨PySem.W.mg_of X G aC_Known, xq_Known, xk_Known, xb_Known, xt_Known⟩,
    x_NoSeat := ⟨PySem.W.mg_of X G aC_NoSeat, xq_NoSeat, xk_NoSeat, xb_NoSeat, xt_NoSeat⟩,
    x_Nothing := ⟨PySem.W.mg_of X G aC_Nothing, xq_Nothing, xk_Nothing, xb_Nothing, xt_Nothing⟩,
    x_Taken := ⟨PySem.W.mg_of X G aC_Taken, xq_Taken, xk_Taken, xb_Taken, xt_Taken⟩,
    x_Unknown := ⟨PySem.W.mg_of X G aC_Unknown, xq_Unknown, xk_Unknown, xb_Unknown, xt_Unknown⟩,
    c_GAP := ⟨_, PySem.W.mg_of X G ac_GAP⟩,
    c_MOST_NAME := ⟨_, PySem.W.mg_of X G ac_MOST_NAME⟩,
    c_MOST_ROWS := ⟨_, PySem.W.mg_of X G ac_MOST_ROWS⟩,
    c_MOST_SIGNS := ⟨_, PySem.W.mg_of X G ac_MOST_SIGNS⟩,
    c_SEAT := ⟨_, PySem.W.mg_of X G ac_SEAT⟩,
    c_SIGNS := ⟨_, PySem.W.mg_of X G ac_SIGNS⟩ }
  exact ⟨_, fun s v => .of_eq rfl, fun base _ _ => (ok_law T).imp fun vs H Q E h => sp_law h law_true⟩
theorem walk {l : PySem.W.OpenLaw} {q : Program} {loose : List Str} {XP : (Str → Option Value) → Heap → Prop} {YP : World → Heap → Prop} {d : DefRec} {K : Params → PySem.W.Frag} (hn : l.most = some 63) (hdf : d.params.defaults = [])
    (hY : ∀ (w : World) (h : Heap), YP w h → (K w.params).In h)
    (F : ∀ (w : World) (mg : Str → Option Value) (fa : Addr) (h : Heap), (K w.params).In h → h.Ns mainGlobals mg → mg d.name = some (.ref fa) →
      ∃ fd : FuncData, (∀ (s : Shared) (u : Value), BindsTo s fd ⟨[u], []⟩ [("_law_script", u)]) ∧ ∀ base : Heap, (K w.params).In base → base.Ns mainGlobals mg → FnOk l.prog w (K w.params) mg base (L2.CX l.prog w) 7 fa fd ["_law_script"] (spLaw (K w.params))) :
    PySem.W.WalkO q loose XP YP l.row.toRowW d [] (fun f vs => PySem.call f vs) :=
  L2.walk_of (n := 63) (k := 7) (x := "_law_script") (CX := fun w => L2.CX l.prog w) (sp := fun w => spLaw (K w.params)) hn (by decide) hdf ⟨rfl, by decide, by decide⟩ hY F (fun _ _ a ns hl _ hS => ⟨a, ns, rfl, hS, hl, fun _ => rfl⟩) fun _ _ _ _ _ z => by
    obtain ⟨_, _, _, _, _, _, _, _, _, _, _, _, z⟩ := z
    exact z.elim
end LW
open PySem PySem.W PyProof.Rows in
set_option maxRecDepth 100000 in
set_option maxHeartbeats 0 in
theorem PySem.Challenge.cw_seatplan_k08_shifts_and_leaves_holds : PySem.Challenge.rw_seatplan_k08_shifts_and_leaves.Holds := by
  w_on; o_law; k_head; (case hw => w_witness2)
  k_fill
  refine LW.walk (l := PySem.Challenge.rw_seatplan_k08_shifts_and_leaves) rfl rfl (fun w h Y => PySem.W.kIn_of Y) ?F
  case F =>
    intro w mg fa h KX G hmg
    refine' LW.all_mk KX G hmg ?aC_SeatError ?aC_BadHall ?aC_BadName ?aC_Known ?aC_Unknown ?aC_NoSeat ?aC_Taken ?aC_Nothing ?aC_BadLine ?aC_Plan ?xq_BadHall ?xk_BadHall ?xb_BadHall ?xt_BadHall ?xq_BadLine ?xk_BadLine ?xb_BadLine ?xt_BadLine ?xq_BadName ?xk_BadName ?xb_BadName ?xt_BadName ?xq_Known ?xk_Known ?xb_Known ?xt_Known ?xq_NoSeat ?xk_NoSeat ?xb_NoSeat ?xt_NoSeat ?xq_Nothing ?xk_Nothing ?xb_Nothing ?xt_Nothing ?xq_Taken ?xk_Taken ?xb_Taken ?xt_Taken ?xq_Unknown ?xk_Unknown ?xb_Unknown ?xt_Unknown ?ac_GAP ?ac_MOST_NAME ?ac_MOST_ROWS ?ac_MOST_SIGNS ?ac_SEAT ?ac_SIGNS ?a_law_row_by ?l_law_row_by ?c_law_row_by ?k_law_row_by ?a_law_cell_at ?l_law_cell_at ?c_law_cell_at ?k_law_cell_at ?a_law_names_by ?l_law_names_by ?c_law_names_by ?k_law_names_by ?a_law_held_by ?l_law_held_by ?c_law_held_by ?k_law_held_by ?a_need_row ?l_need_row ?c_need_row ?k_need_row ?a_need_hall ?l_need_hall ?c_need_hall ?k_need_hall ?a_Plan___init__ ?i_Plan___init__ ?l_Plan___init__ ?c_Plan___init__ ?k_Plan___init__ ?a_number_of ?l_number_of ?c_number_of ?k_number_of ?a_spot_of ?l_spot_of ?c_spot_of ?k_spot_of ?a_parted ?l_parted ?c_parted ?k_parted ?a_need_name ?l_need_name ?c_need_name ?k_need_name ?a_is_seat ?l_is_seat ?c_is_seat ?k_is_seat ?a_read ?l_read ?c_read ?k_read ?a_law_lines ?l_law_lines ?c_law_lines ?k_law_lines ?a_Plan_groups ?i_Plan_groups ?l_Plan_groups ?c_Plan_groups ?k_Plan_groups ?a_Plan_back ?i_Plan_back ?l_Plan_back ?c_Plan_back ?k_Plan_back ?a_law_nothing ?l_law_nothing ?c_law_nothing ?k_law_nothing ?a_law_taken ?l_law_taken ?c_law_taken ?k_law_taken ?a_law_due ?l_law_due ?c_law_due ?k_law_due ?a_Plan_need_group ?i_Plan_need_group ?l_Plan_need_group ?c_Plan_need_group ?k_Plan_need_group ?a_Plan_seats ?i_Plan_seats ?l_Plan_seats ?c_Plan_seats ?k_Plan_seats ?a_spots_of ?l_spots_of ?c_spots_of ?k_spots_of ?a_Plan_taken ?i_Plan_taken ?l_Plan_taken ?c_Plan_taken ?k_Plan_taken ?a_Plan_keep ?i_Plan_keep ?l_Plan_keep ?c_Plan_keep ?k_Plan_keep ?a_Plan_given ?i_Plan_given ?l_Plan_given ?c_Plan_given ?k_Plan_given ?a_Plan_shift ?i_Plan_shift ?l_Plan_shift ?c_Plan_shift ?k_Plan_shift ?a_law_shifted ?l_law_shifted ?c_law_shifted ?k_law_shifted ?a_blocks_in ?l_blocks_in ?c_blocks_in ?k_blocks_in ?a_blocks_of ?l_blocks_of ?c_blocks_of ?k_blocks_of ?a_runs_in ?l_runs_in ?c_runs_in ?k_runs_in ?a_runs_of ?l_runs_of ?c_runs_of ?k_runs_of ?a_Plan_free ?i_Plan_free ?l_Plan_free ?c_Plan_free ?k_Plan_free ?a_law_runs ?l_law_runs ?c_law_runs ?k_law_runs ?a_Plan_who ?i_Plan_who ?l_Plan_who ?c_Plan_who ?k_Plan_who ?a_law_stands ?l_law_stands ?c_law_stands ?k_law_stands ?a_Plan_leave ?i_Plan_leave ?l_Plan_leave ?c_Plan_leave ?k_Plan_leave ?a_law_leaves ?l_law_leaves ?c_law_leaves ?k_law_leaves ?a_law ?l_law ?c_law ?k_law ?z_dict ?z_int ?z_isinstance ?z_len ?z_list ?z_max ?z_range ?z_str ?sb_NoSeat_NoSeat ?sb_NoSeat_Taken ?sb_Nothing_Nothing ?sb_Taken_NoSeat ?sb_Taken_Taken ?hd_NoSeat ?hd_Nothing ?hd_Taken ?pl_pg ?pl_hd ?pl_po ?pl_sa ?pl_mk ?pl_kc ?pl_ca ?pl_mro ?pl_ty ?pl_sb ?en_ ?et_ ?pl_n_hall ?pl_n_held ?pl_n_past
    (case aC_SeatError => k_is)
    (case aC_BadHall => k_is)
    (case aC_BadName => k_is)
    (case aC_Known => k_is)
    (case aC_Unknown => k_is)
    (case aC_NoSeat => k_is)
    (case aC_Taken => k_is)
    (case aC_Nothing => k_is)
    (case aC_BadLine => k_is)
    (case aC_Plan => k_is)
    (case xq_BadHall => k_exc)
    (case xk_BadHall => k_is)
    (case xb_BadHall => k_is)
    (case xt_BadHall => k_is)
    (case xq_BadLine => k_exc)
    (case xk_BadLine => k_is)
    (case xb_BadLine => k_is)
    (case xt_BadLine => k_is)
    (case xq_BadName => k_exc)
    (case xk_BadName => k_is)
    (case xb_BadName => k_is)
    (case xt_BadName => k_is)
    (case xq_Known => k_exc)
    (case xk_Known => k_is)
    (case xb_Known => k_is)
    (case xt_Known => k_is)
    (case xq_NoSeat => k_exc)
    (case xk_NoSeat => k_is)
    (case xb_NoSeat => k_is)
    (case xt_NoSeat => k_is)
    (case xq_Nothing => k_exc)
    (case xk_Nothing => k_is)
    (case xb_Nothing => k_is)
    (case xt_Nothing => k_is)
    (case xq_Taken => k_exc)
    (case xk_Taken => k_is)
    (case xb_Taken => k_is)
    (case xt_Taken => k_is)
    (case xq_Unknown => k_exc)
    (case xk_Unknown => k_is)
    (case xb_Unknown => k_is)
    (case xt_Unknown => k_is)
    (case ac_GAP => k_is)
    (case ac_MOST_NAME => k_is)
    (case ac_MOST_ROWS => k_is)
    (case ac_MOST_SIGNS => k_is)
    (case ac_SEAT => k_is)
    (case ac_SIGNS => k_is)
    (case a_law_row_by => k_is)
    (case l_law_row_by => k_is)
    (case c_law_row_by => k_is)
    (case k_law_row_by => k_is)
    (case a_law_cell_at => k_is)
    (case l_law_cell_at => k_is)
    (case c_law_cell_at => k_is)
    (case k_law_cell_at => k_is)
    (case a_law_names_by => k_is)
    (case l_law_names_by => k_is)
    (case c_law_names_by => k_is)
    (case k_law_names_by => k_is)
    (case a_law_held_by => k_is)
    (case l_law_held_by => k_is)
    (case c_law_held_by => k_is)
    (case k_law_held_by => k_is)
    (case a_need_row => k_is)
    (case l_need_row => k_is)
    (case c_need_row => k_is)
    (case k_need_row => k_is)
    (case a_need_hall => k_is)
    (case l_need_hall => k_is)
    (case c_need_hall => k_is)
    (case k_need_hall => k_is)
    (case a_Plan___init__ => k_is)
    (case i_Plan___init__ => k_is)
    (case l_Plan___init__ => k_is)
    (case c_Plan___init__ => k_is)
    (case k_Plan___init__ => k_is)
    (case a_number_of => k_is)
    (case l_number_of => k_is)
    (case c_number_of => k_is)
    (case k_number_of => k_is)
    (case a_spot_of => k_is)
    (case l_spot_of => k_is)
    (case c_spot_of => k_is)
    (case k_spot_of => k_is)
    (case a_parted => k_is)
    (case l_parted => k_is)
    (case c_parted => k_is)
    (case k_parted => k_is)
    (case a_need_name => k_is)
    (case l_need_name => k_is)
    (case c_need_name => k_is)
    (case k_need_name => k_is)
    (case a_is_seat => k_is)
    (case l_is_seat => k_is)
    (case c_is_seat => k_is)
    (case k_is_seat => k_is)
    (case a_read => k_is)
    (case l_read => k_is)
    (case c_read => k_is)
    (case k_read => k_is)
    (case a_law_lines => k_is)
    (case l_law_lines => k_is)
    (case c_law_lines => k_is)
    (case k_law_lines => k_is)
    (case a_Plan_groups => k_is)
    (case i_Plan_groups => k_is)
    (case l_Plan_groups => k_is)
    (case c_Plan_groups => k_is)
    (case k_Plan_groups => k_is)
    (case a_Plan_back => k_is)
    (case i_Plan_back => k_is)
    (case l_Plan_back => k_is)
    (case c_Plan_back => k_is)
    (case k_Plan_back => k_is)
    (case a_law_nothing => k_is)
    (case l_law_nothing => k_is)
    (case c_law_nothing => k_is)
    (case k_law_nothing => k_is)
    (case a_law_taken => k_is)
    (case l_law_taken => k_is)
    (case c_law_taken => k_is)
    (case k_law_taken => k_is)
    (case a_law_due => k_is)
    (case l_law_due => k_is)
    (case c_law_due => k_is)
    (case k_law_due => k_is)
    (case a_Plan_need_group => k_is)
    (case i_Plan_need_group => k_is)
    (case l_Plan_need_group => k_is)
    (case c_Plan_need_group => k_is)
    (case k_Plan_need_group => k_is)
    (case a_Plan_seats => k_is)
    (case i_Plan_seats => k_is)
    (case l_Plan_seats => k_is)
    (case c_Plan_seats => k_is)
    (case k_Plan_seats => k_is)
    (case a_spots_of => k_is)
    (case l_spots_of => k_is)
    (case c_spots_of => k_is)
    (case k_spots_of => k_is)
    (case a_Plan_taken => k_is)
    (case i_Plan_taken => k_is)
    (case l_Plan_taken => k_is)
    (case c_Plan_taken => k_is)
    (case k_Plan_taken => k_is)
    (case a_Plan_keep => k_is)
    (case i_Plan_keep => k_is)
    (case l_Plan_keep => k_is)
    (case c_Plan_keep => k_is)
    (case k_Plan_keep => k_is)
    (case a_Plan_given => k_is)
    (case i_Plan_given => k_is)
    (case l_Plan_given => k_is)
    (case c_Plan_given => k_is)
    (case k_Plan_given => k_is)
    (case a_Plan_shift => k_is)
    (case i_Plan_shift => k_is)
    (case l_Plan_shift => k_is)
    (case c_Plan_shift => k_is)
    (case k_Plan_shift => k_is)
    (case a_law_shifted => k_is)
    (case l_law_shifted => k_is)
    (case c_law_shifted => k_is)
    (case k_law_shifted => k_is)
    (case a_blocks_in => k_is)
    (case l_blocks_in => k_is)
    (case c_blocks_in => k_is)
    (case k_blocks_in => k_is)
    (case a_blocks_of => k_is)
    (case l_blocks_of => k_is)
    (case c_blocks_of => k_is)
    (case k_blocks_of => k_is)
    (case a_runs_in => k_is)
    (case l_runs_in => k_is)
    (case c_runs_in => k_is)
    (case k_runs_in => k_is)
    (case a_runs_of => k_is)
    (case l_runs_of => k_is)
    (case c_runs_of => k_is)
    (case k_runs_of => k_is)
    (case a_Plan_free => k_is)
    (case i_Plan_free => k_is)
    (case l_Plan_free => k_is)
    (case c_Plan_free => k_is)
    (case k_Plan_free => k_is)
    (case a_law_runs => k_is)
    (case l_law_runs => k_is)
    (case c_law_runs => k_is)
    (case k_law_runs => k_is)
    (case a_Plan_who => k_is)
    (case i_Plan_who => k_is)
    (case l_Plan_who => k_is)
    (case c_Plan_who => k_is)
    (case k_Plan_who => k_is)
    (case a_law_stands => k_is)
    (case l_law_stands => k_is)
    (case c_law_stands => k_is)
    (case k_law_stands => k_is)
    (case a_Plan_leave => k_is)
    (case i_Plan_leave => k_is)
    (case l_Plan_leave => k_is)
    (case c_Plan_leave => k_is)
    (case k_Plan_leave => k_is)
    (case a_law_leaves => k_is)
    (case l_law_leaves => k_is)
    (case c_law_leaves => k_is)
    (case k_law_leaves => k_is)
    (case a_law => k_is)
    (case l_law => k_is)
    (case c_law => k_is)
    (case k_law => k_is)
    (case z_dict => k_is)
    (case z_int => k_is)
    (case z_isinstance => k_is)
    (case z_len => k_is)
    (case z_list => k_is)
    (case z_max => k_is)
    (case z_range => k_is)
    (case z_str => k_is)
    (case sb_NoSeat_NoSeat => k_is)
    (case sb_NoSeat_Taken => k_is)
    (case sb_Nothing_Nothing => k_is)
    (case sb_Taken_NoSeat => k_is)
    (case sb_Taken_Taken => k_is)
    (case hd_NoSeat => k_is)
    (case hd_Nothing => k_is)
    (case hd_Taken => k_is)
    (case pl_pg => k_is)
    (case pl_hd => k_is)
    (case pl_po => k_is)
    (case pl_sa => k_is)
    (case pl_mk => k_is)
    (case pl_kc => k_is)
    (case pl_ca => k_is)
    (case pl_mro => k_is)
    (case pl_ty => k_is)
    (case pl_sb => k_is)
    (case en_ => k_is)
    (case et_ => k_is)
    (case pl_n_hall => k_is)
    (case pl_n_held => k_is)
    (case pl_n_past => k_is)
#print axioms PySem.Challenge.cw_seatplan_k08_shifts_and_leaves_holds
